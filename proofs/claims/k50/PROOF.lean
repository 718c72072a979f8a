import PyProof.Rows.All
import Wide.All
import OpenK.AllK
import Wide.FinOn
import HandS.ForMost
import HandS.Wide
import HandS.WideMore
import HandS.WideBits
import HandS.IsInst
import HandS.SortInts
import HandS.SetFor
import HandS.Zip
import HandS.Rev
import HandS.RevRange
import HandS.Flow
import HandS.Style
import HandS.Conv
import HandS.NoneIn
import HandS.EndBits
import HandS.More
import HandS.Dict
import HandS.Iter
import HandS.Strs
import HandS.Exc
import HandS.TryOnly
import HandS.ExcOwn
import HandS.WordsExc
import HandS.ExcIs
import HandS.HotCalls
import HandS.ExcInitHot
import KE.GoesEnum
import KE.KDictCopyH
import HandS.Lambda
import HandS.Nested
import HandS.HeadWalk
import HandS.TupAny
import PySem.Challenge.RW_everyplace_k50_what_is_not_small
set_option Elab.async false
set_option linter.all false
set_option maxRecDepth 100000
set_option maxHeartbeats 4000000
/-! MiP: partial functions of plain Lean, into which the program is read. -/
namespace Mi

/-! ### plain side: partial functions of plain Lean -/
theorem bind_some {α β : Type} {m : Option α} {f : α → Option β} {r : β} (h : m.bind f = some r) : ∃ a, m = some a ∧ f a = some r := by
  cases m with
  | none => cases h
  | some a => exact ⟨a, rfl, h⟩
def mulO (a b : Int) : Option Int := if a.natAbs.log2 + b.natAbs.log2 < 134000000 then some (a * b) else none
def divO (a b : Int) : Option Int := if b ≠ 0 ∧ (b.natAbs.log2 < 9000 ∨ a.natAbs.log2 ≤ b.natAbs.log2 + 3000) then some (a.fdiv b) else none
def modO (a b : Int) : Option Int := if b ≠ 0 then some (a.fmod b) else none
def powO (a b : Int) : Option Int := if 0 ≤ b ∧ b ≤ 1000000 ∧ a.natAbs < 2 ^ 64 then some (a ^ b.toNat) else none
def shlO (a b : Int) : Option Int := if 0 ≤ b ∧ b ≤ 1000000 ∧ a.natAbs < 2 ^ 64 then some (a * 2 ^ b.toNat) else none
def shrO (a b : Int) : Option Int := if 0 ≤ b then some (a / 2 ^ b.toNat) else none
/-- the item at a place, counted from the end where it is below 0 -/
def ixO {α : Type} (xs : List α) (i : Int) : Option α := if 0 ≤ i then xs[i.toNat]? else if -(xs.length : Int) ≤ i then xs[(i + xs.length).toNat]? else none
def setO {α : Type} (xs : List α) (i : Int) (x : α) : Option (List α) := if 0 ≤ i ∧ i < xs.length then some (xs.set i.toNat x) else if i < 0 ∧ -(xs.length : Int) ≤ i then some (xs.set (i + xs.length).toNat x) else none
def appO {α : Type} (xs : List α) (x : α) : Option (List α) := if xs.length < 16000000 then some (xs ++ [x]) else none
def catO {α : Type} (xs ys : List α) : Option (List α) := if xs.length + ys.length ≤ 16000000 then some (xs ++ ys) else none
def cutIx (n d : Nat) : Option Int → Nat
  | none => d
  | some v => ((if v < 0 then max (v + (n : Int)) 0 else min v (n : Int))).toNat
def cutL {α : Type} (xs : List α) (lo hi : Option Int) : List α := (xs.drop (cutIx xs.length 0 lo)).take (cutIx xs.length xs.length hi - cutIx xs.length 0 lo)
/-- lo, lo + 1 .. below hi -/
def rangeL (lo hi : Int) : List Int := (List.range (hi - lo).toNat).map fun (i : Nat) => lo + (i : Int)
def rangeO (lo hi : Int) : Option (List Int) := if -(2 ^ 62) ≤ lo ∧ lo < 2 ^ 62 ∧ -(2 ^ 62) ≤ hi ∧ hi < 2 ^ 62 then some (rangeL lo hi) else none
/-- .. of no more than sixteen million -/
def rangeC (lo hi : Int) : Option (List Int) := if -(2 ^ 62) ≤ lo ∧ lo < 2 ^ 62 ∧ -(2 ^ 62) ≤ hi ∧ hi < 2 ^ 62 ∧ (hi - lo).toNat ≤ 16000000 then some (rangeL lo hi) else none
/-- how a turn ends: on, out, or handing back -/
inductive Fl (S R : Type) where
  | nx (s : S) | ex (s : S) | rt (r : R)
section
variable {S R α β : Type}
def itN (c : S → Option Bool) (b : S → Option S) : Nat → S → Option S
  | 0, _ => none
  | n + 1, s => (c s).bind fun t => cond t ((b s).bind fun s' => itN c b n s') (some s)
theorem itN_mono {c : S → Option Bool} {b : S → Option S} : ∀ {n m : Nat} {s r : S}, itN c b n s = some r → n ≤ m → itN c b m s = some r
  | 0, _, _, _, h, _ => by cases h
  | n + 1, 0, _, _, _, l => absurd l (Nat.not_succ_le_zero n)
  | n + 1, m + 1, s, r, h, l => by
    obtain ⟨t, h1, h2⟩ := bind_some (show (c s).bind _ = some r from h)
    show (c s).bind _ = some r
    rw [h1]
    cases t with
    | false => exact h2
    | true =>
      obtain ⟨s', h3, h4⟩ := bind_some (show (b s).bind _ = some r from h2)
      show (b s).bind _ = some r
      rw [h3]
      exact itN_mono h4 (Nat.le_of_succ_le_succ l)
open Classical in
/-- while, without a return in it -/
noncomputable def whileN (c : S → Option Bool) (b : S → Option S) (s : S) : Option S := if h : ∃ n r, itN c b n s = some r then some (Classical.choose (Classical.choose_spec h)) else none
theorem whileN_iff {c : S → Option Bool} {b : S → Option S} {s r : S} : whileN c b s = some r ↔ ∃ n, itN c b n s = some r := by
  unfold whileN
  by_cases h : ∃ n r, itN c b n s = some r
  · rw [dif_pos h]
    have q := Classical.choose_spec (Classical.choose_spec h)
    refine ⟨fun e => ⟨Classical.choose h, ?_⟩, fun ⟨n, e⟩ => ?_⟩
    · rw [q]
      exact e
    · have x := itN_mono q (Nat.le_max_left (Classical.choose h) n)
      have y := itN_mono e (Nat.le_max_right (Classical.choose h) n)
      rw [x] at y
      exact y
  · rw [dif_neg h]
    exact ⟨fun e => (nomatch e), fun ⟨n, e⟩ => absurd ⟨n, r, e⟩ h⟩
def itR (c : S → Option Bool) (b : S → Option (Fl S R)) : Nat → S → Option (Sum S R)
  | 0, _ => none
  | n + 1, s => (c s).bind fun t => cond t ((b s).bind fun f => match f with
    | .nx s' => itR c b n s'
    | .ex s' => some (.inl s')
    | .rt r => some (.inr r)) (some (.inl s))
open Classical in
/-- while, with a return or a break in it -/
noncomputable def whileR (c : S → Option Bool) (b : S → Option (Fl S R)) (s : S) : Option (Sum S R) := if h : ∃ n r, itR c b n s = some r then some (Classical.choose (Classical.choose_spec h)) else none
/-- for, without a return in it -/
def forN (b : S → α → Option S) : List α → S → Option S
  | [], s => some s
  | x :: xs, s => (b s x).bind fun s' => forN b xs s'
def forR (b : S → α → Option (Fl S R)) : List α → S → Option (Sum S R)
  | [], s => some (.inl s)
  | x :: xs, s => (b s x).bind fun f => match f with
    | .nx s' => forR b xs s'
    | .ex s' => some (.inl s')
    | .rt r => some (.inr r)
/-- a comprehension -/
def mapO (f : α → Option β) : List α → Option (List β)
  | [] => some []
  | x :: xs => (f x).bind fun y => (mapO f xs).bind fun ys => some (y :: ys)
def filO (c : α → Option Bool) (f : α → Option β) : List α → Option (List β)
  | [] => some []
  | x :: xs => (c x).bind fun t => cond t ((f x).bind fun y => (filO c f xs).bind fun ys => some (y :: ys)) (filO c f xs)
end
structure T3 (α β γ : Type) where
  a : α
  b : β
  c : γ
  deriving DecidableEq
structure T4 (α β γ δ : Type) where
  a : α
  b : β
  c : γ
  d : δ
  deriving DecidableEq
structure T5 (α β γ δ ε : Type) where
  a : α
  b : β
  c : γ
  d : δ
  e : ε
  deriving DecidableEq
structure KL (α : Type) where
  l : List α
structure TL (α : Type) where
  l : List α
def flE {S R β : Type} (f : S → β) (g : R → β) : Fl S R → β
  | .nx s => f s
  | .ex s => f s
  | .rt r => g r
/-- lo, lo + c, .. below hi, c above 0 -/
def rangeS (lo hi c : Int) : Option (List Int) := if -(2 ^ 61) ≤ lo ∧ lo < 2 ^ 61 ∧ -(2 ^ 61) ≤ hi ∧ hi < 2 ^ 61 then some ((List.range ((hi - lo + c - 1) / c).toNat).map fun (i : Nat) => lo + (i : Int) * c) else none
/-- sorted -/
def insI (x : Int) : List Int → List Int
  | [] => [x]
  | y :: r => if x ≤ y then x :: y :: r else y :: insI x r
def sortI : List Int → List Int
  | [] => []
  | x :: r => insI x (sortI r)
/-! dicts with whole numbers as keys -/
structure DI (β : Type) where
  l : List (Int × β)
section
variable {β : Type}
def dfind (l : List (Int × β)) (k : Int) : Option β := (l.find? fun x => decide (x.1 = k)).map (·.2)
def dput (l : List (Int × β)) (k : Int) (v : β) : List (Int × β) := if (l.any fun x => decide (x.1 = k)) = true then l.map (fun x => if x.1 = k then (x.1, v) else x) else l ++ [(k, v)]
def dputO (d : DI β) (k : Int) (v : β) : Option (DI β) := if d.l.length < 16000000 then some ⟨dput d.l k v⟩ else none
def dgetO (d : DI β) (k : Int) : Option β := dfind d.l k
def dhas (d : DI β) (k : Int) : Bool := (dfind d.l k).isSome
def dgetD (d : DI β) (k : Int) (x : β) : β := (dfind d.l k).getD x
def dput2 (l : List (Int × β)) : List (Int × β) → List (Int × β)
  | [] => l
  | x :: r => dput2 (dput l x.1 x.2) r
/-- a written dict -/
def dmk (l : List (Int × β)) : DI β := ⟨dput2 [] l⟩
/-- sorted(d) -/
def dsortO (d : DI β) : Option (List Int) := if d.l.length < 64 then some (sortI (d.l.map (·.1))) else none
end
/-! a value of one of two kinds -/
def sumB {α β : Type} (a b : Bool) : Sum α β → Bool
  | .inl _ => a
  | .inr _ => b
def outL {α β : Type} : Sum α β → Option α
  | .inl x => some x
  | .inr _ => none
def outR {α β : Type} : Sum α β → Option β
  | .inl _ => none
  | .inr x => some x
/-! a list of two unlike things -/
structure HL (α β : Type) where
  a : α
  b : β
  deriving DecidableEq
/-- enumerate -/
def enumL {α : Type} (k : Int) : List α → List (Int × α)
  | [] => []
  | x :: r => (k, x) :: enumL (k + 1) r
end Mi

/-! PlB: plain rules for partial functions: Tot m P says that m has a value, and that P holds of it. -/
namespace Mi
section
variable {α β S R : Type} {P Q : α → Prop} {m : Option α}
def Tot (m : Option α) (P : α → Prop) : Prop := ∃ a, m = some a ∧ P a
/-- not by rfl: the kernel need not unfold what stands around it -/
theorem bS {a : α} {f : α → Option β} : (some a).bind f = f a := by
  cases h : some a with
  | none => cases h
  | some b => cases h; rfl
theorem bA {γ : Type} {m : Option α} {f : α → Option β} {g : β → Option γ} : (m.bind f).bind g = m.bind fun x => (f x).bind g := Option.bind_assoc m f g
theorem bI {m : Option α} : (m.bind fun x => some x) = m := by cases m <;> rfl
theorem tot_some {a : α} (h : P a) : Tot (some a) P := ⟨a, rfl, h⟩
theorem tot_eq {a : α} (e : m = some a) (h : P a) : Tot m P := ⟨a, e, h⟩
theorem tot_bind {f : α → Option β} {P : β → Prop} (h : Tot m Q) (k : ∀ a, Q a → Tot (f a) P) : Tot (m.bind f) P := by
  obtain ⟨a, rfl, q⟩ := h
  exact k a q
theorem Tot.is {a : α} (h : Tot m (· = a)) : m = some a := by
  obtain ⟨b, e, rfl⟩ := h
  exact e
theorem tot_is {a : α} (h : m = some a) : Tot m (· = a) := ⟨a, h, rfl⟩
theorem tot_cond {b : Bool} {x y : Option α} (h1 : b = true → Tot x P) (h2 : b = false → Tot y P) : Tot (cond b x y) P := by
  cases b with
  | true => exact h1 rfl
  | false => exact h2 rfl
theorem tot_if {p : Prop} [Decidable p] {x y : Option α} (h1 : p → Tot x P) (h2 : ¬p → Tot y P) : Tot (cond (decide p) x y) P := by
  by_cases h : p
  · rw [decide_eq_true h]
    exact h1 h
  · rw [decide_eq_false h]
    exact h2 h
/-! ### loops -/
/-- an invariant over what is done -/
theorem tot_forN {b : S → α → Option S} {Q : S → Prop} (I : List α → S → Prop) : ∀ {xs pre : List α} {s : S}, I pre s →
    (∀ pre x s, x ∈ xs → I pre s → Tot (b s x) (I (pre ++ [x]))) → (∀ s, I (pre ++ xs) s → Q s) → Tot (forN b xs s) Q
  | [], pre, s, h0, _, hq => tot_some (hq s (by rwa [List.append_nil]))
  | x :: xs, pre, s, h0, st, hq => by
    refine tot_bind (st pre x s List.mem_cons_self h0) fun s' h' => ?_
    refine tot_forN I (pre := pre ++ [x]) h' (fun p y s m h => st p y s (List.mem_cons_of_mem _ m) h) (fun s h => hq s ?_)
    rwa [List.append_assoc] at h
/-- an invariant over what is still to come -/
theorem tot_for {b : S → α → Option S} {Q : S → Prop} (I : List α → S → Prop) : ∀ {xs : List α} {s : S}, I xs s →
    (∀ x r s, I (x :: r) s → Tot (b s x) (I r)) → (∀ s, I [] s → Q s) → Tot (forN b xs s) Q
  | [], s, h0, _, hq => tot_some (hq s h0)
  | x :: xs, s, h0, st, hq => tot_bind (st x xs s h0) fun s' h' => tot_for I h' st hq
def FlP (I : S → Prop) (Q : Sum S R → Prop) : Fl S R → Prop
  | .nx s => I s
  | .ex s => Q (.inl s)
  | .rt r => Q (.inr r)
theorem tot_forRI {b : S → α → Option (Fl S R)} {Q : Sum S R → Prop} (I : S → Prop) : ∀ {xs : List α} {s : S}, I s →
    (∀ x s, x ∈ xs → I s → Tot (b s x) (FlP I Q)) → (∀ s, I s → Q (.inl s)) → Tot (forR b xs s) Q
  | [], s, h0, _, hq => tot_some (hq s h0)
  | x :: xs, s, h0, st, hq => by
    refine tot_bind (st x s List.mem_cons_self h0) fun f hf => ?_
    cases f with
    | nx s' => exact tot_forRI I hf (fun y s m h => st y s (List.mem_cons_of_mem _ m) h) hq
    | ex s' => exact tot_some hf
    | rt r => exact tot_some hf
theorem rangeL_nil {lo hi : Int} (h : hi ≤ lo) : rangeL lo hi = [] := by
  unfold rangeL
  rw [Int.toNat_of_nonpos (by omega)]
  rfl
theorem rangeL_cons {lo hi : Int} (h : lo < hi) : rangeL lo hi = lo :: rangeL (lo + 1) hi := by
  unfold rangeL
  have e : (hi - lo).toNat = (hi - (lo + 1)).toNat + 1 := by omega
  rw [e, List.range_succ_eq_map, List.map_cons, List.map_map]
  congr 1
  · simp
  · apply List.map_congr_left
    intro a _
    show lo + ((a + 1 : Nat) : Int) = lo + 1 + (a : Int)
    omega
theorem mem_rangeL {lo hi x : Int} : x ∈ rangeL lo hi ↔ lo ≤ x ∧ x < hi := by
  unfold rangeL
  rw [List.mem_map]
  constructor
  · rintro ⟨a, ha, rfl⟩
    rw [List.mem_range] at ha
    omega
  · rintro ⟨h1, h2⟩
    exact ⟨(x - lo).toNat, List.mem_range.mpr (by omega), by omega⟩
theorem rangeL_length {lo hi : Int} : (rangeL lo hi).length = (hi - lo).toNat := by simp [rangeL]
/-- over a range, by the number -/
theorem tot_forI2 {b : S → Int → Option S} {Q : S → Prop} (I : Int → S → Prop) {lo hi : Int} (hl : lo ≤ hi) {s : S} (h0 : I lo s)
    (st : ∀ i s, lo ≤ i → i < hi → I i s → Tot (b s i) (I (i + 1))) (hq : ∀ s, I hi s → Q s) : Tot (forN b (rangeL lo hi) s) Q := by
  by_cases h : lo < hi
  · rw [rangeL_cons h]
    refine tot_bind (st lo s (Int.le_refl lo) h h0) fun s' h' => ?_
    exact tot_forI2 I (lo := lo + 1) (by omega) h' (fun i s h1 h2 => st i s (by omega) h2) hq
  · have e : lo = hi := by omega
    subst e
    rw [rangeL_nil (Int.le_refl _)]
    exact tot_some (hq s h0)
termination_by (hi - lo).toNat
decreasing_by omega
theorem tot_itN {c : S → Option Bool} {b : S → Option S} {Q : S → Prop} (I : S → Prop) (μ : S → Nat)
    (st : ∀ s, I s → Tot (c s) fun t => (t = true → Tot (b s) fun s' => I s' ∧ μ s' < μ s) ∧ (t = false → Q s)) : ∀ (n : Nat) (s : S), I s → μ s < n → ∃ r, itN c b n s = some r ∧ Q r
  | 0, s, h0, h => absurd h (Nat.not_lt_zero _)
  | n + 1, s, h0, h => by
    obtain ⟨t, e, h1, h2⟩ := st s h0
    cases t with
    | false => exact ⟨s, by unfold itN; rw [e]; rfl, h2 rfl⟩
    | true =>
      obtain ⟨s', e2, h3, h4⟩ := h1 rfl
      obtain ⟨r, e3, hr⟩ := tot_itN I μ st n s' h3 (by omega)
      exact ⟨r, by unfold itN; rw [e]; show (b s).bind _ = _; rw [e2]; exact e3, hr⟩
theorem tot_while {c : S → Option Bool} {b : S → Option S} {Q : S → Prop} (I : S → Prop) (μ : S → Nat) {s : S} (h0 : I s)
    (st : ∀ s, I s → Tot (c s) fun t => (t = true → Tot (b s) fun s' => I s' ∧ μ s' < μ s) ∧ (t = false → Q s)) : Tot (whileN c b s) Q := by
  obtain ⟨r, e, hr⟩ := tot_itN I μ st _ s h0 (Nat.lt_succ_self _)
  exact ⟨r, whileN_iff.mpr ⟨_, e⟩, hr⟩
end

/-! ### the numbers' sizes -/
/-- no more than so many bits -/
def Sz (n : Nat) (a : Int) : Prop := a.natAbs < 2 ^ n
instance (n : Nat) (a : Int) : Decidable (Sz n a) := inferInstanceAs (Decidable (a.natAbs < 2 ^ n))
section
variable {a b : Int} {m n k : Nat}
theorem sz_log (h : Sz n a) (h1 : 1 ≤ n) : a.natAbs.log2 < n := by
  unfold Sz at h
  by_cases h0 : a.natAbs = 0
  · rw [h0, Nat.log2_zero]
    exact h1
  · exact (Nat.log2_lt h0).mpr h
theorem Sz.mono (h : Sz m a) (l : m ≤ n) : Sz n a := Nat.lt_of_lt_of_le h (Nat.pow_le_pow_right (by decide) l)
theorem Sz.mul (h : Sz m a) (g : Sz n b) : Sz (m + n) (a * b) := by
  unfold Sz at *
  rw [Int.natAbs_mul, Nat.pow_add]
  exact Nat.mul_lt_mul'' h g
theorem Sz.add (h : Sz m a) (g : Sz m b) : Sz (m + 1) (a + b) := by
  unfold Sz at *
  have := Int.natAbs_add_le a b
  rw [Nat.pow_succ]
  omega
theorem Sz.neg (h : Sz m a) : Sz m (-a) := by
  unfold Sz at *
  rwa [Int.natAbs_neg]
theorem Sz.le (h : Sz m b) (l : a.natAbs ≤ b.natAbs) : Sz m a := Nat.lt_of_le_of_lt l h
theorem dvd_le {a b : Int} (h : a ∣ b) (hb : b ≠ 0) : a.natAbs ≤ b.natAbs := Nat.le_of_dvd (by omega) (Int.natAbs_dvd_natAbs.mpr h)
theorem mulO_sz (h : Sz m a) (g : Sz n b) (l : m + n ≤ 134000000) : mulO a b = some (a * b) := by
  have h' : a.natAbs.log2 ≤ m := by
    by_cases h0 : a.natAbs = 0
    · rw [h0, Nat.log2_zero]; exact Nat.zero_le _
    · exact Nat.le_of_lt ((Nat.log2_lt h0).mpr h)
  have g' : b.natAbs.log2 < n + 1 := sz_log (g.mono (Nat.le_succ n)) (by omega)
  unfold mulO
  by_cases h0 : a.natAbs.log2 + b.natAbs.log2 < 134000000
  · rw [if_pos h0]
  · by_cases ha : a.natAbs = 0
    · exfalso
      rw [ha, Nat.log2_zero] at h0
      by_cases hb : b.natAbs = 0
      · rw [hb, Nat.log2_zero] at h0
        omega
      · have := (Nat.log2_lt hb).mpr g
        omega
    · have h3 := (Nat.log2_lt ha).mpr h
      omega
theorem log2_lt_of_lt {x n : Nat} (h : x < 2 ^ n) (l : 0 < n) : x.log2 < n := by
  by_cases h0 : x = 0
  · rw [h0, Nat.log2_zero]
    exact l
  · exact (Nat.log2_lt h0).mpr h
theorem divO_sz (h0 : b ≠ 0) (g : Sz n b) (l : n ≤ 9000) : divO a b = some (a.fdiv b) := if_pos ⟨h0, Or.inl (Nat.lt_of_lt_of_le (log2_lt_of_lt g (Nat.pos_of_ne_zero fun e => by
  subst e
  unfold Sz at g
  omega)) l)⟩
theorem modO_ne (h : b ≠ 0) : modO a b = some (a.fmod b) := if_pos h
theorem modO_pos (h : 0 < b) : modO a b = some (a % b) := by
  rw [modO_ne (by omega), Int.fmod_eq_emod_of_nonneg _ (by omega)]
theorem divO_pos (h0 : 0 < b) (g : Sz n b) (l : n ≤ 9000) : divO a b = some (a / b) := by
  rw [divO_sz (by omega) g l, Int.fdiv_eq_ediv_of_nonneg _ (by omega)]
/-- sizes of middling numbers by their bounds -/
theorem sz250 (h : -2 ^ 250 < a) (g : a < 2 ^ 250) : Sz 250 a := by
  unfold Sz
  omega
theorem mulO_s (h1 : -2 ^ 250 < a) (h2 : a < 2 ^ 250) (h3 : -2 ^ 250 < b) (h4 : b < 2 ^ 250) : mulO a b = some (a * b) := mulO_sz (sz250 h1 h2) (sz250 h3 h4) (by decide)
theorem rangeO_s (h1 : -2 ^ 62 ≤ a) (h2 : a < 2 ^ 62) (h3 : -2 ^ 62 ≤ b) (h4 : b < 2 ^ 62) : rangeO a b = some (rangeL a b) := if_pos ⟨h1, h2, h3, h4⟩
theorem rangeS_in {lo hi c : Int} (hc : 0 < c) (h1 : -(2 ^ 61) ≤ lo ∧ lo < 2 ^ 61) (h2 : -(2 ^ 61) ≤ hi ∧ hi < 2 ^ 61) : ∃ xs, rangeS lo hi c = some xs ∧ ∀ x ∈ xs, lo ≤ x ∧ x < hi := by
  refine ⟨_, if_pos ⟨h1.1, h1.2, h2⟩, fun x hx => ?_⟩
  simp only [List.mem_map, List.mem_range] at hx
  obtain ⟨n, hn, rfl⟩ := hx
  have hp : 0 ≤ (n : Int) * c := Int.mul_nonneg (by omega) (by omega)
  have h3 : (n : Int) + 1 ≤ (hi - lo + c - 1) / c := by omega
  have h4 := Int.mul_le_of_le_ediv hc h3
  rw [Int.add_mul, Int.one_mul] at h4
  omega
theorem ixO_nat {α : Type} {xs : List α} {i : Nat} (h : i < xs.length) : ixO xs (i : Int) = some xs[i] := by
  unfold ixO
  rw [if_pos (by omega), Int.toNat_natCast, List.getElem?_eq_getElem h]
theorem ixO_in {α : Type} {xs : List α} {i : Int} (h0 : 0 ≤ i) (h : i < xs.length) : ∃ x, ixO xs i = some x ∧ x ∈ xs := by
  obtain ⟨n, rfl⟩ := Int.eq_ofNat_of_zero_le h0
  have hn : n < xs.length := by omega
  exact ⟨xs[n], ixO_nat hn, List.getElem_mem hn⟩
end
end Mi

/-! MiW: values by types, what readings evaluate to, loops, calls: from readings to functions of plain Lean. -/
namespace Mi
open PySem L2

/-! ### the view G (what is not changed any more) within the heap H -/
/-- the tables of code objects that a law's lambdas need: the table's address, the lambda's name -/
class Tbs where
  T : List (Addr × Str)
abbrev NT (o : HO) : Prop := ∀ ps, o ≠ .tbl ps
theorem nt_lst {vs : List V} : NT (.lst vs) := fun _ z => by cases z
theorem nt_ext {f : Heap → Prop} : NT (.ext f) := fun _ z => by cases z
/-- what the heap holds stays, but the tables of code objects -/
structure HK (H H' : Hp) : Prop where
  k : ∀ b o, H b = some o → (nt : NT o := by first | exact nt_lst | exact nt_ext | assumption | (intro ps z; cases z)) → H' b = some o
  d : ∀ b, H' b = none → H b = none
variable [Tbs]
/-- the view within the heap -/
structure Vw (G H : Hp) : Prop where
  s : Same G H
  t : ∀ p ∈ Tbs.T, G p.1 = none ∧ LamX.TabS H p.1 p.2
instance {G H : Hp} : CoeFun (Vw G H) fun _ => ∀ b o, G b = some o → H b = some o := ⟨fun v => v.s⟩
instance {G H : Hp} : Coe (Vw G H) (Same G H) := ⟨fun v => v.s⟩
structure Ext (G H G' H' : Hp) : Prop where
  g : Same G G'
  s : Vw G' H'
  h : HK H H'
  a : ∀ b, H b ≠ none → G' b = G b
section
variable {G H G1 H1 G2 H2 G3 H3 : Hp} {K : PySem.W.Frag} {p q : Addr} {o u : HO}
omit [Tbs] in
theorem HK.refl (H : Hp) : HK H H := ⟨fun _ _ h _ => h, fun _ h => h⟩
omit [Tbs] in
theorem HK.trans (x : HK H H1) (y : HK H1 H2) : HK H H2 := ⟨fun b o h n => y.k b o (x.k b o h n) n, fun b h => x.d b (y.d b h)⟩
omit [Tbs] in
theorem HK.free (x : HK H H1) (h : H1 p = none) : H p = none := x.d p h
omit [Tbs] in
theorem HK.of (x : Same H H1) : HK H H1 := ⟨fun b o h _ => x b o h, fun _ h => x.free h⟩
omit [Tbs] in
theorem HK.seq {a : Addr} {xs : List V} (x : HK H H1) (h : SqL K H a xs) : SqL K H1 a xs := by
  rcases h with (h | ⟨o, h⟩) | h
  · exact .inl (.inl (x.k _ _ h))
  · exact .inl (.inr ⟨o, x.k _ _ h⟩)
  · exact .inr h
theorem Vw.free (x : Vw G H) (h : H p = none) : G p = none := x.s.free h
theorem Vw.seq {a : Addr} {xs : List V} (x : Vw G H) (h : SqL K G a xs) : SqL K H a xs := x.s.seq h
omit [Tbs] in
theorem tab_ne {P : Addr} {q : Str} (t : LamX.TabS H P q) : H P ≠ none := by
  obtain ⟨ps, h, _⟩ := t
  rw [h]
  intro z
  cases z
omit [Tbs] in
theorem tab_nt {P p : Addr} {q : Str} (t : LamX.TabS H P q) (h : H p = some u) (n : NT u) : P ≠ p := fun e => by
  obtain ⟨ps, h2, _⟩ := t
  rw [e, h] at h2
  exact n ps (Option.some.inj h2)
/-- neither a table nor a code object -/
structure Pn (u : HO) : Prop where
  t : NT u
  c : ∀ c q, u ≠ LamX.CodeO c q
omit [Tbs] in
theorem pn_of (h : ∀ ps, u ≠ .tbl ps) (h2 : ∀ f, u ≠ .ext f) : Pn u := ⟨h, fun c q z => h2 _ (by rw [z]; rfl)⟩
omit [Tbs] in
theorem pn_lst {vs : List V} : Pn (.lst vs) := pn_of (fun _ z => by cases z) (fun _ z => by cases z)
omit [Tbs] in
theorem tab_upd {P : Addr} {q : Str} (t : LamX.TabS H P q) (h : H p = some u) (n : Pn u) : LamX.TabS (upd H p o) P q := by
  have hp := tab_nt t h n.t
  obtain ⟨ps, h1, h2, h3⟩ := t
  refine ⟨ps, by rw [upd_ne hp]; exact h1, h2, fun pos cv hc => ?_⟩
  obtain ⟨c, e1, e2⟩ := h3 pos cv hc
  refine ⟨c, e1, ?_⟩
  rw [upd_ne fun e => n.c c q (by rw [e, h] at e2; rw [e]; exact Option.some.inj e2)]
  exact e2
theorem Ext.refl (s : Vw G H) : Ext G H G H := ⟨Same.refl _, s, HK.refl _, fun _ _ => rfl⟩
omit [Tbs] in
theorem same_ne (h : HK H H1) (n : H p ≠ none) : H1 p ≠ none := fun e => n (h.d p e)
theorem Ext.trans (x : Ext G H G1 H1) (y : Ext G1 H1 G2 H2) : Ext G H G2 H2 :=
  ⟨x.g.trans y.g, y.s, x.h.trans y.h, fun b n => (y.a b (same_ne x.h n)).trans (x.a b n)⟩
omit [Tbs] in
theorem same_new (n : H p = none) : Same H (upd H p o) := fun b u e => by
  rw [upd_ne (ne_of_none e n)]
  exact e
theorem same_under (s : Vw G H) (n : H p = none) : Vw G (upd H p o) := ⟨fun b u e => by
  rw [upd_ne (ne_of_none e (s.free n))]
  exact s.s _ _ e, fun x hx => ⟨(s.t x hx).1, (s.t x hx).2.ext (same_new n)⟩⟩
/-- an own object changed -/
theorem same_put (s : Vw G H) (n : G p = none) (h : H p = some u) (hu : Pn u) : Vw G (upd H p o) := ⟨fun b u e => by
  rw [upd_ne (ne_of_none e n)]
  exact s.s _ _ e, fun x hx => ⟨(s.t x hx).1, tab_upd (s.t x hx).2 h hu⟩⟩
theorem same_both (s : Vw G H) (n : H p = none) : Vw (upd G p o) (upd H p o) := ⟨fun b u e => by
  by_cases hb : b = p
  · subst hb
    rw [upd_same] at e ⊢
    exact e
  · rw [upd_ne hb] at e ⊢
    exact s.s _ _ e, fun x hx => by
  have hP : x.1 ≠ p := fun e => tab_ne (s.t x hx).2 (by rw [e]; exact n)
  exact ⟨by rw [upd_ne hP]; exact (s.t x hx).1, (s.t x hx).2.ext (same_new n)⟩⟩
/-- an own object shown -/
theorem same_show (s : Vw G H) (h : H p = some o) (n : NT o) : Vw (upd G p o) H := ⟨fun b u e => by
  by_cases hb : b = p
  · subst hb
    rw [upd_same] at e
    rw [← e]
    exact h
  · rw [upd_ne hb] at e
    exact s.s _ _ e, fun x hx => ⟨by rw [upd_ne (tab_nt (s.t x hx).2 h n)]; exact (s.t x hx).1, (s.t x hx).2⟩⟩
theorem Ext.own (s : Vw G H) (n : H p = none) : Ext G H G (upd H p o) := ⟨Same.refl _, same_under s n, HK.of (same_new n), fun _ _ => rfl⟩
theorem Ext.new (s : Vw G H) (n : H p = none) : Ext G H (upd G p o) (upd H p o) :=
  ⟨same_new (s.free n), same_both s n, HK.of (same_new n), fun b h => by rw [upd_ne (fun e => h (by rw [e]; exact n))]⟩
/-- what is new may be shown -/
theorem Ext.show (x : Ext G H G1 H1) (n : H p = none) (g : G1 p = none) (h : H1 p = some o) (nt : NT o := by first | exact nt_lst | exact nt_ext | assumption | (intro ps z; cases z)) : Ext G H (upd G1 p o) H1 :=
  ⟨x.g.trans (same_new g), same_show x.s h nt, x.h, fun b hb => by rw [upd_ne (fun e => hb (by rw [e]; exact n)), x.a b hb]⟩
/-- what is new may be changed -/
abbrev PnAt (H : Hp) (p : Addr) : Prop := ∃ u, H p = some u ∧ Pn u
theorem Ext.put (x : Ext G H G1 H1) (n : H p = none) (g : G1 p = none) (hx : PnAt H1 p) : Ext G H G1 (upd H1 p o) :=
  ⟨x.g, hx.elim fun _ hu => same_put x.s g hu.1 hu.2, ⟨fun b u e nt => by
    rw [upd_ne (ne_of_none e n)]
    exact x.h.k _ _ e nt, fun b e => by
    by_cases hb : b = p
    · rw [hb]; exact n
    · rw [upd_ne hb] at e
      exact x.h.d b e⟩, x.a⟩
omit [Tbs] in
theorem same_tup {a : Addr} {xs : List V} (e : Same G H) (h : SqT K G a xs) : SqT K H a xs := by
  rcases h with (h | ⟨o, h⟩) | h
  · exact .inl (.inl (e _ _ h))
  · exact .inl (.inr ⟨o, e _ _ h⟩)
  · exact .inr h
end

/-! ### values by types -/
class Rp (α : Type) where
  rep : PySem.W.Frag → Hp → V → α → Prop
  mono : ∀ {K : PySem.W.Frag} {G G' : Hp} {v : V} {d : α}, Same G G' → rep K G v d → rep K G' v d
open Rp (rep)

instance : Rp Int := ⟨fun _ _ v d => v = .int d, fun _ h => h⟩
instance : Rp Bool := ⟨fun _ _ v d => v = .bl d, fun _ h => h⟩
instance : Rp Unit := ⟨fun _ _ v _ => v = .non, fun _ h => h⟩
instance : Rp Str := ⟨fun _ _ v d => v = .str d, fun _ h => h⟩
/-- None, or a value that isn't None -/
def ROpt {α : Type} [Rp α] (K : PySem.W.Frag) (G : Hp) (v : V) : Option α → Prop
  | none => v = .non
  | some x => rep K G v x ∧ v ≠ .non
instance {α : Type} [Rp α] : Rp (Option α) := ⟨ROpt, fun {_ _ _ _ d} s h => by
  cases d with
  | none => exact h
  | some x => exact ⟨Rp.mono s h.1, h.2⟩⟩
instance {α β : Type} [Rp α] [Rp β] : Rp (α × β) := ⟨fun K G v d => ∃ a x y, v = .ref a ∧ SqT K G a [x, y] ∧ rep K G x d.1 ∧ rep K G y d.2,
  fun s ⟨a, x, y, e, h, h1, h2⟩ => ⟨a, x, y, e, same_tup s h, Rp.mono s h1, Rp.mono s h2⟩⟩
section
variable {α β γ δ ε : Type} [Rp α] [Rp β] [Rp γ] [Rp δ] [Rp ε]
instance : Rp (T3 α β γ) := ⟨fun K G v d => ∃ p x y z, v = .ref p ∧ SqT K G p [x, y, z] ∧ rep K G x d.a ∧ rep K G y d.b ∧ rep K G z d.c,
  fun s ⟨p, x, y, z, e, h, h1, h2, h3⟩ => ⟨p, x, y, z, e, same_tup s h, Rp.mono s h1, Rp.mono s h2, Rp.mono s h3⟩⟩
instance : Rp (T4 α β γ δ) := ⟨fun K G v d => ∃ p x y z u, v = .ref p ∧ SqT K G p [x, y, z, u] ∧ rep K G x d.a ∧ rep K G y d.b ∧ rep K G z d.c ∧ rep K G u d.d,
  fun s ⟨p, x, y, z, u, e, h, h1, h2, h3, h4⟩ => ⟨p, x, y, z, u, e, same_tup s h, Rp.mono s h1, Rp.mono s h2, Rp.mono s h3, Rp.mono s h4⟩⟩
instance : Rp (T5 α β γ δ ε) := ⟨fun K G v d => ∃ p x y z u w, v = .ref p ∧ SqT K G p [x, y, z, u, w] ∧ rep K G x d.a ∧ rep K G y d.b ∧ rep K G z d.c ∧ rep K G u d.d ∧ rep K G w d.e,
  fun s ⟨p, x, y, z, u, w, e, h, h1, h2, h3, h4, h5⟩ => ⟨p, x, y, z, u, w, e, same_tup s h, Rp.mono s h1, Rp.mono s h2, Rp.mono s h3, Rp.mono s h4, Rp.mono s h5⟩⟩
end
abbrev Reps {α : Type} [Rp α] (K : PySem.W.Frag) (G : Hp) (vs : List V) (ds : List α) : Prop := Paired (rep K G) vs ds
section
variable {α β : Type} [Rp α] [Rp β] {K : PySem.W.Frag} {G G' : Hp} {vs ws : List V} {ds es : List α} {v : V} {d : α}
theorem Reps.mono (s : Same G G') (h : Reps K G vs ds) : Reps K G' vs ds := Paired.mapP h fun _ _ r => Rp.mono s r
theorem Reps.len (h : Reps K G vs ds) : vs.length = ds.length := Paired.length h
theorem Reps.get : ∀ {vs : List V} {ds : List α} {i : Nat} {d : α}, Reps K G vs ds → ds[i]? = some d → ∃ v, vs[i]? = some v ∧ rep K G v d
  | _, _, _, _, .nil, e => by simp at e
  | _, _, 0, _, .cons r _, e => by simp at e; subst e; exact ⟨_, rfl, r⟩
  | _, _, i + 1, d, .cons _ t, e => by
    obtain ⟨u, h1, h2⟩ := Reps.get (i := i) (d := d) t (by simpa using e)
    exact ⟨u, by simpa using h1, h2⟩
theorem Reps.set : ∀ {vs : List V} {ds : List α} (i : Nat), Reps K G vs ds → rep K G v d → Reps K G (vs.set i v) (ds.set i d)
  | _, _, _, .nil, _ => .nil
  | _, _, 0, .cons _ t, r => .cons r t
  | _, _, i + 1, .cons q t, r => .cons q (Reps.set i t r)
theorem Reps.app : ∀ {vs ws : List V} {ds es : List α}, Reps K G vs ds → Reps K G ws es → Reps K G (vs ++ ws) (ds ++ es)
  | _, _, _, _, .nil, s => s
  | _, _, _, _, .cons r t, s => .cons r (Reps.app t s)
theorem Reps.take : ∀ {vs : List V} {ds : List α} (n : Nat), Reps K G vs ds → Reps K G (vs.take n) (ds.take n)
  | _, _, 0, _ => .nil
  | _, _, _ + 1, .nil => .nil
  | _, _, n + 1, .cons r t => .cons r (Reps.take n t)
theorem Reps.drop : ∀ {vs : List V} {ds : List α} (n : Nat), Reps K G vs ds → Reps K G (vs.drop n) (ds.drop n)
  | _, _, 0, r => r
  | _, _, _ + 1, .nil => .nil
  | _, _, n + 1, .cons _ t => Reps.drop n t
theorem Reps.cut {lo hi : Option Int} (h : Reps K G vs ds) : Reps K G (cutV vs lo hi) (cutL ds lo hi) := by
  have e : ∀ (n d : Nat) (o : Option Int), HT.sIx n d o = cutIx n d o := fun n d o => by
    cases o with
    | none => rfl
    | some v =>
      have q := HT.clip_eq v n d
      show _ = ((if v < 0 then max (v + (n : Int)) 0 else min v (n : Int))).toNat
      rw [q]
      rfl
  unfold cutV cutL
  rw [e, e, h.len]
  exact (h.drop _).take _
theorem reps_ints : ∀ (ns : List Int), Reps K G (ns.map V.int) ns
  | [] => .nil
  | n :: ns => .cons rfl (reps_ints ns)
end
/-- a list that is not changed any more -/
instance {α : Type} [Rp α] : Rp (List α) := ⟨fun K G v ds => ∃ a vs, v = .ref a ∧ G a = some (.lst vs) ∧ vs.length ≤ sizeLine ∧ Reps K G vs ds,
  fun s ⟨a, vs, e, h, l, r⟩ => ⟨a, vs, e, s _ _ h, l, r.mono s⟩⟩
instance {α : Type} [Rp α] : Rp (KL α) := ⟨fun K G v ds => ∃ a vs, v = .ref a ∧ SqL K G a vs ∧ vs.length ≤ sizeLine ∧ Reps K G vs ds.l,
  fun s ⟨a, vs, e, h, l, r⟩ => ⟨a, vs, e, s.seq h, l, r.mono s⟩⟩
instance {α : Type} [Rp α] : Rp (TL α) := ⟨fun K G v ds => ∃ a vs, v = .ref a ∧ SqT K G a vs ∧ vs.length ≤ sizeLine ∧ Reps K G vs ds.l,
  fun s ⟨a, vs, e, h, l, r⟩ => ⟨a, vs, e, same_tup s h, l, r.mono s⟩⟩
/-- a list of one's own: it stands in the heap, not in the view -/
structure Own {α : Type} [Rp α] (K : PySem.W.Frag) (H0 G H : Hp) (p : Addr) (ds : List α) : Prop where
  z : H0 p = none
  g : G p = none
  h : ∃ vs, H p = some (.lst vs) ∧ vs.length ≤ sizeLine ∧ Reps K G vs ds
section
variable {α β γ : Type} [Rp α] [Rp β] [Rp γ] {K : PySem.W.Frag} {G0 H0 G H G1 H1 G2 H2 : Hp} {p q : Addr} {ds : List α} {d : α} {v : V}
theorem Own.ne (x : Own K H0 G H p ds) : H p ≠ none := by
  obtain ⟨vs, h, _⟩ := x.h
  rw [h]
  intro z
  cases z
theorem Own.mono (x : Own K H0 G H p ds) (e : Ext G H G1 H1) : Own K H0 G1 H1 p ds := by
  obtain ⟨vs, h, l, r⟩ := x.h
  exact ⟨x.z, (e.a p x.ne).trans x.g, vs, e.h.k _ _ h, l, r.mono e.g⟩
theorem Own.pn (x : Own K H0 G H p ds) : PnAt H p := by
  obtain ⟨vs, h, _⟩ := x.h
  exact ⟨_, h, pn_lst⟩
theorem Own.lst (x : Own K H0 G H p ds) : ∃ vs, H p = some (.lst vs) := by
  obtain ⟨vs, h, _⟩ := x.h
  exact ⟨_, h⟩
/-- seen from nearer -/
theorem Own.at (x : Own K H0 G H p ds) : ∃ vs, H p = some (.lst vs) ∧ vs.length ≤ sizeLine ∧ Reps K G vs ds := x.h
/-- a change elsewhere -/
theorem Own.off {o : HO} (x : Own K H0 G H p ds) (n : p ≠ q) : Own K H0 G (upd H q o) p ds := by
  obtain ⟨vs, h, l, r⟩ := x.h
  exact ⟨x.z, x.g, vs, by rw [upd_ne n]; exact h, l, r⟩
/-- it is shown: not changed any more -/
theorem Own.show (x : Own K H0 G H p ds) (e : Ext G0 H0 G H) : ∃ vs, Ext G0 H0 (upd G p (.lst vs)) H ∧ Same G (upd G p (.lst vs)) ∧ rep K (upd G p (.lst vs)) (.ref p) ds := by
  obtain ⟨vs, h, l, r⟩ := x.h
  exact ⟨vs, e.show x.z x.g h, same_new x.g, p, vs, rfl, upd_same, l, r.mono (same_new x.g)⟩
end

/-! ### what a reading evaluates to -/
section
variable {α β γ : Type} [Rp α] [Rp β] [Rp γ]
def SE (K : PySem.W.Frag) (te : TE) (σ : St) (G H : Hp) (m : Option α) : Prop :=
  ∀ G1 H1, Ext G H G1 H1 → ∀ r, m = some r → ∀ Q : VK, (∀ v G2 H2, Ext G1 H1 G2 H2 → rep K G2 v r → Q v H2) → te σ H1 Q
/-- .. a new list of one's own -/
def FE (K : PySem.W.Frag) (te : TE) (σ : St) (G H : Hp) (m : Option (List α)) : Prop :=
  ∀ G1 H1, Ext G H G1 H1 → ∀ r, m = some r → ∀ Q : VK, (∀ p G2 H2, Ext G1 H1 G2 H2 → Own K H1 G2 H2 p r → Q (.ref p) H2) → te σ H1 Q
def ST (tt : TT) (σ : St) (G H : Hp) (m : Option Bool) : Prop :=
  ∀ G1 H1, Ext G H G1 H1 → ∀ r, m = some r → ∀ Q : Bool → Hp → Prop, (∀ G2 H2, Ext G1 H1 G2 H2 → Q r H2) → tt σ H1 Q
def RO (K : PySem.W.Frag) (r : R2) (f : α → β → Option γ) : Prop :=
  ∀ {G H : Hp} {v w : V} {x : α} {y : β} {z : γ}, Vw G H → rep K G v x → rep K G w y → f x y = some z → ∀ Q : VK, (∀ u G2 H2, Ext G H G2 H2 → rep K G2 u z → Q u H2) → r v w H Q
/-- a call on values: one, two -/
def RC1 (K : PySem.W.Frag) (r : List V → Hp → VK → Prop) (f : α → Option γ) : Prop :=
  ∀ {G H : Hp} {v : V} {x : α} {z : γ}, Vw G H → rep K G v x → f x = some z → ∀ Q : VK, (∀ u G2 H2, Ext G H G2 H2 → rep K G2 u z → Q u H2) → r [v] H Q
def RC2 (K : PySem.W.Frag) (r : List V → Hp → VK → Prop) (f : α → β → Option γ) : Prop :=
  ∀ {G H : Hp} {v w : V} {x : α} {y : β} {z : γ}, Vw G H → rep K G v x → rep K G w y → f x y = some z → ∀ Q : VK, (∀ u G2 H2, Ext G H G2 H2 → rep K G2 u z → Q u H2) → r [v, w] H Q
variable {K : PySem.W.Frag} {σ : St} {G H G1 H1 : Hp} {ta tb te : TE} {tc tt : TT} {ma : Option α} {mb : Option β} {r : R2} {f : α → β → Option γ} {i : Nat} {v : V} {d : α}
theorem SE.mono (h : SE K te σ G H ma) (e : Ext G H G1 H1) : SE K te σ G1 H1 ma := fun G2 H2 e2 => h G2 H2 (e.trans e2)
theorem SE.is {m' : Option α} (h : SE K te σ G H ma) (e : ma = m') : SE K te σ G H m' := e ▸ h
theorem ST.is {m m' : Option Bool} (h : ST tt σ G H m) (e : m = m') : ST tt σ G H m' := e ▸ h
theorem FE.se {m : Option (List α)} (h : FE K te σ G H m) : SE K te σ G H m := fun G1 H1 e r hm Q q =>
  h G1 H1 e r hm Q fun p G2 H2 e2 o => by
    obtain ⟨vs, hp, l, rs⟩ := o.h
    exact q (.ref p) _ H2 (e2.show o.z o.g hp) ⟨p, vs, rfl, upd_same, l, rs.mono (same_new o.g)⟩
theorem se_var (h : σ[i]? = some (some v)) (hr : rep K G v d) : SE K (tVar i) σ G H (some d) := fun G1 H1 e r hm Q q => by
  cases hm
  exact ⟨v, h, q v G1 H1 (Ext.refl e.s) (Rp.mono e.g hr)⟩
theorem se_c (h : ∀ G, rep K G v d) : SE K (tC v) σ G H (some d) := fun G1 H1 e r hm Q q => by
  cases hm
  exact q v G1 H1 (Ext.refl e.s) (h G1)
theorem se_int {n : Int} : SE K (tC (.int n)) σ G H (some n) := se_c fun _ => rfl
theorem se_bl {b : Bool} : SE K (tC (.bl b)) σ G H (some b) := se_c fun _ => rfl
theorem se_str {b : Str} : SE K (tC (.str b)) σ G H (some b) := se_c fun _ => rfl
theorem se_unit : SE K (tC .non) σ G H (some ()) := se_c (d := ()) fun _ => rfl
theorem se_op (ha : SE K ta σ G H ma) (hb : SE K tb σ G H mb) (hr : RO K r f) : SE K (tOp r ta tb) σ G H (ma.bind fun x => mb.bind fun y => f x y) := fun G1 H1 e z hm Q q => by
  obtain ⟨x, hx, hm⟩ := bind_some hm
  obtain ⟨y, hy, hz⟩ := bind_some hm
  refine ha G1 H1 e x hx _ fun v G2 H2 e2 hv => ?_
  refine hb G2 H2 (e.trans e2) y hy _ fun w G3 H3 e3 hw => ?_
  exact hr e3.s (Rp.mono e3.g hv) hw hz Q fun u G4 H4 e4 hu => q u G4 H4 ((e2.trans e3).trans e4) hu
theorem se_opp {x : α} {y : β} (ha : SE K ta σ G H (some x)) (hb : SE K tb σ G H (some y)) (hr : RO K r f) : SE K (tOp r ta tb) σ G H (f x y) := se_op ha hb hr
/-- not None, as a value -/
class RpN (α : Type) [Rp α] : Prop where
  nn : ∀ {K : PySem.W.Frag} {G : Hp} {v : V} {d : α}, rep K G v d → v ≠ .non
instance : RpN Int := ⟨fun h => by rw [show _ = V.int _ from h]; intro z; cases z⟩
instance : RpN Bool := ⟨fun h => by rw [show _ = V.bl _ from h]; intro z; cases z⟩
instance : RpN Str := ⟨fun h => by rw [show _ = V.str _ from h]; intro z; cases z⟩
instance {α β : Type} [Rp α] [Rp β] : RpN (α × β) := ⟨fun ⟨_, _, _, h, _⟩ => by rw [h]; intro z; cases z⟩
instance {α β γ : Type} [Rp α] [Rp β] [Rp γ] : RpN (T3 α β γ) := ⟨fun ⟨_, _, _, _, h, _⟩ => by rw [h]; intro z; cases z⟩
instance {α β γ δ : Type} [Rp α] [Rp β] [Rp γ] [Rp δ] : RpN (T4 α β γ δ) := ⟨fun ⟨_, _, _, _, _, h, _⟩ => by rw [h]; intro z; cases z⟩
instance {α β γ δ ε : Type} [Rp α] [Rp β] [Rp γ] [Rp δ] [Rp ε] : RpN (T5 α β γ δ ε) := ⟨fun ⟨_, _, _, _, _, _, h, _⟩ => by rw [h]; intro z; cases z⟩
instance {α : Type} [Rp α] : RpN (List α) := ⟨fun ⟨_, _, h, _⟩ => by rw [h]; intro z; cases z⟩
/-! ### operators -/
theorem ro_i0 {g : Int → Int → V} {h : Int → Int → γ} (e : ∀ K G i j, rep K G (g i j) (h i j)) : RO K (rI0 g) (fun (i j : Int) => some (h i j)) := fun {G H v w x y z} s hv hw hz Q q => by
  cases (show some _ = some z from hz)
  exact ⟨x, y, hv, hw, q _ G H (Ext.refl s) (e K G x y)⟩
theorem ro_add : RO K (rI0 fun i j => .int (i + j)) (fun (i j : Int) => some (i + j)) := ro_i0 fun _ _ _ _ => rfl
theorem ro_sub : RO K (rI0 fun i j => .int (i - j)) (fun (i j : Int) => some (i - j)) := ro_i0 fun _ _ _ _ => rfl
theorem ro_lt : RO K (rI0 fun i j => .bl (decide (i < j))) (fun (i j : Int) => some (decide (i < j))) := ro_i0 (g := fun i j => .bl (decide (i < j))) (h := fun i j => decide (i < j)) fun _ _ _ _ => rfl
theorem ro_le : RO K (rI0 fun i j => .bl (decide (i ≤ j))) (fun (i j : Int) => some (decide (i ≤ j))) := ro_i0 (g := fun i j => .bl (decide (i ≤ j))) (h := fun i j => decide (i ≤ j)) fun _ _ _ _ => rfl
theorem ro_gt : RO K (rI0 fun i j => .bl (decide (j < i))) (fun (i j : Int) => some (decide (j < i))) := ro_i0 (g := fun i j => .bl (decide (j < i))) (h := fun i j => decide (j < i)) fun _ _ _ _ => rfl
theorem ro_ge : RO K (rI0 fun i j => .bl (decide (j ≤ i))) (fun (i j : Int) => some (decide (j ≤ i))) := ro_i0 (g := fun i j => .bl (decide (j ≤ i))) (h := fun i j => decide (j ≤ i)) fun _ _ _ _ => rfl
theorem ro_i {C : Int → Int → Prop} {g : Int → Int → Int} {f : Int → Int → Option Int} (h : ∀ i j z, f i j = some z → C i j ∧ z = g i j) : RO K (rI C fun i j => .int (g i j)) f := fun {G H v w x y z} s hv hw hz Q q => by
  obtain ⟨c, e⟩ := h x y z hz
  subst e
  exact ⟨x, y, hv, hw, c, q _ G H (Ext.refl s) rfl⟩
def CMulZ (i j : Int) : Prop := i.natAbs.log2 + j.natAbs.log2 < 134000000
theorem CMulZ.ok {i j : Int} (h : CMulZ i j) : IntMulOk i j := by
  have b : ∀ x : Int, Builtin.Int.intBits x ≤ x.natAbs.log2 + 1 := fun x => by
    unfold Builtin.Int.intBits
    split <;> omega
  have h1 := b i
  have h2 := b j
  have h3 : i.natAbs.log2 + j.natAbs.log2 < 134000000 := h
  have e : bitsLine = 134217728 := by decide
  unfold IntMulOk
  intro z
  rw [Bool.and_eq_true] at z
  have z2 := z.2
  unfold Builtin.Int.intTooBig at z2
  have z3 := of_decide_eq_true z2
  rw [e] at z3
  omega
theorem op_mulZ {X : Cx} : OpR X (binaryOp .Mult) (rI CMulZ fun i j => .int (i * j)) := opI fun _ _ _ _ _ _ _ hc q => PyProof.Rows.mul_int q hc.ok
def CDivZ (i j : Int) : Prop := j ≠ 0 ∧ (j.natAbs.log2 < 9000 ∨ i.natAbs.log2 ≤ j.natAbs.log2 + 3000)
theorem CDivZ.ok {i j : Int} (h : CDivZ i j) : Builtin.divisionGoesByPylong i j = false := by
  obtain ⟨h0, h | h⟩ := h
  · exact PyProof.noPylong_of_log2 h
  · show (decide ((if j == 0 then 0 else j.natAbs.log2 / 30 + 1) > 300) && decide ((if i == 0 then 0 else i.natAbs.log2 / 30 + 1) > (if j == 0 then 0 else j.natAbs.log2 / 30 + 1) + 150)) = false
    rw [if_neg (show ¬ (j == 0) = true by simpa using h0), Bool.and_eq_false_iff]
    right
    rw [decide_eq_false_iff_not]
    split <;> omega
theorem op_divZ {X : Cx} : OpR X (binaryOp .FloorDiv) (rI CDivZ fun i j => .int (i.fdiv j)) := opI fun i j _ _ _ _ _ hc q => PyProof.Rows.floordiv_int hc.1 q (.inl hc.ok)
theorem ro_mul : RO K (rI CMulZ fun i j => .int (i * j)) mulO := ro_i fun i j z h => by
  unfold mulO at h
  split at h
  · rename_i c
    exact ⟨c, (Option.some.inj h).symm⟩
  · cases h
theorem ro_div : RO K (rI CDivZ fun i j => .int (i.fdiv j)) divO := ro_i fun i j z h => by
  unfold divO at h
  split at h
  · rename_i c
    exact ⟨c, (Option.some.inj h).symm⟩
  · cases h
theorem ro_mod : RO K (rI (fun _ j => j ≠ 0) fun i j => .int (i.fmod j)) modO := ro_i fun i j z h => by
  unfold modO at h
  split at h
  · rename_i c
    exact ⟨c, (Option.some.inj h).symm⟩
  · cases h
theorem ro_shl : RO K (rI CPow fun i j => .int (i * 2 ^ j.toNat)) shlO := ro_i fun i j z h => by
  unfold shlO at h
  split at h
  · rename_i c
    exact ⟨c, (Option.some.inj h).symm⟩
  · cases h
/-- by a written number above 0 -/
theorem se_divc {m : Option Int} {j : Int} (ha : SE K ta σ G H m) (h : 0 < j ∧ j.natAbs.log2 < 9000) : SE K (tOp (rI CDivW fun i j => .int (i / j)) ta (tC (.int j))) σ G H (m.bind fun x => some (x / j)) := fun G1 H1 e z hm Q q => by
  obtain ⟨x, hx, hm⟩ := bind_some hm
  cases hm
  refine ha G1 H1 e x hx _ fun v G2 H2 e2 hv => ?_
  exact ⟨x, j, hv, rfl, h, q _ G2 H2 e2 rfl⟩
theorem se_divcp {x : Int} {j : Int} (ha : SE K ta σ G H (some x)) (h : 0 < j ∧ j.natAbs.log2 < 9000) : SE K (tOp (rI CDivW fun i j => .int (i / j)) ta (tC (.int j))) σ G H (some (x / j)) := se_divc ha h
theorem se_modc {m : Option Int} {j : Int} (ha : SE K ta σ G H m) (h : 0 < j) : SE K (tOp (rI (fun _ j => 0 < j) fun i j => .int (i % j)) ta (tC (.int j))) σ G H (m.bind fun x => some (x % j)) := fun G1 H1 e z hm Q q => by
  obtain ⟨x, hx, hm⟩ := bind_some hm
  cases hm
  refine ha G1 H1 e x hx _ fun v G2 H2 e2 hv => ?_
  exact ⟨x, j, hv, rfl, h, q _ G2 H2 e2 rfl⟩
theorem se_modcp {x : Int} {j : Int} (ha : SE K ta σ G H (some x)) (h : 0 < j) : SE K (tOp (rI (fun _ j => 0 < j) fun i j => .int (i % j)) ta (tC (.int j))) σ G H (some (x % j)) := se_modc ha h
theorem se_neg {m : Option Int} (ha : SE K ta σ G H m) : SE K (tUn (rU fun i => .int (-i)) ta) σ G H (m.bind fun x => some (-x)) := fun G1 H1 e z hm Q q => by
  obtain ⟨x, hx, hm⟩ := bind_some hm
  cases hm
  exact ha G1 H1 e x hx _ fun v G2 H2 e2 hv => ⟨x, hv, q _ G2 H2 e2 rfl⟩
theorem se_negp {x : Int} (ha : SE K ta σ G H (some x)) : SE K (tUn (rU fun i => .int (-i)) ta) σ G H (some (-x)) := se_neg ha
end
end Mi

/-! MiX: tests, calls, tuples, lists, statements, loops. -/
namespace Mi
variable [Tbs]
open PySem L2
open Rp (rep)

section
variable {α β γ δ : Type} [Rp α] [Rp β] [Rp γ] [Rp δ]
variable {K : PySem.W.Frag} {σ : St} {G H G1 H1 : Hp} {ta tb te : TE} {t u tc tt : TT} {ma : Option α} {mb : Option β} {r : R2} {f : α → β → Option γ} {i : Nat} {v : V} {d : α}
/-! ### tests -/
theorem st_test {m : Option Bool} (h : SE K te σ G H m) : ST (tTest te) σ G H m := fun G1 H1 e b hm Q q =>
  h G1 H1 e b hm _ fun v G2 H2 e2 hv => ⟨b, hv, q G2 H2 e2⟩
theorem st_val {m : Option Bool} (h : SE K te σ G H m) : ST (tB te) σ G H m := fun G1 H1 e b hm Q q =>
  h G1 H1 e b hm _ fun v G2 H2 e2 hv => ⟨b, hv, q G2 H2 e2⟩
theorem st_and {m n : Option Bool} (h1 : ST t σ G H m) (h2 : ST u σ G H n) : ST (tAnd t u) σ G H (m.bind fun b => cond b n (some false)) := fun G1 H1 e b hm Q q => by
  obtain ⟨c, hc, hm⟩ := bind_some hm
  refine h1 G1 H1 e c hc _ fun G2 H2 e2 => ?_
  cases c with
  | true =>
    show u σ H2 Q
    exact h2 G2 H2 (e.trans e2) b hm Q fun G3 H3 e3 => q G3 H3 (e2.trans e3)
  | false =>
    cases hm
    exact q G2 H2 e2
theorem st_or {m n : Option Bool} (h1 : ST t σ G H m) (h2 : ST u σ G H n) : ST (tOr t u) σ G H (m.bind fun b => cond b (some true) n) := fun G1 H1 e b hm Q q => by
  obtain ⟨c, hc, hm⟩ := bind_some hm
  refine h1 G1 H1 e c hc _ fun G2 H2 e2 => ?_
  cases c with
  | false =>
    show u σ H2 Q
    exact h2 G2 H2 (e.trans e2) b hm Q fun G3 H3 e3 => q G3 H3 (e2.trans e3)
  | true =>
    cases hm
    exact q G2 H2 e2
theorem st_orp {a b : Bool} (h1 : ST t σ G H (some a)) (h2 : ST u σ G H (some b)) : ST (tOr t u) σ G H (some (a || b)) := (st_or h1 h2).is (by cases a <;> rfl)
theorem st_not {m : Option Bool} (h1 : ST t σ G H m) : ST (tNot t) σ G H (m.bind fun b => some (!b)) := fun G1 H1 e b hm Q q => by
  obtain ⟨c, hc, hm⟩ := bind_some hm
  cases hm
  exact h1 G1 H1 e c hc _ fun G2 H2 e2 => q G2 H2 e2
theorem st_notp {a : Bool} (h1 : ST t σ G H (some a)) : ST (tNot t) σ G H (some (!a)) := st_not h1
theorem se_or {m n : Option Bool} (h1 : SE K ta σ G H m) (h2 : SE K tb σ G H n) : SE K (tOrV ta tb) σ G H (m.bind fun b => cond b (some true) n) := fun G1 H1 e b hm Q q => by
  obtain ⟨c, hc, hm⟩ := bind_some hm
  refine h1 G1 H1 e c hc _ fun v G2 H2 e2 hv => ⟨c, hv, ?_⟩
  cases c with
  | false =>
    show tb σ H2 Q
    exact h2 G2 H2 (e.trans e2) b hm Q fun v G3 H3 e3 => q v G3 H3 (e2.trans e3)
  | true =>
    cases hm
    exact q _ G2 H2 e2 rfl
theorem se_orp {a b : Bool} (h1 : SE K ta σ G H (some a)) (h2 : SE K tb σ G H (some b)) : SE K (tOrV ta tb) σ G H (some (a || b)) := (se_or h1 h2).is (by cases a <;> rfl)
/-- a op b op c -/
theorem se_chain {r r' : R2} {ta tb tc : TE} {ma : Option α} {mb : Option β} {mc : Option γ} {f : α → β → Option Bool} {g : β → γ → Option Bool} (ha : SE K ta σ G H ma) (hb : SE K tb σ G H mb) (hc : SE K tc σ G H mc) (hr : RO K r f) (hr' : RO K r' g) :
    SE K (tChain r r' ta tb tc) σ G H (ma.bind fun x => mb.bind fun y => (f x y).bind fun k => cond k (mc.bind fun z => g y z) (some false)) := fun G1 H1 e z hm Q q => by
  obtain ⟨x, hx, hm⟩ := bind_some hm
  obtain ⟨y, hy, hm⟩ := bind_some hm
  obtain ⟨k, hk, hm⟩ := bind_some hm
  refine ha G1 H1 e x hx _ fun v G2 H2 e2 hv => ?_
  refine hb G2 H2 (e.trans e2) y hy _ fun w G3 H3 e3 hw => ?_
  refine hr e3.s (Rp.mono e3.g hv) hw hk _ fun u G4 H4 e4 hu => ⟨k, hu, ?_⟩
  cases k with
  | false =>
    cases hm
    exact q _ G4 H4 ((e2.trans e3).trans e4) rfl
  | true =>
    obtain ⟨c, hc2, hm⟩ := bind_some hm
    show tc σ H4 _
    refine hc G4 H4 (((e.trans e2).trans e3).trans e4) c hc2 _ fun w' G5 H5 e5 hw' => ?_
    exact hr' e5.s (Rp.mono (e4.trans e5).g hw) hw' hm Q fun u G6 H6 e6 hu => q u G6 H6 ((((e2.trans e3).trans e4).trans e5).trans e6) hu
theorem se_chainp {r r' : R2} {ta tb tc : TE} {x : α} {y : β} {z : γ} {f : α → β → Bool} {g : β → γ → Bool} (ha : SE K ta σ G H (some x)) (hb : SE K tb σ G H (some y)) (hc : SE K tc σ G H (some z)) (hr : RO K r fun x y => some (f x y)) (hr' : RO K r' fun x y => some (g x y)) :
    SE K (tChain r r' ta tb tc) σ G H (some (f x y && g y z)) := (se_chain ha hb hc hr hr').is (by
  show cond (f x y) (some (g y z)) (some false) = _
  cases f x y <;> rfl)

/-! ### comparisons -/
class Sc (α : Type) [Rp α] [DecidableEq α] : Prop where
  sc : ∀ {K : PySem.W.Frag} {G : Hp} {v w : V} {x y : α}, rep K G v x → rep K G w y → scal v w = true ∧ decide (v = w) = decide (x = y)
instance : Sc Int := ⟨fun {_ _ _ _ x y} h h' => by
  rw [show _ = V.int _ from h, show _ = V.int _ from h']
  refine ⟨rfl, ?_⟩
  rw [dec_int]
  rfl⟩
instance : Sc Bool := ⟨fun {_ _ _ _ x y} h h' => by
  rw [show _ = V.bl _ from h, show _ = V.bl _ from h']
  refine ⟨rfl, ?_⟩
  rw [dec_bl]
  rfl⟩
instance : Sc Str := ⟨fun {_ _ _ _ x y} h h' => by
  rw [show _ = V.str _ from h, show _ = V.str _ from h']
  refine ⟨rfl, ?_⟩
  rw [dec_str]
  rfl⟩
instance : Sc (Option Int) := ⟨fun {_ _ v w x y} h h' => by
  cases x with
  | none =>
    rw [show v = .non from h]
    cases y with
    | none =>
      rw [show w = .non from h']
      exact ⟨rfl, rfl⟩
    | some y =>
      rw [show w = .int y from h'.1]
      exact ⟨rfl, rfl⟩
  | some x =>
    rw [show v = .int x from h.1]
    cases y with
    | none =>
      rw [show w = .non from h']
      exact ⟨rfl, rfl⟩
    | some y =>
      rw [show w = .int y from h'.1]
      refine ⟨rfl, ?_⟩
      rw [dec_int, Bool.eq_iff_iff]
      simp⟩
theorem ro_eq [DecidableEq α] [Sc α] : RO K rEq (fun (x y : α) => some (decide (x = y))) := fun {G H v w x y z} s hv hw hz Q q => by
  cases (show some _ = some z from hz)
  obtain ⟨h1, h2⟩ := Sc.sc hv hw
  exact ⟨h1, by rw [h2]; exact q _ G H (Ext.refl s) rfl⟩
theorem ro_ne [DecidableEq α] [Sc α] : RO K rNe (fun (x y : α) => some (!decide (x = y))) := fun {G H v w x y z} s hv hw hz Q q => by
  cases (show some _ = some z from hz)
  obtain ⟨h1, h2⟩ := Sc.sc hv hw
  exact ⟨h1, by rw [h2]; exact q _ G H (Ext.refl s) rfl⟩
/-- == of data -/
class RpD (α : Type) [Rp α] [DecidableEq α] where
  py : α → PyData
  dp : ∀ {K : PySem.W.Frag} {G H : Hp} {v : V} {x : α}, Vw G H → rep K G v x → Dp K H v (py x)
  eqv : ∀ x y : α, PyData.eqv (py x) (py y) = decide (x = y)
  lay : ∀ x : α, (py x).canLay0 = true
  dep : Nat
  depth : ∀ x : α, (py x).depth ≤ dep


/-! ### == of data: what data there is -/
instance : RpD Int := ⟨.int, fun _ h => by rw [show _ = V.int _ from h]; exact .int _, fun x y => by
  show (x == y) = _
  rw [Bool.eq_iff_iff]
  simp, fun _ => rfl, 0, fun _ => Nat.le_refl 0⟩
instance : RpD Bool := ⟨.bool, fun _ h => by rw [show _ = V.bl _ from h]; exact .bl _, fun x y => by
  show (x == y) = _
  rw [Bool.eq_iff_iff]
  simp, fun _ => rfl, 0, fun _ => Nat.le_refl 0⟩
instance : RpD Unit := ⟨fun _ => .none, fun _ h => by rw [show _ = V.non from h]; exact .non, fun x y => by
  show true = _
  simp, fun _ => rfl, 0, fun _ => Nat.le_refl 0⟩
end
/-- data that is not None -/
class RpDN (α : Type) [Rp α] [DecidableEq α] [RpD α] : Prop where
  l : ∀ x : α, PyData.eqv .none (RpD.py x) = false
  r : ∀ x : α, PyData.eqv (RpD.py x) .none = false
instance : RpDN Int := ⟨fun _ => rfl, fun _ => rfl⟩
instance : RpDN Bool := ⟨fun _ => rfl, fun _ => rfl⟩
instance {α : Type} [Rp α] [DecidableEq α] [RpD α] [RpDN α] : RpD (Option α) := ⟨fun o => match o with
  | none => .none
  | some x => RpD.py x, fun {_ _ _ _ x} s h => by
    cases x with
    | none =>
      rw [show _ = V.non from h]
      exact .non
    | some x => exact RpD.dp s h.1, fun x y => by
    cases x with
    | none =>
      cases y with
      | none => rfl
      | some y =>
        show PyData.eqv .none (RpD.py y) = _
        rw [RpDN.l]
        rfl
    | some x =>
      cases y with
      | none =>
        show PyData.eqv (RpD.py x) .none = _
        rw [RpDN.r]
        rfl
      | some y =>
        show PyData.eqv (RpD.py x) (RpD.py y) = _
        rw [RpD.eqv, Bool.eq_iff_iff]
        simp, fun x => by
    cases x with
    | none => rfl
    | some x => exact RpD.lay x, RpD.dep α, fun x => by
    cases x with
    | none => exact Nat.zero_le _
    | some x => exact RpD.depth x⟩
theorem dall {α : Type} [Rp α] [DecidableEq α] [RpD α] {K : PySem.W.Frag} {G H : Hp} (s : Vw G H) : ∀ {vs : List V} {ds : List α}, Reps K G vs ds → DpAll K H vs (ds.map RpD.py)
  | _, _, .nil => .nil
  | _, _, .cons r t => .cons (RpD.dp s r) (dall s t)
theorem eqvAll_map {α : Type} [Rp α] [DecidableEq α] [RpD α] : ∀ xs ys : List α, PyData.eqvAll (xs.map RpD.py) (ys.map RpD.py) = decide (xs = ys)
  | [], [] => rfl
  | [], _ :: _ => rfl
  | _ :: _, [] => rfl
  | x :: xs, y :: ys => by
    show (PyData.eqv (RpD.py x) (RpD.py y) && PyData.eqvAll (xs.map RpD.py) (ys.map RpD.py)) = _
    rw [eqvAll_map xs ys, RpD.eqv, Bool.eq_iff_iff]
    simp
theorem layAll_map {α : Type} [Rp α] [DecidableEq α] [RpD α] : ∀ xs : List α, PyData.canLayAll0 (xs.map RpD.py) = true
  | [] => rfl
  | x :: xs => by
    show (PyData.canLay0 (RpD.py x) && PyData.canLayAll0 (xs.map RpD.py)) = true
    rw [layAll_map xs, RpD.lay]
    rfl
theorem depAll_map {α : Type} [Rp α] [DecidableEq α] [RpD α] : ∀ xs : List α, PyData.depthAll (xs.map RpD.py) ≤ RpD.dep α
  | [] => Nat.zero_le _
  | x :: xs => by
    show max (PyData.depth (RpD.py x)) (PyData.depthAll (xs.map RpD.py)) ≤ _
    exact Nat.max_le.mpr ⟨RpD.depth x, depAll_map xs⟩
instance {α : Type} [Rp α] [DecidableEq α] [RpD α] : RpD (List α) := ⟨fun xs => .list (xs.map RpD.py), fun s ⟨a, vs, e, h, _, r⟩ => by
  rw [e]
  exact .lst (SqL.of (s _ _ h)) (dall s r), fun x y => eqvAll_map x y, fun x => layAll_map x, RpD.dep α + 1, fun x => Nat.succ_le_succ (depAll_map x)⟩
instance {α : Type} [Rp α] [DecidableEq α] [RpD α] : RpDN (List α) := ⟨fun _ => rfl, fun _ => rfl⟩
theorem eqv2 {a b c d : PyData} : PyData.eqv (.tuple [a, b]) (.tuple [c, d]) = (PyData.eqv a c && PyData.eqv b d) := by
  show (PyData.eqv a c && (PyData.eqv b d && true)) = _
  rw [Bool.and_true]
instance {α β : Type} [Rp α] [DecidableEq α] [RpD α] [Rp β] [DecidableEq β] [RpD β] : RpD (α × β) := ⟨fun p => .tuple [RpD.py p.1, RpD.py p.2], fun s ⟨a, x, y, e, h, h1, h2⟩ => by
  rw [e]
  exact .tup (same_tup s h) (.cons (RpD.dp s h1) (.cons (RpD.dp s h2) .nil)), fun x y => by
  rw [eqv2, RpD.eqv, RpD.eqv, Bool.eq_iff_iff]
  simp [Prod.ext_iff], fun x => by
  show (PyData.canLay0 (RpD.py x.1) && (PyData.canLay0 (RpD.py x.2) && true)) = true
  rw [RpD.lay, RpD.lay]
  rfl, max (RpD.dep α) (RpD.dep β) + 1, fun x => by
  show max (PyData.depth (RpD.py x.1)) (max (PyData.depth (RpD.py x.2)) 0) + 1 ≤ _
  have h1 := RpD.depth x.1
  have h2 := RpD.depth x.2
  omega⟩
instance {α β : Type} [Rp α] [DecidableEq α] [RpD α] [Rp β] [DecidableEq β] [RpD β] : RpDN (α × β) := ⟨fun _ => rfl, fun _ => rfl⟩
instance {α β γ : Type} [Rp α] [DecidableEq α] [RpD α] [Rp β] [DecidableEq β] [RpD β] [Rp γ] [DecidableEq γ] [RpD γ] : RpD (T3 α β γ) := ⟨fun p => .tuple [RpD.py p.a, RpD.py p.b, RpD.py p.c], fun s ⟨a, x, y, z, e, h, h1, h2, h3⟩ => by
  rw [e]
  exact .tup (same_tup s h) (.cons (RpD.dp s h1) (.cons (RpD.dp s h2) (.cons (RpD.dp s h3) .nil))), fun x y => by
  show (PyData.eqv _ _ && (PyData.eqv _ _ && (PyData.eqv _ _ && true))) = _
  rw [RpD.eqv, RpD.eqv, RpD.eqv, Bool.eq_iff_iff]
  cases x
  cases y
  simp, fun x => by
  show (PyData.canLay0 (RpD.py x.a) && (PyData.canLay0 (RpD.py x.b) && (PyData.canLay0 (RpD.py x.c) && true))) = true
  rw [RpD.lay, RpD.lay, RpD.lay]
  rfl, max (RpD.dep α) (max (RpD.dep β) (RpD.dep γ)) + 1, fun x => by
  show max (PyData.depth (RpD.py x.a)) (max (PyData.depth (RpD.py x.b)) (max (PyData.depth (RpD.py x.c)) 0)) + 1 ≤ _
  have h1 := RpD.depth x.a
  have h2 := RpD.depth x.b
  have h3 := RpD.depth x.c
  omega⟩
instance {α β γ : Type} [Rp α] [DecidableEq α] [RpD α] [Rp β] [DecidableEq β] [RpD β] [Rp γ] [DecidableEq γ] [RpD γ] : RpDN (T3 α β γ) := ⟨fun _ => rfl, fun _ => rfl⟩
instance {α β γ δ : Type} [Rp α] [DecidableEq α] [RpD α] [Rp β] [DecidableEq β] [RpD β] [Rp γ] [DecidableEq γ] [RpD γ] [Rp δ] [DecidableEq δ] [RpD δ] : RpD (T4 α β γ δ) := ⟨fun p => .tuple [RpD.py p.a, RpD.py p.b, RpD.py p.c, RpD.py p.d], fun s ⟨a, x, y, z, u, e, h, h1, h2, h3, h4⟩ => by
  rw [e]
  exact .tup (same_tup s h) (.cons (RpD.dp s h1) (.cons (RpD.dp s h2) (.cons (RpD.dp s h3) (.cons (RpD.dp s h4) .nil)))), fun x y => by
  show (PyData.eqv _ _ && (PyData.eqv _ _ && (PyData.eqv _ _ && (PyData.eqv _ _ && true)))) = _
  rw [RpD.eqv, RpD.eqv, RpD.eqv, RpD.eqv, Bool.eq_iff_iff]
  cases x
  cases y
  simp, fun x => by
  show (PyData.canLay0 (RpD.py x.a) && (PyData.canLay0 (RpD.py x.b) && (PyData.canLay0 (RpD.py x.c) && (PyData.canLay0 (RpD.py x.d) && true)))) = true
  rw [RpD.lay, RpD.lay, RpD.lay, RpD.lay]
  rfl, max (max (RpD.dep α) (RpD.dep δ)) (max (RpD.dep β) (RpD.dep γ)) + 1, fun x => by
  show max (PyData.depth (RpD.py x.a)) (max (PyData.depth (RpD.py x.b)) (max (PyData.depth (RpD.py x.c)) (max (PyData.depth (RpD.py x.d)) 0))) + 1 ≤ _
  have h1 := RpD.depth x.a
  have h2 := RpD.depth x.b
  have h3 := RpD.depth x.c
  have h4 := RpD.depth x.d
  omega⟩
section
variable {α β γ δ : Type} [Rp α] [Rp β] [Rp γ] [Rp δ]
variable {K : PySem.W.Frag} {σ : St} {G H G1 H1 : Hp} {ta tb te tl : TE} {t u tc tt : TT} {ma : Option α} {mb : Option β} {r : R2} {f : α → β → Option γ} {i : Nat} {v : V} {d : α} {n : Nat} {ts : TA}
theorem shaped_of [DecidableEq α] [RpD α] (x : α) (h : RpD.dep α ≤ 64) : SeqAt.shaped (RpD.py x) = true := by
  unfold SeqAt.shaped
  rw [RpD.lay x, Bool.true_and, decide_eq_true_eq]
  exact Nat.le_trans (RpD.depth x) h
theorem ro_eqD [DecidableEq α] [RpD α] (h : RpD.dep α ≤ 64) : RO K (rEqD K) (fun (x y : α) => some (decide (x = y))) := fun {G H v w x y z} s hv hw hz Q q => by
  cases (show some _ = some z from hz)
  exact ⟨RpD.py x, RpD.py y, RpD.dp s hv, RpD.dp s hw, shaped_of x h, shaped_of y h, by rw [RpD.eqv]; exact q _ G H (Ext.refl s) rfl⟩
/-! ### is None -/
/-! ### in -/
class RpF (α : Type) [Rp α] [DecidableEq α] : Prop where
  flat : ∀ {K : PySem.W.Frag} {G : Hp} {v : V} {x : α}, rep K G v x → flatV v = true
  eq : ∀ {K : PySem.W.Frag} {G : Hp} {v w : V} {x y : α}, rep K G v x → rep K G w y → eqV v w = decide (x = y)
instance : RpF Int := ⟨fun h => by rw [show _ = V.int _ from h]; rfl, fun {_ _ _ _ x y} h h' => by
  rw [show _ = V.int _ from h, show _ = V.int _ from h']
  show (x == y) = _
  rw [Bool.eq_iff_iff]
  simp⟩
/-! ### items -/
theorem atI_reps {vs : List V} {ds : List α} {k : Int} {d : α} (h : Reps K G vs ds) (e : ixO ds k = some d) : ∃ v, atI vs k = some v ∧ rep K G v d := by
  have l := h.len
  unfold ixO at e
  unfold atI ixN
  by_cases h0 : 0 ≤ k
  · rw [if_pos h0] at e
    obtain ⟨v, h1, h2⟩ := h.get e
    have hk : k.toNat < vs.length := by
      obtain ⟨hk, _⟩ := List.getElem?_eq_some_iff.mp h1
      exact hk
    rw [if_pos h0, if_pos (by omega)]
    exact ⟨v, h1, h2⟩
  · rw [if_neg h0] at e
    rw [if_neg h0]
    split at e
    · rename_i hl
      obtain ⟨v, h1, h2⟩ := h.get e
      rw [if_pos (by omega)]
      refine ⟨v, ?_, h2⟩
      show vs[(k + (vs.length : Int)).toNat]? = some v
      rw [l]
      exact h1
    · cases e
theorem ro_ix : RO K (rIxL K) (fun (xs : List α) (k : Int) => ixO xs k) := fun {G H v w x y z} s ⟨a, vs, e, h, l, rs⟩ hw hz Q q => by
  obtain ⟨u, h1, h2⟩ := atI_reps rs hz
  exact ⟨a, vs, y, u, e, hw, SqL.of (s _ _ h), h1, q u G H (Ext.refl s) h2⟩
theorem ro_ixK : RO K (rIxL K) (fun (xs : KL α) (k : Int) => ixO xs.l k) := fun {G H v w x y z} s ⟨a, vs, e, h, l, rs⟩ hw hz Q q => by
  obtain ⟨u, h1, h2⟩ := atI_reps rs hz
  exact ⟨a, vs, y, u, e, hw, s.seq h, h1, q u G H (Ext.refl s) h2⟩
/-- an item of a list of one's own -/
theorem se_own_ix {H0 : Hp} {p : Addr} {ds : List α} {mk : Option Int} (hv : σ[i]? = some (some (.ref p))) (o : Own K H0 G H p ds) (hk : SE K tb σ G H mk) : SE K (tOp (rIxL K) (tVar i) tb) σ G H (mk.bind fun k => ixO ds k) := fun G1 H1 e z hm Q q => by
  obtain ⟨k, hk2, hm⟩ := bind_some hm
  refine ⟨.ref p, hv, ?_⟩
  refine hk G1 H1 e k hk2 _ fun w G2 H2 e2 hw => ?_
  obtain ⟨vs, h, l, rs⟩ := (o.mono (e.trans e2)).h
  obtain ⟨u, h1, h2⟩ := atI_reps rs hm
  exact ⟨p, vs, k, u, rfl, hw, SqL.of h, h1, q u G2 H2 e2 h2⟩
theorem se_own_ixp {H0 : Hp} {p : Addr} {ds : List α} {k : Int} (hv : σ[i]? = some (some (.ref p))) (o : Own K H0 G H p ds) (hk : SE K tb σ G H (some k)) : SE K (tOp (rIxL K) (tVar i) tb) σ G H (ixO ds k) := se_own_ix hv o hk

theorem se_tup2 {t0 t1 : TE} {m0 : Option α} {m1 : Option β} (h0 : SE K t0 σ G H m0) (h1 : SE K t1 σ G H m1) : SE K (tTup (tCons t0 (tCons t1 tNil))) σ G H (m0.bind fun x0 => (m1.bind fun x1 => some (((x0, x1) : α × β)))) := fun G1 H1 e z hm Q q => by
  obtain ⟨x0, hx0, hm⟩ := bind_some hm
  obtain ⟨x1, hx1, hm⟩ := bind_some hm
  cases hm
  refine h0 _ _ e x0 hx0 _ fun v0 G2 H2 e0 r0 => ?_
  refine h1 _ _ (e.trans e0) x1 hx1 _ fun v1 G3 H3 e1 r1 => ?_
  refine ⟨by show 2 ≤ sizeLine; decide, fun p np => ?_⟩
  exact q (.ref p) _ _ ((e0.trans e1).trans (Ext.new (o := .tup [v0, v1]) e1.s np)) ⟨p, v0, v1, rfl, SqT.of upd_same, Rp.mono (same_new (e1.s.free np)) (Rp.mono e1.g r0), Rp.mono (same_new (e1.s.free np)) (r1)⟩
theorem se_tup2p {t0 t1 : TE} {x0 : α} {x1 : β} (h0 : SE K t0 σ G H (some x0)) (h1 : SE K t1 σ G H (some x1)) : SE K (tTup (tCons t0 (tCons t1 tNil))) σ G H (some (((x0, x1) : α × β))) := se_tup2 h0 h1
theorem se_tup4 {t0 t1 t2 t3 : TE} {m0 : Option α} {m1 : Option β} {m2 : Option γ} {m3 : Option δ} (h0 : SE K t0 σ G H m0) (h1 : SE K t1 σ G H m1) (h2 : SE K t2 σ G H m2) (h3 : SE K t3 σ G H m3) : SE K (tTup (tCons t0 (tCons t1 (tCons t2 (tCons t3 tNil))))) σ G H (m0.bind fun x0 => (m1.bind fun x1 => (m2.bind fun x2 => (m3.bind fun x3 => some ((⟨x0, x1, x2, x3⟩ : T4 α β γ δ)))))) := fun G1 H1 e z hm Q q => by
  obtain ⟨x0, hx0, hm⟩ := bind_some hm
  obtain ⟨x1, hx1, hm⟩ := bind_some hm
  obtain ⟨x2, hx2, hm⟩ := bind_some hm
  obtain ⟨x3, hx3, hm⟩ := bind_some hm
  cases hm
  refine h0 _ _ e x0 hx0 _ fun v0 G2 H2 e0 r0 => ?_
  refine h1 _ _ (e.trans e0) x1 hx1 _ fun v1 G3 H3 e1 r1 => ?_
  refine h2 _ _ ((e.trans e0).trans e1) x2 hx2 _ fun v2 G4 H4 e2 r2 => ?_
  refine h3 _ _ (((e.trans e0).trans e1).trans e2) x3 hx3 _ fun v3 G5 H5 e3 r3 => ?_
  refine ⟨by show 4 ≤ sizeLine; decide, fun p np => ?_⟩
  exact q (.ref p) _ _ ((((e0.trans e1).trans e2).trans e3).trans (Ext.new (o := .tup [v0, v1, v2, v3]) e3.s np)) ⟨p, v0, v1, v2, v3, rfl, SqT.of upd_same, Rp.mono (same_new (e3.s.free np)) (Rp.mono ((e1.trans e2).trans e3).g r0), Rp.mono (same_new (e3.s.free np)) (Rp.mono (e2.trans e3).g r1), Rp.mono (same_new (e3.s.free np)) (Rp.mono e3.g r2), Rp.mono (same_new (e3.s.free np)) (r3)⟩
theorem se_tup4p {t0 t1 t2 t3 : TE} {x0 : α} {x1 : β} {x2 : γ} {x3 : δ} (h0 : SE K t0 σ G H (some x0)) (h1 : SE K t1 σ G H (some x1)) (h2 : SE K t2 σ G H (some x2)) (h3 : SE K t3 σ G H (some x3)) : SE K (tTup (tCons t0 (tCons t1 (tCons t2 (tCons t3 tNil))))) σ G H (some ((⟨x0, x1, x2, x3⟩ : T4 α β γ δ))) := se_tup4 h0 h1 h2 h3
/-! ### lists -/
/-- n expressions of one type -/
def LA (K : PySem.W.Frag) (n : Nat) (ta : TA) (σ : St) (G H : Hp) (m : Option (List α)) : Prop :=
  ∀ G1 H1, Ext G H G1 H1 → ∀ r, m = some r → ∀ Q : List V → Hp → Prop, (∀ vs G2 H2, Ext G1 H1 G2 H2 → Reps K G2 vs r → vs.length = n → Q vs H2) → ta σ H1 Q
theorem la_nil : LA K 0 tNil σ G H (some ([] : List α)) := fun G1 H1 e r hm Q q => by
  cases hm
  exact q [] G1 H1 (Ext.refl e.s) .nil rfl
theorem la_cons {m : Option (List α)} (h : SE K ta σ G H ma) (hr : LA K n ts σ G H m) : LA K (n + 1) (tCons ta ts) σ G H (ma.bind fun x => m.bind fun xs => some (x :: xs)) := fun G1 H1 e r hm Q q => by
  obtain ⟨x, hx, hm⟩ := bind_some hm
  obtain ⟨xs, hxs, hm⟩ := bind_some hm
  cases hm
  refine h G1 H1 e x hx _ fun v G2 H2 e2 hv => ?_
  refine hr G2 H2 (e.trans e2) xs hxs _ fun vs G3 H3 e3 hvs l => ?_
  exact q (v :: vs) G3 H3 (e2.trans e3) (.cons (Rp.mono e3.g hv) hvs) (by rw [List.length_cons, l])
theorem la_consp {x : α} {xs : List α} (h : SE K ta σ G H (some x)) (hr : LA K n ts σ G H (some xs)) : LA K (n + 1) (tCons ta ts) σ G H (some (x :: xs)) := la_cons h hr
theorem own_new {vs : List V} {ds : List α} {p : Addr} (s : Vw G H) (n : H p = none) (l : vs.length ≤ sizeLine) (r : Reps K G vs ds) : Own K H G (upd H p (.lst vs)) p ds := ⟨n, s.free n, vs, upd_same, l, r⟩
theorem fe_lst {m : Option (List α)} (h : LA K n ts σ G H m) (hn : n ≤ 1000 := by decide) : FE K (tLst ts) σ G H m := fun G1 H1 e r hm Q q =>
  h G1 H1 e r hm _ fun vs G2 H2 e2 hvs l => ⟨by rw [l]; exact Nat.le_trans hn (by decide), fun p np =>
    q p G2 _ (e2.trans (Ext.own e2.s np)) (by
      have o := own_new (K := K) e2.s np (by rw [l]; exact Nat.le_trans hn (by decide)) hvs
      exact ⟨e2.h.free np, o.g, o.h⟩)⟩
/-- a part of a slice -/
def SO (to : TO) (σ : St) (G H : Hp) (m : Option (Option Int)) : Prop :=
  ∀ G1 H1, Ext G H G1 H1 → ∀ r, m = some r → ∀ Q : Option Int → Hp → Prop, (∀ G2 H2, Ext G1 H1 G2 H2 → Q r H2) → to σ H1 Q
theorem so_none : SO tNoPart σ G H (some none) := fun G1 H1 e r hm Q q => by
  cases hm
  exact q G1 H1 (Ext.refl e.s)
theorem so_some {m : Option Int} (h : SE K te σ G H m) : SO (tPart te) σ G H (m.bind fun k => some (some k)) := fun G1 H1 e r hm Q q => by
  obtain ⟨x, hx, hm⟩ := bind_some hm
  cases hm
  exact h G1 H1 e x hx _ fun v G2 H2 e2 hv => ⟨x, hv, q G2 H2 e2⟩
theorem so_somep {k : Int} (h : SE K te σ G H (some k)) : SO (tPart te) σ G H (some (some k)) := so_some h
theorem fe_slice {m : Option (List α)} {tlo thi : TO} {mlo mhi : Option (Option Int)} (h : SE K te σ G H m) (h1 : SO tlo σ G H mlo) (h2 : SO thi σ G H mhi) : FE K (tSl (rSlL K) te tlo thi) σ G H (m.bind fun xs => mlo.bind fun lo => mhi.bind fun hi => some (cutL xs lo hi)) := fun G1 H1 e r hm Q q => by
  obtain ⟨xs, hx, hm⟩ := bind_some hm
  obtain ⟨lo, hlo, hm⟩ := bind_some hm
  obtain ⟨hi, hhi, hm⟩ := bind_some hm
  cases hm
  refine h G1 H1 e xs hx _ fun v G2 H2 e2 hv => ?_
  refine h1 G2 H2 (e.trans e2) lo hlo _ fun G3 H3 e3 => ?_
  refine h2 G3 H3 ((e.trans e2).trans e3) hi hhi _ fun G4 H4 e4 => ?_
  obtain ⟨a, vs, e0, hs, l, rs⟩ := hv
  refine ⟨a, vs, e0, (e3.h.trans e4.h).seq (SqL.of (e2.s _ _ hs)), fun p np => ?_⟩
  have o := own_new (K := K) (vs := cutV vs lo hi) e4.s np (Nat.le_trans (cutV_length vs lo hi) l) ((rs.mono (e3.g.trans e4.g)).cut (lo := lo) (hi := hi))
  exact q p G4 _ (((e2.trans e3).trans e4).trans (Ext.own e4.s np)) ⟨((e2.trans e3).trans e4).h.free np, o.g, o.h⟩
theorem fe_slicep {xs : List α} {tlo thi : TO} {lo hi : Option Int} (h : SE K te σ G H (some xs)) (h1 : SO tlo σ G H (some lo)) (h2 : SO thi σ G H (some hi)) : FE K (tSl (rSlL K) te tlo thi) σ G H (some (cutL xs lo hi)) := fe_slice h h1 h2
/-- two lists, one behind the other -/
theorem fe_cat {xs ys : Option (List α)} (h : SE K ta σ G H xs) (h2 : SE K tb σ G H ys) : FE K (tOp rCat ta tb) σ G H (xs.bind fun x => ys.bind fun y => catO x y) := fun G1 H1 e r hm Q q => by
  obtain ⟨x, hx, hm⟩ := bind_some hm
  obtain ⟨y, hy, hm⟩ := bind_some hm
  unfold catO at hm
  split at hm
  · rename_i hl
    cases hm
    refine h G1 H1 e x hx _ fun v G2 H2 e2 hv => ?_
    refine h2 G2 H2 (e.trans e2) y hy _ fun w G3 H3 e3 hw => ?_
    obtain ⟨a, vs, ea, ha, la, ra⟩ := Rp.mono e3.g hv
    obtain ⟨b, ws, eb, hb, lb, rb⟩ := hw
    have ll : vs.length + ws.length ≤ sizeLine := by
      have x1 := ra.len
      have x2 := rb.len
      rw [x1, x2]
      exact Nat.le_trans hl (by decide)
    refine ⟨a, b, vs, ws, ea, eb, e3.s _ _ ha, e3.s _ _ hb, ll, fun p np => ?_⟩
    have o := own_new (K := K) e3.s np (by rw [List.length_append]; exact ll) (ra.app rb)
    exact q p G3 _ ((e2.trans e3).trans (Ext.own e3.s np)) ⟨(e2.trans e3).h.free np, o.g, o.h⟩
  · cases hm
theorem fe_catp {xs ys : List α} (h : SE K ta σ G H (some xs)) (h2 : SE K tb σ G H (some ys)) : FE K (tOp rCat ta tb) σ G H (catO xs ys) := fe_cat h h2
/-- list(xs), of a list, a tuple -/
theorem fe_list {m : Option (List α)} (h : SE K te σ G H m) : FE K (tCB (fun xs H Q => ∃ p ys, xs = [.ref p] ∧ (SqL K H p ys ∨ SqT K H p ys) ∧ ∀ l, H l = none → Q (.ref l) (upd H l (.lst ys))) (tCons te tNil)) σ G H m := fun G1 H1 e r hm Q q => by
  refine h G1 H1 e r hm _ fun v G2 H2 e2 hv => ?_
  obtain ⟨a, vs, ea, ha, la, ra⟩ := hv
  rw [ea]
  refine ⟨a, vs, rfl, .inl (SqL.of (e2.s _ _ ha)), fun p np => ?_⟩
  have o := own_new (K := K) e2.s np la ra
  exact q p G2 _ (e2.trans (Ext.own e2.s np)) ⟨e2.h.free np, o.g, o.h⟩
/-- len -/
theorem rc_len : RC1 K (fun xs H Q => ∃ p ys, xs = [.ref p] ∧ (SqL K H p ys ∨ SqT K H p ys) ∧ Q (.int ys.length) H) (fun (xs : List α) => some (xs.length : Int)) := fun {G H v x z} s ⟨a, vs, e, h, l, rs⟩ hz Q q => by
  cases (show some _ = some z from hz)
  exact ⟨a, vs, by rw [e], .inl (SqL.of (s _ _ h)), by rw [rs.len]; exact q _ G H (Ext.refl s) rfl⟩
theorem rc_lenK : RC1 K (fun xs H Q => ∃ p ys, xs = [.ref p] ∧ (SqL K H p ys ∨ SqT K H p ys) ∧ Q (.int ys.length) H) (fun (xs : KL α) => some (xs.l.length : Int)) := fun {G H v x z} s ⟨a, vs, e, h, l, rs⟩ hz Q q => by
  cases (show some _ = some z from hz)
  exact ⟨a, vs, by rw [e], .inl (s.seq h), by rw [rs.len]; exact q _ G H (Ext.refl s) rfl⟩
theorem rc_abs : RC1 K (fun xs H Q => ∃ i, xs = [.int i] ∧ Q (.int (if i < 0 then -i else i)) H) (fun (x : Int) => some ((x.natAbs : Int))) := fun {G H v x z} s h hz Q q => by
  cases (show some _ = some z from hz)
  refine ⟨x, by rw [show v = .int x from h], ?_⟩
  have e : (if x < 0 then -x else x) = (x.natAbs : Int) := by split <;> omega
  rw [e]
  exact q _ G H (Ext.refl s) rfl
theorem rc_min2 : RC2 K (fun xs H Q => ∃ i j, xs = [.int i, .int j] ∧ Q (.int (if j < i then j else i)) H) (fun (x y : Int) => some (min x y)) := fun {G H v w x y z} s h h2 hz Q q => by
  cases (show some _ = some z from hz)
  refine ⟨x, y, by rw [show v = .int x from h, show w = .int y from h2], ?_⟩
  have e : (if y < x then y else x) = min x y := by split <;> omega
  rw [e]
  exact q _ G H (Ext.refl s) rfl
/-- the greatest, the least of some numbers -/
def maxO (xs : List Int) : Option Int := match xs with
  | [] => none
  | x :: r => some (r.foldl max x)
def minO (xs : List Int) : Option Int := match xs with
  | [] => none
  | x :: r => some (r.foldl min x)
theorem se_cb1 {r : List V → Hp → VK → Prop} {f : α → Option γ} (ha : SE K ta σ G H ma) (hr : RC1 K r f) : SE K (tCB r (tCons ta tNil)) σ G H (ma.bind fun x => f x) := fun G1 H1 e z hm Q q => by
  obtain ⟨x, hx, hm⟩ := bind_some hm
  refine ha G1 H1 e x hx _ fun v G2 H2 e2 hv => ?_
  exact hr e2.s hv hm Q fun u G3 H3 e3 hu => q u G3 H3 (e2.trans e3) hu
theorem se_cb1p {r : List V → Hp → VK → Prop} {f : α → Option γ} {x : α} (ha : SE K ta σ G H (some x)) (hr : RC1 K r f) : SE K (tCB r (tCons ta tNil)) σ G H (f x) := se_cb1 ha hr
theorem se_cb2 {r : List V → Hp → VK → Prop} (ha : SE K ta σ G H ma) (hb : SE K tb σ G H mb) (hr : RC2 K r f) : SE K (tCB r (tCons ta (tCons tb tNil))) σ G H (ma.bind fun x => mb.bind fun y => f x y) := fun G1 H1 e z hm Q q => by
  obtain ⟨x, hx, hm⟩ := bind_some hm
  obtain ⟨y, hy, hm⟩ := bind_some hm
  refine ha G1 H1 e x hx _ fun v G2 H2 e2 hv => ?_
  refine hb G2 H2 (e.trans e2) y hy _ fun w G3 H3 e3 hw => ?_
  exact hr e3.s (Rp.mono e3.g hv) hw hm Q fun u G4 H4 e4 hu => q u G4 H4 ((e2.trans e3).trans e4) hu
theorem se_cb2p {r : List V → Hp → VK → Prop} {x : α} {y : β} (ha : SE K ta σ G H (some x)) (hb : SE K tb σ G H (some y)) (hr : RC2 K r f) : SE K (tCB r (tCons ta (tCons tb tNil))) σ G H (f x y) := se_cb2 ha hb hr
/-- isinstance(x, T), T a built-in class -/
class RpTy (α : Type) [Rp α] where
  ty : String
  tyX : ∀ {K : PySem.W.Frag} {G H : Hp} {v : V} {x : α}, Vw G H → rep K G v x → TyX K H v (.type ty)
instance : RpTy Int := ⟨"int", fun _ h => by rw [show _ = V.int _ from h]; exact .base (.int _)⟩
instance : RpTy Bool := ⟨"bool", fun _ h => by rw [show _ = V.bl _ from h]; exact .base (.bl _)⟩
instance {α : Type} [Rp α] : RpTy (List α) := ⟨"list", fun s ⟨a, vs, e, h, _⟩ => by rw [e]; exact .base (.lst (s _ _ h))⟩
theorem ty_tup {a : Addr} {xs : List V} (h : SqT K H a xs) : TyX K H (.ref a) (.type "tuple") := by
  rcases h with (h | ⟨o, h⟩) | ⟨o, its, n, h, hc, _⟩
  · exact .base (.tup h)
  · exact .fTuple h
  · exact .kTuple h hc
instance {α β : Type} [Rp α] [Rp β] : RpTy (α × β) := ⟨"tuple", fun s ⟨a, _, _, e, h, _⟩ => by rw [e]; exact ty_tup (same_tup s h)⟩
instance {α β γ : Type} [Rp α] [Rp β] [Rp γ] : RpTy (T3 α β γ) := ⟨"tuple", fun s ⟨a, _, _, _, e, h, _⟩ => by rw [e]; exact ty_tup (same_tup s h)⟩
instance {α β γ δ : Type} [Rp α] [Rp β] [Rp γ] [Rp δ] : RpTy (T4 α β γ δ) := ⟨"tuple", fun s ⟨a, _, _, _, _, e, h, _⟩ => by rw [e]; exact ty_tup (same_tup s h)⟩
theorem se_isi [RpTy α] {T : String} {b : Bool} (h : SE K te σ G H ma) (hk : kitB (RpTy.ty α) T = some b) : SE K (tCB (rIsi K) (tCons te (tCons (tC (.ty T)) tNil))) σ G H (ma.bind fun _ => some b) := fun G1 H1 e z hm Q q => by
  obtain ⟨x, hx, hm⟩ := bind_some hm
  cases hm
  refine h G1 H1 e x hx _ fun v G2 H2 e2 hv => ?_
  exact ⟨v, .ty T, _, _, b, rfl, .ty T, RpTy.tyX e2.s hv, kit_ty hk, q _ G2 H2 e2 rfl⟩
theorem se_isip [RpTy α] {T : String} {b : Bool} {x : α} (h : SE K te σ G H (some x)) (hk : kitB (RpTy.ty α) T = some b) : SE K (tCB (rIsi K) (tCons te (tCons (tC (.ty T)) tNil))) σ G H (some b) := se_isi h hk
end

end Mi

/-! MiY: calls, statements, loops, comprehensions. -/
namespace Mi
variable [Tbs]
open PySem L2
open Rp (rep)
theorem Own.up {α : Type} [Rp α] {K : PySem.W.Frag} {H0 H G1 H1 : Hp} {p : Addr} {ds : List α} (x : Own K H G1 H1 p ds) (s : HK H0 H) : Own K H0 G1 H1 p ds := ⟨s.free x.z, x.g, x.h⟩

/-! ### calls of defs -/
/-- what a call hands back: a value; a new list; a tuple of a new list and a value -/
def RV {ρ : Type} [Rp ρ] (K : PySem.W.Frag) (_ G' _ : Hp) (u : V) (r : ρ) : Prop := rep K G' u r
def RF {ρ : Type} [Rp ρ] (K : PySem.W.Frag) (H G' H' : Hp) (u : V) (r : List ρ) : Prop := ∃ p, u = .ref p ∧ Own K H G' H' p r
def RP {ρ τ : Type} [Rp ρ] [Rp τ] (K : PySem.W.Frag) (H G' H' : Hp) (u : V) (r : List ρ × τ) : Prop := ∃ t p y, u = .ref t ∧ SqT K G' t [.ref p, y] ∧ Own K H G' H' p r.1 ∧ rep K G' y r.2
def XE {ρ : Type} (RR : Hp → Hp → Hp → V → ρ → Prop) (te : TE) (σ : St) (G H : Hp) (m : Option ρ) : Prop :=
  ∀ G1 H1, Ext G H G1 H1 → ∀ r, m = some r → ∀ Q : VK, (∀ u G2 H2, Ext G1 H1 G2 H2 → RR H1 G2 H2 u r → Q u H2) → te σ H1 Q
theorem XE.se {ρ : Type} [Rp ρ] {K : PySem.W.Frag} {te : TE} {σ : St} {G H : Hp} {m : Option ρ} (h : XE (RV K) te σ G H m) : SE K te σ G H m := h
theorem SE.xe {ρ : Type} [Rp ρ] {K : PySem.W.Frag} {te : TE} {σ : St} {G H : Hp} {m : Option ρ} (h : SE K te σ G H m) : XE (RV K) te σ G H m := h
theorem XE.fe {ρ : Type} [Rp ρ] {K : PySem.W.Frag} {te : TE} {σ : St} {G H : Hp} {m : Option (List ρ)} (h : XE (RF K) te σ G H m) : FE K te σ G H m := fun G1 H1 e r hm Q q =>
  h G1 H1 e r hm Q fun u G2 H2 e2 ⟨p, eu, o⟩ => by
    rw [eu]
    exact q p G2 H2 e2 o
theorem FE.xe {ρ : Type} [Rp ρ] {K : PySem.W.Frag} {te : TE} {σ : St} {G H : Hp} {m : Option (List ρ)} (h : FE K te σ G H m) : XE (RF K) te σ G H m := fun G1 H1 e r hm Q q =>
  h G1 H1 e r hm Q fun p G2 H2 e2 o => q (.ref p) G2 H2 e2 ⟨p, rfl, o⟩
/-- seen as a value -/
theorem XE.pse {ρ τ : Type} [Rp ρ] [Rp τ] {K : PySem.W.Frag} {te : TE} {σ : St} {G H : Hp} {m : Option (List ρ × τ)} (h : XE (RP K) te σ G H m) : SE K te σ G H m := fun G1 H1 e r hm Q q =>
  h G1 H1 e r hm Q fun u G2 H2 e2 ⟨t, p, y, eu, ht, o, hy⟩ => by
    obtain ⟨vs, hp, l, rs⟩ := o.h
    rw [eu]
    exact q (.ref t) _ H2 (e2.show o.z o.g hp) ⟨t, .ref p, y, rfl, same_tup (same_new o.g) ht, ⟨p, vs, rfl, upd_same, l, rs.mono (same_new o.g)⟩, Rp.mono (same_new o.g) hy⟩
theorem XE.is {ρ : Type} {RR : Hp → Hp → Hp → V → ρ → Prop} {te : TE} {σ : St} {G H : Hp} {m m' : Option ρ} (h : XE RR te σ G H m) (e : m = m') : XE RR te σ G H m' := e ▸ h

def Sp0  {ρ : Type} (K : PySem.W.Frag) (RR : Hp → Hp → Hp → V → ρ → Prop) (f : Option ρ) : Sp := fun vs H Q _ => ∃ (G : Hp) (r : ρ), vs = [] ∧ Vw G H ∧ f = some r ∧ ∀ u G' H', Ext G H G' H' → RR H G' H' u r → Q u H'
theorem Sp0.len  {ρ : Type} {K : PySem.W.Frag} {RR : Hp → Hp → Hp → V → ρ → Prop} {f : Option ρ} {ps : List Str} (hp : ps.length = 0) : ∀ vs H Q E, Sp0 K RR f vs H Q E → vs.length = ps.length := by
  intro vs H Q E ⟨_, _, e, _⟩
  rw [e, hp]
  rfl
def Sp1 {α0 : Type} [Rp α0] {ρ : Type} (K : PySem.W.Frag) (RR : Hp → Hp → Hp → V → ρ → Prop) (f : α0 → Option ρ) : Sp := fun vs H Q _ => ∃ (G : Hp) (v0 : V) (x0 : α0) (r : ρ), vs = [v0] ∧ Vw G H ∧ rep K G v0 x0 ∧ f x0 = some r ∧ ∀ u G' H', Ext G H G' H' → RR H G' H' u r → Q u H'
theorem Sp1.len {α0 : Type} [Rp α0] {ρ : Type} {K : PySem.W.Frag} {RR : Hp → Hp → Hp → V → ρ → Prop} {f : α0 → Option ρ} {ps : List Str} (hp : ps.length = 1) : ∀ vs H Q E, Sp1 K RR f vs H Q E → vs.length = ps.length := by
  intro vs H Q E ⟨_, _, _, _, e, _⟩
  rw [e, hp]
  rfl
theorem xe_call1 {α0 : Type} [Rp α0] {ρ : Type} {K : PySem.W.Frag} {RR : Hp → Hp → Hp → V → ρ → Prop} (RRm : ∀ H1 H2, HK H1 H2 → ∀ G' H' u r, RR H2 G' H' u r → RR H1 G' H' u r) {σ : St} {G H : Hp} {t0 : TE} {m0 : Option α0} {f : α0 → Option ρ} {E : XK} (h0 : SE K t0 σ G H m0) : XE RR (tCall (Sp1 K RR f) [] E (tCons t0 tNil)) σ G H (m0.bind fun x0 => f x0) := fun G1 H1 e z hm Q q => by
  obtain ⟨x0, hx0, hm⟩ := bind_some hm
  refine h0 _ _ e x0 hx0 _ fun v0 G2 H2 e0 r0 => ?_
  exact ⟨_, v0, x0, z, rfl, e0.s, r0, hm, fun u G' H' eu hu => q u G' H' (e0.trans eu) (RRm _ _ (e0).h _ _ _ _ hu)⟩
theorem xe_call1p {α0 : Type} [Rp α0] {ρ : Type} {K : PySem.W.Frag} {RR : Hp → Hp → Hp → V → ρ → Prop} (RRm : ∀ H1 H2, HK H1 H2 → ∀ G' H' u r, RR H2 G' H' u r → RR H1 G' H' u r) {σ : St} {G H : Hp} {t0 : TE} {x0 : α0} {f : α0 → Option ρ} {E : XK} (h0 : SE K t0 σ G H (some x0)) : XE RR (tCall (Sp1 K RR f) [] E (tCons t0 tNil)) σ G H (f x0) := xe_call1 RRm h0
def Sp2 {α0 : Type} [Rp α0] {α1 : Type} [Rp α1] {ρ : Type} (K : PySem.W.Frag) (RR : Hp → Hp → Hp → V → ρ → Prop) (f : α0 → α1 → Option ρ) : Sp := fun vs H Q _ => ∃ (G : Hp) (v0 v1 : V) (x0 : α0) (x1 : α1) (r : ρ), vs = [v0, v1] ∧ Vw G H ∧ rep K G v0 x0 ∧ rep K G v1 x1 ∧ f x0 x1 = some r ∧ ∀ u G' H', Ext G H G' H' → RR H G' H' u r → Q u H'
theorem Sp2.len {α0 : Type} [Rp α0] {α1 : Type} [Rp α1] {ρ : Type} {K : PySem.W.Frag} {RR : Hp → Hp → Hp → V → ρ → Prop} {f : α0 → α1 → Option ρ} {ps : List Str} (hp : ps.length = 2) : ∀ vs H Q E, Sp2 K RR f vs H Q E → vs.length = ps.length := by
  intro vs H Q E ⟨_, _, _, _, _, _, e, _⟩
  rw [e, hp]
  rfl
theorem xe_call2 {α0 : Type} [Rp α0] {α1 : Type} [Rp α1] {ρ : Type} {K : PySem.W.Frag} {RR : Hp → Hp → Hp → V → ρ → Prop} (RRm : ∀ H1 H2, HK H1 H2 → ∀ G' H' u r, RR H2 G' H' u r → RR H1 G' H' u r) {σ : St} {G H : Hp} {t0 t1 : TE} {m0 : Option α0} {m1 : Option α1} {f : α0 → α1 → Option ρ} {E : XK} (h0 : SE K t0 σ G H m0) (h1 : SE K t1 σ G H m1) : XE RR (tCall (Sp2 K RR f) [] E (tCons t0 (tCons t1 tNil))) σ G H (m0.bind fun x0 => (m1.bind fun x1 => f x0 x1)) := fun G1 H1 e z hm Q q => by
  obtain ⟨x0, hx0, hm⟩ := bind_some hm
  obtain ⟨x1, hx1, hm⟩ := bind_some hm
  refine h0 _ _ e x0 hx0 _ fun v0 G2 H2 e0 r0 => ?_
  refine h1 _ _ (e.trans e0) x1 hx1 _ fun v1 G3 H3 e1 r1 => ?_
  exact ⟨_, v0, v1, x0, x1, z, rfl, e1.s, Rp.mono e1.g r0, r1, hm, fun u G' H' eu hu => q u G' H' ((e0.trans e1).trans eu) (RRm _ _ ((e0.trans e1)).h _ _ _ _ hu)⟩
theorem xe_call2p {α0 : Type} [Rp α0] {α1 : Type} [Rp α1] {ρ : Type} {K : PySem.W.Frag} {RR : Hp → Hp → Hp → V → ρ → Prop} (RRm : ∀ H1 H2, HK H1 H2 → ∀ G' H' u r, RR H2 G' H' u r → RR H1 G' H' u r) {σ : St} {G H : Hp} {t0 t1 : TE} {x0 : α0} {x1 : α1} {f : α0 → α1 → Option ρ} {E : XK} (h0 : SE K t0 σ G H (some x0)) (h1 : SE K t1 σ G H (some x1)) : XE RR (tCall (Sp2 K RR f) [] E (tCons t0 (tCons t1 tNil))) σ G H (f x0 x1) := xe_call2 RRm h0 h1
def Sp3 {α0 : Type} [Rp α0] {α1 : Type} [Rp α1] {α2 : Type} [Rp α2] {ρ : Type} (K : PySem.W.Frag) (RR : Hp → Hp → Hp → V → ρ → Prop) (f : α0 → α1 → α2 → Option ρ) : Sp := fun vs H Q _ => ∃ (G : Hp) (v0 v1 v2 : V) (x0 : α0) (x1 : α1) (x2 : α2) (r : ρ), vs = [v0, v1, v2] ∧ Vw G H ∧ rep K G v0 x0 ∧ rep K G v1 x1 ∧ rep K G v2 x2 ∧ f x0 x1 x2 = some r ∧ ∀ u G' H', Ext G H G' H' → RR H G' H' u r → Q u H'
theorem Sp3.len {α0 : Type} [Rp α0] {α1 : Type} [Rp α1] {α2 : Type} [Rp α2] {ρ : Type} {K : PySem.W.Frag} {RR : Hp → Hp → Hp → V → ρ → Prop} {f : α0 → α1 → α2 → Option ρ} {ps : List Str} (hp : ps.length = 3) : ∀ vs H Q E, Sp3 K RR f vs H Q E → vs.length = ps.length := by
  intro vs H Q E ⟨_, _, _, _, _, _, _, _, e, _⟩
  rw [e, hp]
  rfl
theorem xe_call3 {α0 : Type} [Rp α0] {α1 : Type} [Rp α1] {α2 : Type} [Rp α2] {ρ : Type} {K : PySem.W.Frag} {RR : Hp → Hp → Hp → V → ρ → Prop} (RRm : ∀ H1 H2, HK H1 H2 → ∀ G' H' u r, RR H2 G' H' u r → RR H1 G' H' u r) {σ : St} {G H : Hp} {t0 t1 t2 : TE} {m0 : Option α0} {m1 : Option α1} {m2 : Option α2} {f : α0 → α1 → α2 → Option ρ} {E : XK} (h0 : SE K t0 σ G H m0) (h1 : SE K t1 σ G H m1) (h2 : SE K t2 σ G H m2) : XE RR (tCall (Sp3 K RR f) [] E (tCons t0 (tCons t1 (tCons t2 tNil)))) σ G H (m0.bind fun x0 => (m1.bind fun x1 => (m2.bind fun x2 => f x0 x1 x2))) := fun G1 H1 e z hm Q q => by
  obtain ⟨x0, hx0, hm⟩ := bind_some hm
  obtain ⟨x1, hx1, hm⟩ := bind_some hm
  obtain ⟨x2, hx2, hm⟩ := bind_some hm
  refine h0 _ _ e x0 hx0 _ fun v0 G2 H2 e0 r0 => ?_
  refine h1 _ _ (e.trans e0) x1 hx1 _ fun v1 G3 H3 e1 r1 => ?_
  refine h2 _ _ ((e.trans e0).trans e1) x2 hx2 _ fun v2 G4 H4 e2 r2 => ?_
  exact ⟨_, v0, v1, v2, x0, x1, x2, z, rfl, e2.s, Rp.mono (e1.trans e2).g r0, Rp.mono e2.g r1, r2, hm, fun u G' H' eu hu => q u G' H' (((e0.trans e1).trans e2).trans eu) (RRm _ _ (((e0.trans e1).trans e2)).h _ _ _ _ hu)⟩
theorem xe_call3p {α0 : Type} [Rp α0] {α1 : Type} [Rp α1] {α2 : Type} [Rp α2] {ρ : Type} {K : PySem.W.Frag} {RR : Hp → Hp → Hp → V → ρ → Prop} (RRm : ∀ H1 H2, HK H1 H2 → ∀ G' H' u r, RR H2 G' H' u r → RR H1 G' H' u r) {σ : St} {G H : Hp} {t0 t1 t2 : TE} {x0 : α0} {x1 : α1} {x2 : α2} {f : α0 → α1 → α2 → Option ρ} {E : XK} (h0 : SE K t0 σ G H (some x0)) (h1 : SE K t1 σ G H (some x1)) (h2 : SE K t2 σ G H (some x2)) : XE RR (tCall (Sp3 K RR f) [] E (tCons t0 (tCons t1 (tCons t2 tNil)))) σ G H (f x0 x1 x2) := xe_call3 RRm h0 h1 h2
def Sp4 {α0 : Type} [Rp α0] {α1 : Type} [Rp α1] {α2 : Type} [Rp α2] {α3 : Type} [Rp α3] {ρ : Type} (K : PySem.W.Frag) (RR : Hp → Hp → Hp → V → ρ → Prop) (f : α0 → α1 → α2 → α3 → Option ρ) : Sp := fun vs H Q _ => ∃ (G : Hp) (v0 v1 v2 v3 : V) (x0 : α0) (x1 : α1) (x2 : α2) (x3 : α3) (r : ρ), vs = [v0, v1, v2, v3] ∧ Vw G H ∧ rep K G v0 x0 ∧ rep K G v1 x1 ∧ rep K G v2 x2 ∧ rep K G v3 x3 ∧ f x0 x1 x2 x3 = some r ∧ ∀ u G' H', Ext G H G' H' → RR H G' H' u r → Q u H'
theorem Sp4.len {α0 : Type} [Rp α0] {α1 : Type} [Rp α1] {α2 : Type} [Rp α2] {α3 : Type} [Rp α3] {ρ : Type} {K : PySem.W.Frag} {RR : Hp → Hp → Hp → V → ρ → Prop} {f : α0 → α1 → α2 → α3 → Option ρ} {ps : List Str} (hp : ps.length = 4) : ∀ vs H Q E, Sp4 K RR f vs H Q E → vs.length = ps.length := by
  intro vs H Q E ⟨_, _, _, _, _, _, _, _, _, _, e, _⟩
  rw [e, hp]
  rfl
def Sp5 {α0 : Type} [Rp α0] {α1 : Type} [Rp α1] {α2 : Type} [Rp α2] {α3 : Type} [Rp α3] {α4 : Type} [Rp α4] {ρ : Type} (K : PySem.W.Frag) (RR : Hp → Hp → Hp → V → ρ → Prop) (f : α0 → α1 → α2 → α3 → α4 → Option ρ) : Sp := fun vs H Q _ => ∃ (G : Hp) (v0 v1 v2 v3 v4 : V) (x0 : α0) (x1 : α1) (x2 : α2) (x3 : α3) (x4 : α4) (r : ρ), vs = [v0, v1, v2, v3, v4] ∧ Vw G H ∧ rep K G v0 x0 ∧ rep K G v1 x1 ∧ rep K G v2 x2 ∧ rep K G v3 x3 ∧ rep K G v4 x4 ∧ f x0 x1 x2 x3 x4 = some r ∧ ∀ u G' H', Ext G H G' H' → RR H G' H' u r → Q u H'
theorem Sp5.len {α0 : Type} [Rp α0] {α1 : Type} [Rp α1] {α2 : Type} [Rp α2] {α3 : Type} [Rp α3] {α4 : Type} [Rp α4] {ρ : Type} {K : PySem.W.Frag} {RR : Hp → Hp → Hp → V → ρ → Prop} {f : α0 → α1 → α2 → α3 → α4 → Option ρ} {ps : List Str} (hp : ps.length = 5) : ∀ vs H Q E, Sp5 K RR f vs H Q E → vs.length = ps.length := by
  intro vs H Q E ⟨_, _, _, _, _, _, _, _, _, _, _, _, e, _⟩
  rw [e, hp]
  rfl
def Sp6 {α0 : Type} [Rp α0] {α1 : Type} [Rp α1] {α2 : Type} [Rp α2] {α3 : Type} [Rp α3] {α4 : Type} [Rp α4] {α5 : Type} [Rp α5] {ρ : Type} (K : PySem.W.Frag) (RR : Hp → Hp → Hp → V → ρ → Prop) (f : α0 → α1 → α2 → α3 → α4 → α5 → Option ρ) : Sp := fun vs H Q _ => ∃ (G : Hp) (v0 v1 v2 v3 v4 v5 : V) (x0 : α0) (x1 : α1) (x2 : α2) (x3 : α3) (x4 : α4) (x5 : α5) (r : ρ), vs = [v0, v1, v2, v3, v4, v5] ∧ Vw G H ∧ rep K G v0 x0 ∧ rep K G v1 x1 ∧ rep K G v2 x2 ∧ rep K G v3 x3 ∧ rep K G v4 x4 ∧ rep K G v5 x5 ∧ f x0 x1 x2 x3 x4 x5 = some r ∧ ∀ u G' H', Ext G H G' H' → RR H G' H' u r → Q u H'
theorem Sp6.len {α0 : Type} [Rp α0] {α1 : Type} [Rp α1] {α2 : Type} [Rp α2] {α3 : Type} [Rp α3] {α4 : Type} [Rp α4] {α5 : Type} [Rp α5] {ρ : Type} {K : PySem.W.Frag} {RR : Hp → Hp → Hp → V → ρ → Prop} {f : α0 → α1 → α2 → α3 → α4 → α5 → Option ρ} {ps : List Str} (hp : ps.length = 6) : ∀ vs H Q E, Sp6 K RR f vs H Q E → vs.length = ps.length := by
  intro vs H Q E ⟨_, _, _, _, _, _, _, _, _, _, _, _, _, _, e, _⟩
  rw [e, hp]
  rfl
def Sp7 {α0 : Type} [Rp α0] {α1 : Type} [Rp α1] {α2 : Type} [Rp α2] {α3 : Type} [Rp α3] {α4 : Type} [Rp α4] {α5 : Type} [Rp α5] {α6 : Type} [Rp α6] {ρ : Type} (K : PySem.W.Frag) (RR : Hp → Hp → Hp → V → ρ → Prop) (f : α0 → α1 → α2 → α3 → α4 → α5 → α6 → Option ρ) : Sp := fun vs H Q _ => ∃ (G : Hp) (v0 v1 v2 v3 v4 v5 v6 : V) (x0 : α0) (x1 : α1) (x2 : α2) (x3 : α3) (x4 : α4) (x5 : α5) (x6 : α6) (r : ρ), vs = [v0, v1, v2, v3, v4, v5, v6] ∧ Vw G H ∧ rep K G v0 x0 ∧ rep K G v1 x1 ∧ rep K G v2 x2 ∧ rep K G v3 x3 ∧ rep K G v4 x4 ∧ rep K G v5 x5 ∧ rep K G v6 x6 ∧ f x0 x1 x2 x3 x4 x5 x6 = some r ∧ ∀ u G' H', Ext G H G' H' → RR H G' H' u r → Q u H'
theorem Sp7.len {α0 : Type} [Rp α0] {α1 : Type} [Rp α1] {α2 : Type} [Rp α2] {α3 : Type} [Rp α3] {α4 : Type} [Rp α4] {α5 : Type} [Rp α5] {α6 : Type} [Rp α6] {ρ : Type} {K : PySem.W.Frag} {RR : Hp → Hp → Hp → V → ρ → Prop} {f : α0 → α1 → α2 → α3 → α4 → α5 → α6 → Option ρ} {ps : List Str} (hp : ps.length = 7) : ∀ vs H Q E, Sp7 K RR f vs H Q E → vs.length = ps.length := by
  intro vs H Q E ⟨_, _, _, _, _, _, _, _, _, _, _, _, _, _, _, _, e, _⟩
  rw [e, hp]
  rfl
def Sp8 {α0 : Type} [Rp α0] {α1 : Type} [Rp α1] {α2 : Type} [Rp α2] {α3 : Type} [Rp α3] {α4 : Type} [Rp α4] {α5 : Type} [Rp α5] {α6 : Type} [Rp α6] {α7 : Type} [Rp α7] {ρ : Type} (K : PySem.W.Frag) (RR : Hp → Hp → Hp → V → ρ → Prop) (f : α0 → α1 → α2 → α3 → α4 → α5 → α6 → α7 → Option ρ) : Sp := fun vs H Q _ => ∃ (G : Hp) (v0 v1 v2 v3 v4 v5 v6 v7 : V) (x0 : α0) (x1 : α1) (x2 : α2) (x3 : α3) (x4 : α4) (x5 : α5) (x6 : α6) (x7 : α7) (r : ρ), vs = [v0, v1, v2, v3, v4, v5, v6, v7] ∧ Vw G H ∧ rep K G v0 x0 ∧ rep K G v1 x1 ∧ rep K G v2 x2 ∧ rep K G v3 x3 ∧ rep K G v4 x4 ∧ rep K G v5 x5 ∧ rep K G v6 x6 ∧ rep K G v7 x7 ∧ f x0 x1 x2 x3 x4 x5 x6 x7 = some r ∧ ∀ u G' H', Ext G H G' H' → RR H G' H' u r → Q u H'
theorem Sp8.len {α0 : Type} [Rp α0] {α1 : Type} [Rp α1] {α2 : Type} [Rp α2] {α3 : Type} [Rp α3] {α4 : Type} [Rp α4] {α5 : Type} [Rp α5] {α6 : Type} [Rp α6] {α7 : Type} [Rp α7] {ρ : Type} {K : PySem.W.Frag} {RR : Hp → Hp → Hp → V → ρ → Prop} {f : α0 → α1 → α2 → α3 → α4 → α5 → α6 → α7 → Option ρ} {ps : List Str} (hp : ps.length = 8) : ∀ vs H Q E, Sp8 K RR f vs H Q E → vs.length = ps.length := by
  intro vs H Q E ⟨_, _, _, _, _, _, _, _, _, _, _, _, _, _, _, _, _, _, e, _⟩
  rw [e, hp]
  rfl
theorem rvm {ρ : Type} [Rp ρ] {K : PySem.W.Frag} : ∀ H1 H2, HK H1 H2 → ∀ G' H' u (r : ρ), RV K H2 G' H' u r → RV K H1 G' H' u r := fun _ _ _ _ _ _ _ h => h
theorem rfm {ρ : Type} [Rp ρ] {K : PySem.W.Frag} : ∀ H1 H2, HK H1 H2 → ∀ G' H' u (r : List ρ), RF K H2 G' H' u r → RF K H1 G' H' u r := fun _ _ s _ _ _ _ ⟨p, e, o⟩ => ⟨p, e, o.up s⟩
theorem rpm {ρ τ : Type} [Rp ρ] [Rp τ] {K : PySem.W.Frag} : ∀ H1 H2, HK H1 H2 → ∀ G' H' u (r : List ρ × τ), RP K H2 G' H' u r → RP K H1 G' H' u r := fun _ _ s _ _ _ _ ⟨t, p, y, e, h, o, hy⟩ => ⟨t, p, y, e, h, o.up s, hy⟩

/-! ### statements -/
section
variable {α β γ δ ρ S R : Type} [Rp α] [Rp β] [Rp γ] [Rp δ]
variable {K : PySem.W.Frag} {σ : St} {G0 H0 G H G1 H1 Gs : Hp} {ta tb te tl : TE} {tc tt : TT} {t u : TS} {ma : Option α} {mb : Option β} {i j l : Nat} {v : V} {d : α} {D : Ends} {out : ρ} {A B : Option ρ}
theorem st_set {k : α → Option ρ} (hs : Vw G H) (se : SE K te σ G H ma) (hm : ma.bind k = some out) (kont : ∀ x v G1 H1, Ext G H G1 H1 → rep K G1 v x → k x = some out → D.nx (σ.set i (some v)) H1) : tAsg te (gName i) D σ H := by
  obtain ⟨x, hx, hk⟩ := bind_some hm
  exact se G H (Ext.refl hs) x hx _ fun v G1 H1 e hv => kont x v G1 H1 e hv hk
theorem st_setF {m : Option (List α)} {k : List α → Option ρ} (hs : Vw G H) (se : FE K te σ G H m) (hm : m.bind k = some out) (kont : ∀ x p G1 H1, Ext G H G1 H1 → Own K H G1 H1 p x → k x = some out → D.nx (σ.set i (some (.ref p))) H1) : tAsg te (gName i) D σ H := by
  obtain ⟨x, hx, hk⟩ := bind_some hm
  exact se G H (Ext.refl hs) x hx _ fun p G1 H1 e o => kont x p G1 H1 e o hk
/-- a, b = e -/
theorem st_un2 {m : Option (α × β)} {k : α × β → Option ρ} (hs : Vw G H) (se : SE K te σ G H m) (hm : m.bind k = some out) (kont : ∀ x v w G1 H1, Ext G H G1 H1 → rep K G1 v x.1 → rep K G1 w x.2 → k x = some out → D.nx ((σ.set i (some v)).set j (some w)) H1) :
    tAsg te (gTup K 2 (gCons (gName i) (gCons (gName j) gNil))) D σ H := by
  obtain ⟨x, hx, hk⟩ := bind_some hm
  refine se G H (Ext.refl hs) x hx _ fun v G1 H1 e ⟨a, y, z, ea, ha, h1, h2⟩ => ?_
  exact ⟨a, [y, z], ea, same_tup e.s.s ha, rfl, y, [z], rfl, z, [], rfl, rfl, kont x y z G1 H1 e h1 h2 hk⟩
/-- .. the first a new list -/
theorem st_un2P {m : Option (List α × β)} {k : List α × β → Option ρ} (hs : Vw G H) (se : XE (RP K) te σ G H m) (hm : m.bind k = some out) (kont : ∀ x p w G1 H1, Ext G H G1 H1 → Own K H G1 H1 p x.1 → rep K G1 w x.2 → k x = some out → D.nx ((σ.set i (some (.ref p))).set j (some w)) H1) :
    tAsg te (gTup K 2 (gCons (gName i) (gCons (gName j) gNil))) D σ H := by
  obtain ⟨x, hx, hk⟩ := bind_some hm
  refine se G H (Ext.refl hs) x hx _ fun v G1 H1 e ⟨a, p, z, ea, ha, h1, h2⟩ => ?_
  exact ⟨a, [.ref p, z], ea, same_tup e.s.s ha, rfl, .ref p, [z], rfl, z, [], rfl, rfl, kont x p z G1 H1 e h1 h2 hk⟩
theorem st_if {m : Option Bool} (hs : Vw G H) (s : ST tc σ G H m) (hm : (m.bind fun b => cond b A B) = some out) (kt : ∀ G1 H1, Ext G H G1 H1 → A = some out → t D σ H1) (kf : ∀ G1 H1, Ext G H G1 H1 → B = some out → u D σ H1) : tIfS tc t u D σ H := by
  obtain ⟨b, hb, hm⟩ := bind_some hm
  refine s G H (Ext.refl hs) b hb _ fun G1 H1 e => ?_
  cases b with
  | true => exact kt G1 H1 e hm
  | false => exact kf G1 H1 e hm
theorem st_join (J : St → Hp → Prop) (hj : ∀ σ' H', J σ' H' → D.nx σ' H') (h : ∀ N : St → Hp → Prop, (∀ σ' H', J σ' H' → N σ' H') → t { D with nx := N } σ H) : t D σ H := h D.nx hj
theorem st_ret (e : Ext G0 H0 G H) {m : Option ρ} {RR : Hp → Hp → Hp → V → ρ → Prop} {r : ρ} (RRm : ∀ H1 H2, HK H1 H2 → ∀ G' H' u r, RR H2 G' H' u r → RR H1 G' H' u r) (se : XE RR te σ G H m) (hm : m = some r) (q : ∀ u G' H', Ext G0 H0 G' H' → RR H0 G' H' u r → D.rt u H') : tRet te D σ H :=
  se G H (Ext.refl e.s) r hm _ fun u G1 H1 e1 hu => q u G1 H1 (e.trans e1) (RRm _ _ e.h _ _ _ _ hu)
theorem st_retL (e : Ext G0 H0 G H) {m : Option ρ} {RR : Hp → Hp → Hp → V → ρ → Prop} {f : Fl S ρ} (RRm : ∀ H1 H2, HK H1 H2 → ∀ G' H' u r, RR H2 G' H' u r → RR H1 G' H' u r) (se : XE RR te σ G H m) (hm : (m.bind fun x => some (Fl.rt x : Fl S ρ)) = some f)
    (q : ∀ x, f = .rt x → ∀ u G' H', Ext G0 H0 G' H' → RR H0 G' H' u x → D.rt u H') : tRet te D σ H := by
  obtain ⟨x, hx, hf⟩ := bind_some hm
  cases hf
  exact se G H (Ext.refl e.s) x hx _ fun u G1 H1 e1 hu => q x rfl u G1 H1 (e.trans e1) (RRm _ _ e.h _ _ _ _ hu)
/-- xs.append(e), the list one's own -/
theorem st_app {p : Addr} {ds : List α} {k : List α → Option ρ} (hs : Vw G H) (hv : σ[i]? = some (some (.ref p))) (o : Own K H0 G H p ds) (se : SE K te σ G H ma) (hm : (ma.bind fun x => (appO ds x).bind k) = some out)
    (kont : ∀ es h G1 H1, Ext G H G1 H1 → Own K H0 G1 (upd H1 p h) p es → G1 p = none → k es = some out → D.nx σ (upd H1 p h)) : tDrop (tBM K "list" rAppend (tVar i) (tCons te tNil)) D σ H := by
  obtain ⟨x, hx, hm⟩ := bind_some hm
  obtain ⟨y, hy, hm⟩ := bind_some hm
  unfold appO at hy
  split at hy
  · rename_i hl
    cases hy
    obtain ⟨vs0, h0, l0, rs0⟩ := o.h
    refine ⟨.ref p, hv, .inl ⟨rfl, _, SqL.of h0⟩, ?_⟩
    refine se G H (Ext.refl hs) x hx _ fun v G1 H1 e1 hw => ?_
    have o1 := o.mono e1
    obtain ⟨vs, h1, l1, rs⟩ := o1.h
    have ll : vs.length < 16000000 := by
      rw [rs.len]
      exact hl
    refine ⟨p, vs, v, rfl, rfl, h1, Nat.lt_of_lt_of_le ll (by decide), ?_⟩
    refine kont (ds ++ [x]) _ G1 H1 e1 ⟨o1.z, o1.g, _, upd_same, ?_, rs.app (.cons hw .nil)⟩ o1.g hm
    rw [List.length_append]
    exact Nat.le_trans (Nat.succ_le_of_lt ll) (by decide)
  · cases hy
/-- xs[k] = e, the list one's own -/
theorem st_put {p : Addr} {ds : List α} {mk : Option Int} {k : List α → Option ρ} (hs : Vw G H) (hv : σ[i]? = some (some (.ref p))) (o : Own K H0 G H p ds) (se : SE K te σ G H ma) (si : SE K ta σ G H mk) (hm : (ma.bind fun x => mk.bind fun j => (setO ds j x).bind k) = some out)
    (kont : ∀ es h G1 H1, Ext G H G1 H1 → Own K H0 G1 (upd H1 p h) p es → G1 p = none → k es = some out → D.nx σ (upd H1 p h)) : tAsg te (gSub (tVar i) ta rSetL) D σ H := by
  obtain ⟨x, hx, hm⟩ := bind_some hm
  obtain ⟨j, hj, hm⟩ := bind_some hm
  obtain ⟨es, he, hm⟩ := bind_some hm
  refine se G H (Ext.refl hs) x hx _ fun v G1 H1 e1 hw => ?_
  refine ⟨.ref p, hv, ?_⟩
  refine si G1 H1 e1 j hj _ fun w G2 H2 e2 hj2 => ?_
  have o1 := o.mono (e1.trans e2)
  obtain ⟨vs, h1, l1, rs⟩ := o1.h
  have hl := rs.len
  unfold setO at he
  split at he
  · rename_i hc
    cases he
    refine ⟨p, vs, j, j.toNat, rfl, hj2, h1, ?_, ?_⟩
    · unfold ixN
      rw [if_pos hc.1, if_pos (by omega)]
    · exact kont _ _ G2 H2 (e1.trans e2) ⟨o1.z, o1.g, _, upd_same, by rw [List.length_set]; exact l1, rs.set _ (Rp.mono e2.g hw)⟩ o1.g hm
  · split at he
    · rename_i hc
      cases he
      refine ⟨p, vs, j, (j + vs.length).toNat, rfl, hj2, h1, ?_, ?_⟩
      · unfold ixN
        rw [if_neg (by omega), if_pos (by omega)]
      · rw [show (vs.length : Int) = ds.length by rw [hl]]
        exact kont _ _ G2 H2 (e1.trans e2) ⟨o1.z, o1.g, _, upd_same, by rw [List.length_set]; exact l1, rs.set _ (Rp.mono e2.g hw)⟩ o1.g hm
    · cases he

/-! ### loops -/
theorem st_whileN {c : S → Option Bool} {b : S → Option S} {s s' : S} (Rel : S → St → Hp → Hp → Prop) (hm : whileN c b s = some s') (h0 : Rel s σ G H) (hg : ∀ s σ G H, Rel s σ G H → Vw G H)
    (hc : ∀ s σ G H, Rel s σ G H → ST tc σ G H (c s))
    (hb : ∀ s f σ G H G1 H1 N, Rel s σ G H → Ext G H G1 H1 → c s = some true → b s = some f → (∀ σ' G' H', Rel f σ' G' H' → N σ' H') → t { D with nx := N, ct := N, bk := D.nx } σ H1)
    (hd : ∀ σ G H G1 H1, Rel s' σ G H → Ext G H G1 H1 → D.nx σ H1) : tWhile tc t D σ H := by
  obtain ⟨n0, hn0⟩ := whileN_iff.mp hm
  refine ⟨fun m σ H => ∃ s G, Rel s σ G H ∧ itN c b m s = some s', ⟨n0, s, G, h0, hn0⟩, fun m σ H ⟨s, G, hR, hn⟩ => ?_⟩
  cases m with
  | zero => cases hn
  | succ m =>
    obtain ⟨k, h1, h2⟩ := bind_some (show (c s).bind _ = some s' from hn)
    refine hc s σ G H hR G H (Ext.refl (hg _ _ _ _ hR)) k h1 _ fun G1 H1 e => ?_
    cases k with
    | false =>
      cases h2
      exact hd σ G H G1 H1 hR e
    | true =>
      obtain ⟨s2, h3, h4⟩ := bind_some (show (b s).bind _ = some s' from h2)
      exact ⟨fun σ' H' => ∃ G', Rel s2 σ' G' H', fun σ' H' ⟨G', hR'⟩ => ⟨m, Nat.lt_succ_self m, s2, G', hR', h4⟩, hb s s2 σ G H G1 H1 _ hR e h1 h3 fun σ' G' H' hR' => ⟨G', hR'⟩⟩
/-- an iterator over the items xs -/
structure ItOk (K : PySem.W.Frag) (J : It) (Gs : Hp) (xs : List α) : Prop where
  stop : ∀ i G H, Same Gs G → Vw G H → xs.length ≤ i → J.stop i H
  go : ∀ i x G H, Same Gs G → Vw G H → xs[i]? = some x → J.go i H ∧ ∀ v H', J.yld i H v H' → ∃ G', Ext G H G' H' ∧ rep K G' v x
def IE (K : PySem.W.Frag) (wi : TI) (σ : St) (G H : Hp) (m : Option (List α)) : Prop :=
  ∀ G1 H1, Ext G H G1 H1 → ∀ xs, m = some xs → ∀ R : It → Hp → Prop, (∀ J G2 H2, Ext G1 H1 G2 H2 → ItOk K J G2 xs → R J H2) → wi σ H1 R
/-- .. of no more items than a list may hold -/
def IB (K : PySem.W.Frag) (wi : TI) (σ : St) (G H : Hp) (m : Option (List α)) : Prop :=
  ∀ G1 H1, Ext G H G1 H1 → ∀ xs, m = some xs → ∀ R : It → Hp → Prop, (∀ J G2 H2, Ext G1 H1 G2 H2 → ItOk K J G2 xs → xs.length ≤ sizeLine → R J H2) → wi σ H1 R
theorem IB.ie {wi : TI} {m : Option (List α)} (h : IB K wi σ G H m) : IE K wi σ G H m := fun G1 H1 e xs hm R q => h G1 H1 e xs hm R fun J G2 H2 e2 it _ => q J G2 H2 e2 it
theorem ib_list {m : Option (List α)} (h : SE K tl σ G H m) : IB K (iList K tl) σ G H m := fun G1 H1 e xs hm R q => by
  refine h G1 H1 e xs hm _ fun v G2 H2 e2 ⟨a, vs, ea, ha, l, rs⟩ => ?_
  refine ⟨a, ea, ⟨vs, SqL.of (e2.s _ _ ha)⟩, q _ G2 H2 e2 ⟨fun i G H s1 s2 hi => ⟨vs, SqL.of (s2 _ _ (s1 _ _ ha)), by rw [rs.len]; exact hi⟩, fun i x G H s1 s2 hi => ?_⟩ (by rw [← rs.len]; exact l)⟩
  obtain ⟨w, h1, h2⟩ := rs.get hi
  have hS := SqL.of (K := K) (s2 _ _ (s1 _ _ ha))
  refine ⟨⟨vs, w, hS, h1⟩, fun u H' ⟨e1, hy⟩ => ?_⟩
  subst e1
  have eu := hy vs hS
  rw [h1] at eu
  cases eu
  exact ⟨G, Ext.refl s2, Rp.mono s1 h2⟩
theorem ib_tup {m : Option (TL α)} (h : SE K tl σ G H m) : IB K (iTup K tl) σ G H (m.bind fun t => some t.l) := fun G1 H1 e xs hm R q => by
  obtain ⟨t, ht, hm⟩ := bind_some hm
  cases hm
  refine h G1 H1 e t ht _ fun v G2 H2 e2 ⟨a, vs, ea, ha, l, rs⟩ => ?_
  refine ⟨a, ea, ⟨vs, same_tup e2.s.s ha⟩, q _ G2 H2 e2 ⟨fun i G H s1 s2 hi => ⟨vs, same_tup s2.s (same_tup s1 ha), by rw [rs.len]; exact hi⟩, fun i x G H s1 s2 hi => ?_⟩ (by rw [← rs.len]; exact l)⟩
  obtain ⟨w, h1, h2⟩ := rs.get hi
  have hS := same_tup s2.s (same_tup s1 ha)
  refine ⟨⟨vs, w, hS, h1⟩, fun u H' ⟨e1, hy⟩ => ?_⟩
  subst e1
  have eu := hy vs hS
  rw [h1] at eu
  cases eu
  exact ⟨G, Ext.refl s2, Rp.mono s1 h2⟩
theorem itok_range {lo hi : Int} {G2 : Hp} {n : Nat} (hn : n = (hi - lo).toNat) : ItOk K (Itr lo n) G2 (rangeL lo hi) := by
  have hl : (rangeL lo hi).length = n := by
    unfold rangeL
    rw [List.length_map, List.length_range, hn]
  refine ⟨fun i G H _ _ h => ?_, fun i x G H s1 s2 h => ?_⟩
  · show n ≤ i
    rw [← hl]
    exact h
  · have hi2 : i < n := by
      rw [← hl]
      obtain ⟨q, _⟩ := List.getElem?_eq_some_iff.mp h
      exact q
    refine ⟨hi2, fun v H' ⟨e1, e2⟩ => ?_⟩
    subst e1
    refine ⟨G, Ext.refl s2, ?_⟩
    unfold rangeL at h
    rw [List.getElem?_map, List.getElem?_range (by omega)] at h
    cases h
    exact e2
theorem ie_range1 {m : Option Int} (h : SE K te σ G H m) : IE K (iRng1 (tCons te tNil)) σ G H (m.bind fun n => rangeO 0 n) := fun G1 H1 e xs hm R q => by
  obtain ⟨n, hn, hm⟩ := bind_some hm
  unfold rangeO at hm
  split at hm
  · rename_i c
    cases hm
    refine h G1 H1 e n hn _ fun v G2 H2 e2 hv => ⟨n, by rw [show v = .int n from hv], c.2.2.1, c.2.2.2, q _ G2 H2 e2 (itok_range (by omega))⟩
  · cases hm
theorem ie_range1p {n : Int} (h : SE K te σ G H (some n)) : IE K (iRng1 (tCons te tNil)) σ G H (rangeO 0 n) := ie_range1 h
theorem ie_range2 {m n : Option Int} (h1 : SE K ta σ G H m) (h2 : SE K tb σ G H n) : IE K (iRng2 (tCons ta (tCons tb tNil))) σ G H (m.bind fun lo => n.bind fun hi => rangeO lo hi) := fun G1 H1 e xs hm R q => by
  obtain ⟨lo, hlo, hm⟩ := bind_some hm
  obtain ⟨hi, hhi, hm⟩ := bind_some hm
  unfold rangeO at hm
  split at hm
  · rename_i c
    cases hm
    refine h1 G1 H1 e lo hlo _ fun v G2 H2 e2 hv => ?_
    refine h2 G2 H2 (e.trans e2) hi hhi _ fun w G3 H3 e3 hw => ?_
    exact ⟨lo, hi, by rw [show v = .int lo from hv, show w = .int hi from hw], c, q _ G3 H3 (e2.trans e3) (itok_range rfl)⟩
  · cases hm
theorem ie_range2p {lo hi : Int} (h1 : SE K ta σ G H (some lo)) (h2 : SE K tb σ G H (some hi)) : IE K (iRng2 (tCons ta (tCons tb tNil))) σ G H (rangeO lo hi) := ie_range2 h1 h2
/-- what a for does behind its head -/
def LG (J : It) (g : TG) (tb : TS) : TS := fun D σ H => ∃ W : Nat → Nat → St → Hp → Prop, (∃ m, W 0 m σ H) ∧ ∀ i m σ H, W i m σ H →
  (J.stop i H ∧ D.nx σ H) ∨ (J.go i H ∧ ∃ N : St → Hp → Prop, (∀ σ' H', N σ' H' → ∃ m', m' < m ∧ W (i + 1) m' σ' H') ∧ ∀ x H', J.yld i H x H' → g x σ H' fun σ2 H2 => tb { D with nx := N, ct := N, bk := D.nx } σ2 H2)
theorem st_for {wi : TI} {g : TG} {m : Option (List α)} {k : List α → Option ρ} (hs : Vw G H) (ie : IE K wi σ G H m) (hm : m.bind k = some out) (kont : ∀ xs J G1 H1, Ext G H G1 H1 → ItOk K J G1 xs → k xs = some out → LG J g t D σ H1) : tFor wi g t D σ H := by
  obtain ⟨xs, hx, hk⟩ := bind_some hm
  exact ie G H (Ext.refl hs) xs hx _ fun J G1 H1 e it => kont xs J G1 H1 e it hk
theorem lg_N {J : It} {g : TG} {xs : List α} {b : S → α → Option S} {s s' : S} (Rel : S → St → Hp → Hp → Prop) (it : ItOk K J Gs xs) (hm : forN b xs s = some s') (h0 : Rel s σ Gs H) (hg : ∀ s σ G H, Rel s σ G H → Same Gs G ∧ Vw G H)
    (hb : ∀ s x f v σ G H G1 H1 N, x ∈ xs → Rel s σ G H → Ext G H G1 H1 → rep K G1 v x → b s x = some f → (∀ σ' G' H', Rel f σ' G' H' → N σ' H') → g v σ H1 fun σ2 H2 => t { D with nx := N, ct := N, bk := D.nx } σ2 H2)
    (hd : ∀ σ G H, Rel s' σ G H → D.nx σ H) : LG J g t D σ H := by
  refine ⟨fun i m σ H => ∃ s G, Rel s σ G H ∧ forN b (xs.drop i) s = some s' ∧ m = xs.length - i, ⟨xs.length, s, Gs, h0, hm, rfl⟩, fun i m σ H ⟨s, G, hR, hn, em⟩ => ?_⟩
  obtain ⟨g1, g2⟩ := hg _ _ _ _ hR
  by_cases hi : i < xs.length
  · right
    have hx : xs[i]? = some xs[i] := List.getElem?_eq_getElem hi
    obtain ⟨go, yl⟩ := it.go i _ G H g1 g2 hx
    rw [List.drop_eq_getElem_cons hi] at hn
    obtain ⟨s2, h3, h4⟩ := bind_some (show (b s xs[i]).bind _ = some s' from hn)
    refine ⟨go, fun σ' H' => ∃ G', Rel s2 σ' G' H', fun σ' H' ⟨G', hR'⟩ => ⟨m - 1, by omega, s2, G', hR', h4, by omega⟩, fun v H' hy => ?_⟩
    obtain ⟨G1, e1, hv⟩ := yl v H' hy
    exact hb s xs[i] s2 v σ G H G1 H' _ (List.getElem_mem hi) hR e1 hv h3 fun σ' G' H' hR' => ⟨G', hR'⟩
  · left
    rw [List.drop_eq_nil_of_le (by omega)] at hn
    cases hn
    exact ⟨it.stop i G H g1 g2 (by omega), hd σ G H hR⟩
theorem lg_R {J : It} {g : TG} {xs : List α} {b : S → α → Option (Fl S R)} {s : S} {o : Sum S R} (Rel : S → St → Hp → Hp → Prop) (it : ItOk K J Gs xs) (hm : forR b xs s = some o) (h0 : Rel s σ Gs H) (hg : ∀ s σ G H, Rel s σ G H → Same Gs G ∧ Vw G H)
    (hb : ∀ s x f v σ G H G1 H1 N, x ∈ xs → Rel s σ G H → Ext G H G1 H1 → rep K G1 v x → b s x = some f → (∀ s' σ' G' H', f = .nx s' → Rel s' σ' G' H' → N σ' H') → (∀ s', f = .ex s' → o = .inl s') → (∀ x, f = .rt x → o = .inr x) → g v σ H1 fun σ2 H2 => t { D with nx := N, ct := N, bk := D.nx } σ2 H2)
    (hd : ∀ s' σ G H, o = .inl s' → Rel s' σ G H → D.nx σ H) : LG J g t D σ H := by
  refine ⟨fun i m σ H => ∃ s G, Rel s σ G H ∧ forR b (xs.drop i) s = some o ∧ m = xs.length - i, ⟨xs.length, s, Gs, h0, hm, rfl⟩, fun i m σ H ⟨s, G, hR, hn, em⟩ => ?_⟩
  obtain ⟨g1, g2⟩ := hg _ _ _ _ hR
  by_cases hi : i < xs.length
  · right
    have hx : xs[i]? = some xs[i] := List.getElem?_eq_getElem hi
    obtain ⟨go, yl⟩ := it.go i _ G H g1 g2 hx
    rw [List.drop_eq_getElem_cons hi] at hn
    obtain ⟨f, h3, h4⟩ := bind_some (show (b s xs[i]).bind _ = some o from hn)
    refine ⟨go, fun σ' H' => ∃ s2 G', f = .nx s2 ∧ Rel s2 σ' G' H', fun σ' H' ⟨s2, G', ef, hR'⟩ => ⟨m - 1, by omega, s2, G', hR', ?_, by omega⟩, fun v H' hy => ?_⟩
    · subst ef
      exact h4
    · obtain ⟨G1, e1, hv⟩ := yl v H' hy
      refine hb s xs[i] f v σ G H G1 H' _ (List.getElem_mem hi) hR e1 hv h3 (fun s2 σ' G' H' ef hR' => ⟨s2, G', ef, hR'⟩) (fun s2 ef => ?_) (fun x ef => ?_)
      · subst ef
        exact (Option.some.inj h4).symm
      · subst ef
        exact (Option.some.inj h4).symm
  · left
    rw [List.drop_eq_nil_of_le (by omega)] at hn
    cases hn
    exact ⟨it.stop i G H g1 g2 (by omega), hd s σ G H rfl hR⟩
/-- a loop's target of two names -/
theorem g_two {v : V} {d : α × β} {Q : St → Hp → Prop} (hs : Vw G H) (h : rep K G v d) (kont : ∀ x y, rep K G x d.1 → rep K G y d.2 → Q ((σ.set i (some x)).set j (some y)) H) : gTup K 2 (gCons (gName i) (gCons (gName j) gNil)) v σ H Q := by
  obtain ⟨a, x, y, ea, ha, h1, h2⟩ := h
  exact ⟨a, [x, y], ea, same_tup hs.s ha, rfl, x, [y], rfl, y, [], rfl, rfl, kont x y h1 h2⟩
/-! ### comprehensions -/
/-- what a target makes of the slots -/
def TgOk (K : PySem.W.Frag) (g : TG) (vs : List Nat) (σ : St) (P : St → Hp → Hp → α → Prop) : Prop :=
  ∀ G H v x, Vw G H → rep K G v x → ∀ Q : St → Hp → Prop, (∀ σ2, wipe σ2 vs = wipe σ vs → P σ2 G H x → Q σ2 H) → g v (wipe σ vs) H Q
theorem fe_lc {wi : TI} {g : TG} {vs : List Nat} {m : Option (List α)} {c : α → Option Bool} {f : α → Option β} (P : St → Hp → Hp → α → Prop) (ib : IB K wi σ G H m) (tg : TgOk K g vs σ P)
    (ht : ∀ x σ2 G1 H1, Ext G H G1 H1 → P σ2 G1 H1 x → ST tt σ2 G1 H1 (c x)) (he : ∀ x σ2 G1 H1, Ext G H G1 H1 → P σ2 G1 H1 x → SE K te σ2 G1 H1 (f x)) : FE K (tLc wi g tt te vs) σ G H (m.bind fun xs => filO c f xs) := fun G1 H1 e r hm Q q => by
  obtain ⟨xs, hx, hm⟩ := bind_some hm
  refine ib G1 H1 e xs hx _ fun J G2 H2 e2 it hl D hD => ?_
  refine ⟨fun i m H => ∃ G ys rest, Ext G2 H2 G H ∧ Own K H2 G H D ys ∧ ys.length ≤ i ∧ filO c f (xs.drop i) = some rest ∧ ys ++ rest = r ∧ m = xs.length - i,
    ⟨xs.length, G2, [], r, Ext.own e2.s hD, own_new e2.s hD (Nat.zero_le _) .nil, Nat.le_refl _, hm, rfl, rfl⟩, fun i m H ⟨G', ys, rest, e3, o, hy, hn, er, em⟩ => ?_⟩
  by_cases hi : i < xs.length
  · right
    have hx : xs[i]? = some xs[i] := List.getElem?_eq_getElem hi
    obtain ⟨go, yl⟩ := it.go i _ G' H e3.g e3.s hx
    rw [List.drop_eq_getElem_cons hi] at hn
    obtain ⟨b, hb, hn⟩ := bind_some (show (c xs[i]).bind _ = some rest from hn)
    refine ⟨go, fun H' => ∃ G ys rest, Ext G2 H2 G H' ∧ Own K H2 G H' D ys ∧ ys.length ≤ i + 1 ∧ filO c f (xs.drop (i + 1)) = some rest ∧ ys ++ rest = r, fun H' ⟨G, ys, rest, a1, a2, a3, a4, a5⟩ => ⟨m - 1, by omega, G, ys, rest, a1, a2, a3, a4, a5, by omega⟩, fun v H' hy2 => ?_⟩
    obtain ⟨G4, e4, hv⟩ := yl v H' hy2
    have eA := (e.trans e2).trans (e3.trans e4)
    refine tg G4 H' v xs[i] e4.s hv _ fun σ2 w2 p2 => ⟨w2, ?_⟩
    refine ht xs[i] σ2 G4 H' eA p2 G4 H' (Ext.refl e4.s) b hb _ fun G5 H5 e5 => ?_
    cases b with
    | false => exact ⟨G5, ys, rest, (e3.trans e4).trans e5, (o.mono e4).mono e5, Nat.le_succ_of_le hy, hn, er⟩
    | true =>
      obtain ⟨y, h5, h6⟩ := bind_some (show (f xs[i]).bind _ = some rest from hn)
      obtain ⟨rest2, h7, h8⟩ := bind_some h6
      cases h8
      show te σ2 H5 _
      refine he xs[i] σ2 G4 H' eA p2 G5 H5 e5 y h5 _ fun u G6 H6 e6 hu => ?_
      have o6 := ((o.mono e4).mono e5).mono e6
      obtain ⟨vs6, a1, a2, a3⟩ := o6.h
      have ll : vs6.length < sizeLine := by
        rw [a3.len]
        omega
      refine ⟨vs6, a1, ll, G6, ys ++ [y], rest2, (((e3.trans e4).trans e5).trans e6).put o6.z o6.g o6.pn, ⟨o6.z, o6.g, _, upd_same, ?_, a3.app (.cons hu .nil)⟩, ?_, h7, ?_⟩
      · rw [List.length_append]
        exact ll
      · rw [List.length_append]
        exact Nat.succ_le_succ hy
      · rw [← er, List.append_assoc]
        rfl
  · left
    rw [List.drop_eq_nil_of_le (by omega)] at hn
    cases hn
    rw [List.append_nil] at er
    subst er
    exact ⟨it.stop i G' H e3.g e3.s (by omega), q D G' H (e2.trans e3) (o.up e2.h)⟩
theorem tg_name (hw : ∀ v : Option V, wipe ((wipe σ [i]).set i v) [i] = wipe σ [i] := by intro _; rfl) : TgOk (α := α) K (gName i) [i] σ (fun σ2 G H x => ∃ v, σ2 = (wipe σ [i]).set i (some v) ∧ rep K G v x) := fun G H v x s h Q q => q _ (hw _) ⟨v, rfl, h⟩
end

end Mi

/-! MiZ: the rules of MiX, MiY, each for one operation: what the printed walks name. -/
namespace Mi
variable [Tbs]
open PySem L2
open Rp (rep)
section
variable {α β γ δ ρ S R : Type} [Rp α] [Rp β] [Rp γ] [Rp δ]
variable {K : PySem.W.Frag} {σ : St} {G0 H0 G H G1 H1 Gs : Hp} {ta tb te tl : TE} {tc tt : TT} {t u : TS} {ma : Option α} {mb : Option β} {i j l : Nat} {v : V} {d : α} {D : Ends} {out : ρ} {A B : Option ρ}
theorem elim_inl {f : S → Option ρ} {g : R → Option ρ} {s : S} (h : Sum.elim f g (.inl s) = some out) : f s = some out := h
theorem elim_inr {f : S → Option ρ} {g : R → Option ρ} {s : R} (h : Sum.elim f g (.inr s) = some out) : g s = some out := h
theorem flE_nx {f : S → Option ρ} {g : R → Option ρ} {s : S} (h : flE f g (.nx s) = some out) : f s = some out := h
theorem flE_rt {f : S → Option ρ} {g : R → Option ρ} {s : R} (h : flE f g (.rt s) = some out) : g s = some out := h
theorem se_iv {d : Int} (h : σ[i]? = some (some (V.int d))) : SE K (tVar i) σ G H (some d) := se_var h rfl
theorem se_sv {d : Str} (h : σ[i]? = some (some (V.str d))) : SE K (tVar i) σ G H (some d) := se_var h rfl
theorem se_modk {x j : Int} (ha : SE K ta σ G H (some x)) (hb : SE K tb σ G H (some j)) (h : 0 < j) : SE K (tOp (rI (fun _ j => 0 < j) fun i j => .int (i % j)) ta tb) σ G H (some (x % j)) := fun G1 H1 e z hm Q q => by
  cases hm
  refine ha G1 H1 e x rfl _ fun v G2 H2 e2 hv => ?_
  refine hb G2 H2 (e.trans e2) j rfl _ fun w G3 H3 e3 hw => ?_
  exact ⟨x, j, hv, hw, h, q _ G3 H3 (e2.trans e3) rfl⟩
theorem se_kpow {a b n : Int} (ha : SE K ta σ G H (some a)) (hb : SE K tb σ G H (some b)) (h : (0 ≤ b ∧ b ≤ 1000000 ∧ a.natAbs < 2 ^ 64) ∧ a ^ b.toNat = n) : SE K (tOp (rI CPow fun i j => .int (i ^ j.toNat)) ta tb) σ G H (some n) := fun G1 H1 e z hm Q q => by
  cases hm
  refine ha G1 H1 e a rfl _ fun v G2 H2 e2 hv => ?_
  refine hb G2 H2 (e.trans e2) b rfl _ fun w G3 H3 e3 hw => ?_
  exact ⟨a, b, hv, hw, h.1, q _ G3 H3 (e2.trans e3) (show V.int (a ^ b.toNat) = .int n by rw [h.2])⟩
theorem se_bits {m : Option Int} (ha : SE K ta σ G H m) : SE K (tBits ta) σ G H (m.bind fun x => some (Builtin.Int.intBits x : Int)) := fun G1 H1 e z hm Q q => by
  obtain ⟨x, hx, hm⟩ := bind_some hm
  cases hm
  exact ha G1 H1 e x hx _ fun v G2 H2 e2 hv => ⟨x, hv, q _ G2 H2 e2 rfl⟩
theorem se_bitsp {x : Int} (ha : SE K ta σ G H (some x)) : SE K (tBits ta) σ G H (some (Builtin.Int.intBits x : Int)) := se_bits ha
theorem g_name {Q : St → Hp → Prop} (h : Q (σ.set i (some v)) H) : gName i v σ H Q := h
theorem st_retO {p : Addr} {ds : List α} {r : List α} (hv : σ[i]? = some (some (.ref p))) (e : Ext G0 H0 G H) (o : Own K H0 G H p ds) (hm : some ds = some r) (q : ∀ u G' H', Ext G0 H0 G' H' → RF K H0 G' H' u r → D.rt u H') : tRet (tVar i) D σ H := by
  cases hm
  exact ⟨.ref p, hv, q _ G H e ⟨p, rfl, o⟩⟩
theorem st_retP {p : Addr} {ds : List α} {r : List α × β} (hv : σ[i]? = some (some (.ref p))) (e : Ext G0 H0 G H) (o : Own K H0 G H p ds) (se : SE K tb σ G H mb) (hm : (mb.bind fun y => some (ds, y)) = some r) (q : ∀ u G' H', Ext G0 H0 G' H' → RP K H0 G' H' u r → D.rt u H') : tRet (tTup (tCons (tVar i) (tCons tb tNil))) D σ H := by
  obtain ⟨y, hy, hm⟩ := bind_some hm
  cases hm
  refine ⟨.ref p, hv, ?_⟩
  refine se G H (Ext.refl e.s) y hy _ fun w G1 H1 e1 hw => ⟨by show 2 ≤ sizeLine; decide, fun t nt => ?_⟩
  have e2 := Ext.new (o := .tup [.ref p, w]) e1.s nt
  exact q _ _ _ ((e.trans e1).trans e2) ⟨t, p, w, rfl, SqT.of upd_same, (o.mono e1).mono e2, Rp.mono e2.g hw⟩
theorem st_aug {a : Int} {f : Int → Int → Int} {m : Option Int} {k : Int → Option ρ} (hs : Vw G H) (hv : σ[i]? = some (some (.int a))) (se : SE K te σ G H m) (hm : (m.bind fun y => (some (f a y)).bind k) = some out) (kont : ∀ (y z : Int) G1 H1, Ext G H G1 H1 → k z = some out → D.nx (σ.set i (some (.int z))) H1) :
    tAug i te (ipI f) D σ H := by
  obtain ⟨y, hy, hm⟩ := bind_some hm
  refine ⟨.int a, hv, ?_⟩
  refine se G H (Ext.refl hs) y hy _ fun w G1 H1 e1 hw => ?_
  exact ⟨a, y, rfl, hw, kont y (f a y) G1 H1 e1 hm⟩
theorem st_seq {t1 t2 : TS} (h : t1 { D with nx := t2 D } σ H) : tSeq t1 t2 D σ H := h
theorem st_next (q : D.nx σ H) : tNext D σ H := q
theorem st_drop2 {k : α → Option ρ} (hs : Vw G H) (se : SE K te σ G H ma) (hm : ma.bind k = some out) (kont : ∀ x G1 H1, Ext G H G1 H1 → k x = some out → D.nx σ H1) : tDrop te D σ H := by
  obtain ⟨x, hx, hk⟩ := bind_some hm
  exact se G H (Ext.refl hs) x hx _ fun v G1 H1 e hv => kont x G1 H1 e hk
theorem Reps.snoc {vs : List V} {ds : List α} (h : Reps K G vs ds) {w : V} {x : α} (r : rep K G w x) : Reps K G (vs ++ [w]) (ds ++ [x]) := h.app (.cons r .nil)
/-- a list taken apart into names -/
def unl2 (xs : List α) (k : α → α → Option ρ) : Option ρ := match xs with
  | [a, b] => k a b
  | _ => none
def unl3 (xs : List α) (k : α → α → α → Option ρ) : Option ρ := match xs with
  | [a, b, c] => k a b c
  | _ => none
def unl4 (xs : List α) (k : α → α → α → α → Option ρ) : Option ρ := match xs with
  | [a, b, c, d] => k a b c d
  | _ => none
def unl5 (xs : List α) (k : α → α → α → α → α → Option ρ) : Option ρ := match xs with
  | [a, b, c, d, e] => k a b c d e
  | _ => none

theorem se_add {m n : Option Int} (ha : SE K ta σ G H m) (hb : SE K tb σ G H n) : SE K (tOp (rI0 fun i j => .int (i + j)) ta tb) σ G H (m.bind fun x => n.bind fun y => some (x + y)) := se_op (f := fun x y => some (x + y)) ha hb ro_add
theorem se_addp {x y : Int} (ha : SE K ta σ G H (some x)) (hb : SE K tb σ G H (some y)) : SE K (tOp (rI0 fun i j => .int (i + j)) ta tb) σ G H (some (x + y)) := se_opp (f := fun x y => some (x + y)) ha hb ro_add
theorem se_sub {m n : Option Int} (ha : SE K ta σ G H m) (hb : SE K tb σ G H n) : SE K (tOp (rI0 fun i j => .int (i - j)) ta tb) σ G H (m.bind fun x => n.bind fun y => some (x - y)) := se_op (f := fun x y => some (x - y)) ha hb ro_sub
theorem se_subp {x y : Int} (ha : SE K ta σ G H (some x)) (hb : SE K tb σ G H (some y)) : SE K (tOp (rI0 fun i j => .int (i - j)) ta tb) σ G H (some (x - y)) := se_opp (f := fun x y => some (x - y)) ha hb ro_sub
theorem se_mul {m n : Option Int} (ha : SE K ta σ G H m) (hb : SE K tb σ G H n) : SE K (tOp (rI CMulZ fun i j => .int (i * j)) ta tb) σ G H (m.bind fun x => n.bind fun y => mulO x y) := se_op (f := fun x y => mulO x y) ha hb ro_mul
theorem se_mulp {x y : Int} (ha : SE K ta σ G H (some x)) (hb : SE K tb σ G H (some y)) : SE K (tOp (rI CMulZ fun i j => .int (i * j)) ta tb) σ G H (mulO x y) := se_opp (f := fun x y => mulO x y) ha hb ro_mul
theorem se_div {m n : Option Int} (ha : SE K ta σ G H m) (hb : SE K tb σ G H n) : SE K (tOp (rI CDivZ fun i j => .int (i.fdiv j)) ta tb) σ G H (m.bind fun x => n.bind fun y => divO x y) := se_op (f := fun x y => divO x y) ha hb ro_div
theorem se_divp {x y : Int} (ha : SE K ta σ G H (some x)) (hb : SE K tb σ G H (some y)) : SE K (tOp (rI CDivZ fun i j => .int (i.fdiv j)) ta tb) σ G H (divO x y) := se_opp (f := fun x y => divO x y) ha hb ro_div
theorem se_mod {m n : Option Int} (ha : SE K ta σ G H m) (hb : SE K tb σ G H n) : SE K (tOp (rI (fun _ j => j ≠ 0) fun i j => .int (i.fmod j)) ta tb) σ G H (m.bind fun x => n.bind fun y => modO x y) := se_op (f := fun x y => modO x y) ha hb ro_mod
theorem se_modp {x y : Int} (ha : SE K ta σ G H (some x)) (hb : SE K tb σ G H (some y)) : SE K (tOp (rI (fun _ j => j ≠ 0) fun i j => .int (i.fmod j)) ta tb) σ G H (modO x y) := se_opp (f := fun x y => modO x y) ha hb ro_mod
theorem se_shlp {x y : Int} (ha : SE K ta σ G H (some x)) (hb : SE K tb σ G H (some y)) : SE K (tOp (rI CPow fun i j => .int (i * 2 ^ j.toNat)) ta tb) σ G H (shlO x y) := se_opp (f := fun x y => shlO x y) ha hb ro_shl
theorem se_lt {m n : Option Int} (ha : SE K ta σ G H m) (hb : SE K tb σ G H n) : SE K (tOp (rI0 fun i j => .bl (decide (i < j))) ta tb) σ G H (m.bind fun x => n.bind fun y => some (decide (x < y))) := se_op (f := fun x y => some (decide (x < y))) ha hb ro_lt
theorem se_ltp {x y : Int} (ha : SE K ta σ G H (some x)) (hb : SE K tb σ G H (some y)) : SE K (tOp (rI0 fun i j => .bl (decide (i < j))) ta tb) σ G H (some (decide (x < y))) := se_opp (f := fun x y => some (decide (x < y))) ha hb ro_lt
theorem se_le {m n : Option Int} (ha : SE K ta σ G H m) (hb : SE K tb σ G H n) : SE K (tOp (rI0 fun i j => .bl (decide (i ≤ j))) ta tb) σ G H (m.bind fun x => n.bind fun y => some (decide (x ≤ y))) := se_op (f := fun x y => some (decide (x ≤ y))) ha hb ro_le
theorem se_gt {m n : Option Int} (ha : SE K ta σ G H m) (hb : SE K tb σ G H n) : SE K (tOp (rI0 fun i j => .bl (decide (j < i))) ta tb) σ G H (m.bind fun x => n.bind fun y => some (decide (y < x))) := se_op (f := fun x y => some (decide (y < x))) ha hb ro_gt
theorem se_gtp {x y : Int} (ha : SE K ta σ G H (some x)) (hb : SE K tb σ G H (some y)) : SE K (tOp (rI0 fun i j => .bl (decide (j < i))) ta tb) σ G H (some (decide (y < x))) := se_opp (f := fun x y => some (decide (y < x))) ha hb ro_gt
theorem se_ge {m n : Option Int} (ha : SE K ta σ G H m) (hb : SE K tb σ G H n) : SE K (tOp (rI0 fun i j => .bl (decide (j ≤ i))) ta tb) σ G H (m.bind fun x => n.bind fun y => some (decide (y ≤ x))) := se_op (f := fun x y => some (decide (y ≤ x))) ha hb ro_ge
theorem se_gep {x y : Int} (ha : SE K ta σ G H (some x)) (hb : SE K tb σ G H (some y)) : SE K (tOp (rI0 fun i j => .bl (decide (j ≤ i))) ta tb) σ G H (some (decide (y ≤ x))) := se_opp (f := fun x y => some (decide (y ≤ x))) ha hb ro_ge
theorem se_eq [DecidableEq α] [Sc α] {m : Option α} {n : Option α} (ha : SE K ta σ G H m) (hb : SE K tb σ G H n) : SE K (tOp (rEq) ta tb) σ G H (m.bind fun x => n.bind fun y => some (decide (x = y))) := se_op (f := fun x y => some (decide (x = y))) ha hb ro_eq
theorem se_eqp [DecidableEq α] [Sc α] {x : α} {y : α} (ha : SE K ta σ G H (some x)) (hb : SE K tb σ G H (some y)) : SE K (tOp (rEq) ta tb) σ G H (some (decide (x = y))) := se_opp (f := fun x y => some (decide (x = y))) ha hb ro_eq
theorem se_nep [DecidableEq α] [Sc α] {x : α} {y : α} (ha : SE K ta σ G H (some x)) (hb : SE K tb σ G H (some y)) : SE K (tOp (rNe) ta tb) σ G H (some (!decide (x = y))) := se_opp (f := fun x y => some (!decide (x = y))) ha hb ro_ne
theorem se_eqDp [DecidableEq α] [RpD α] {x y : α} (ha : SE K ta σ G H (some x)) (hb : SE K tb σ G H (some y)) (hd : RpD.dep α ≤ 64 := by first | decide | exact Nat.le_of_ble_eq_true rfl) : SE K (tOp (rEqD K) ta tb) σ G H (some (decide (x = y))) := se_opp (f := fun x y => some (decide (x = y))) ha hb (ro_eqD hd)
theorem se_ixp  {x : (List α)} {y : Int} (ha : SE K ta σ G H (some x)) (hb : SE K tb σ G H (some y)) : SE K (tOp (rIxL K) ta tb) σ G H (ixO x y) := se_opp (f := fun x y => ixO x y) ha hb ro_ix
theorem se_ixKp  {x : (KL α)} {y : Int} (ha : SE K ta σ G H (some x)) (hb : SE K tb σ G H (some y)) : SE K (tOp (rIxL K) ta tb) σ G H (ixO x.l y) := se_opp (f := fun x y => ixO x.l y) ha hb ro_ixK
theorem se_lenp {x : (List α)} (ha : SE K ta σ G H (some x)) : SE K (tCB (fun xs H Q => ∃ p ys, xs = [.ref p] ∧ (SqL K H p ys ∨ SqT K H p ys) ∧ Q (.int ys.length) H) (tCons ta tNil)) σ G H (some (x.length : Int)) := se_cb1p (f := fun x => some (x.length : Int)) ha rc_len
theorem se_lenKp {x : (KL α)} (ha : SE K ta σ G H (some x)) : SE K (tCB (fun xs H Q => ∃ p ys, xs = [.ref p] ∧ (SqL K H p ys ∨ SqT K H p ys) ∧ Q (.int ys.length) H) (tCons ta tNil)) σ G H (some (x.l.length : Int)) := se_cb1p (f := fun x => some (x.l.length : Int)) ha rc_lenK
theorem se_abs {m : Option Int} (ha : SE K ta σ G H m) : SE K (tCB (fun xs H Q => ∃ i, xs = [.int i] ∧ Q (.int (if i < 0 then -i else i)) H) (tCons ta tNil)) σ G H (m.bind fun x => some (x.natAbs : Int)) := se_cb1 (f := fun x => some (x.natAbs : Int)) ha rc_abs
theorem se_absp {x : Int} (ha : SE K ta σ G H (some x)) : SE K (tCB (fun xs H Q => ∃ i, xs = [.int i] ∧ Q (.int (if i < 0 then -i else i)) H) (tCons ta tNil)) σ G H (some (x.natAbs : Int)) := se_cb1p (f := fun x => some (x.natAbs : Int)) ha rc_abs
theorem se_min2p {x y : Int} (ha : SE K ta σ G H (some x)) (hb : SE K tb σ G H (some y)) : SE K (tCB (fun xs H Q => ∃ i j, xs = [.int i, .int j] ∧ Q (.int (if j < i then j else i)) H) (tCons ta (tCons tb tNil))) σ G H (some (min x y)) := se_cb2p (f := fun x y => some (min x y)) ha hb rc_min2
/-! ### range with a step, sorted -/
theorem insI_perm : ∀ (x : Int) (r : List Int), (insI x r).Perm (x :: r)
  | x, [] => List.Perm.refl _
  | x, y :: r => by
    unfold insI
    split
    · exact List.Perm.refl _
    · exact (List.Perm.cons y (insI_perm x r)).trans (List.Perm.swap x y r)
theorem sortI_perm : ∀ r : List Int, (sortI r).Perm r
  | [] => List.Perm.refl _
  | x :: r => (insI_perm x (sortI r)).trans (List.Perm.cons x (sortI_perm r))
theorem insI_sorted : ∀ (x : Int) (r : List Int), r.Pairwise (· ≤ ·) → (insI x r).Pairwise (· ≤ ·)
  | x, [], _ => List.pairwise_singleton _ _
  | x, y :: r, h => by
    unfold insI
    rw [List.pairwise_cons] at h
    split
    · rename_i hl
      rw [List.pairwise_cons, List.pairwise_cons]
      refine ⟨fun z hz => ?_, h⟩
      rcases List.mem_cons.mp hz with q | q
      · omega
      · have := h.1 z q
        omega
    · rename_i hl
      rw [List.pairwise_cons]
      refine ⟨fun z hz => ?_, insI_sorted x r h.2⟩
      rcases List.mem_cons.mp ((insI_perm x r).mem_iff.mp hz) with q | q
      · omega
      · exact h.1 z q
theorem sortI_sorted : ∀ r : List Int, (sortI r).Pairwise (· ≤ ·)
  | [] => List.Pairwise.nil
  | x :: r => insI_sorted x (sortI r) (sortI_sorted r)
theorem sorted_one : ∀ {a b : List Int}, a.Perm b → a.Pairwise (· ≤ ·) → b.Pairwise (· ≤ ·) → a = b
  | [], b, h, _, _ => (List.Perm.nil_eq h)
  | x :: a, [], h, _, _ => absurd h.length_eq (by simp)
  | x :: a, y :: b, h, ha, hb => by
    have ha2 := List.pairwise_cons.mp ha
    have hb2 := List.pairwise_cons.mp hb
    have h1 : x ≤ y := by
      rcases List.mem_cons.mp (h.mem_iff.mpr List.mem_cons_self) with q | q
      · omega
      · exact ha2.1 y q
    have h2 : y ≤ x := by
      rcases List.mem_cons.mp (h.mem_iff.mp List.mem_cons_self) with q | q
      · omega
      · exact hb2.1 x q
    have e : x = y := by omega
    subst e
    rw [sorted_one (List.Perm.cons_inv h) ha2.2 hb2.2]
theorem size_up {lo hi c : Int} (hc : 0 < c) : Builtin.Range.rangeSize lo hi c = (((hi - lo + c - 1) / c).toNat : Int) := by
  unfold Builtin.Range.rangeSize
  rw [if_pos hc]
  split
  · rename_i h
    have e : hi - lo + c - 1 = (hi - lo - 1) + c * 1 := by omega
    have e2 : (hi - lo + c - 1) / c = (hi - lo - 1) / c + 1 := by rw [e, Int.add_mul_ediv_left _ _ (by omega)]
    have := Int.ediv_nonneg (show 0 ≤ hi - lo - 1 by omega) (show 0 ≤ c by omega)
    omega
  · rename_i h
    have e2 : (hi - lo + c - 1) / c < 1 := Int.ediv_lt_of_lt_mul hc (by omega)
    omega
theorem size_le {lo hi c : Int} (hc : 0 < c) : Builtin.Range.rangeSize lo hi c ≤ (hi - lo).toNat := by
  unfold Builtin.Range.rangeSize
  rw [if_pos hc]
  split
  · rename_i h
    have := Int.ediv_le_self c (show 0 ≤ hi - lo - 1 by omega)
    omega
  · omega
theorem small_up {a b c : Int} (hc : 0 < c) (hc2 : c < 2 ^ 20) (h : -(2 ^ 61) ≤ a ∧ a < 2 ^ 61 ∧ -(2 ^ 61) ≤ b ∧ b < 2 ^ 61) : Builtin.Range.small a b c = true := by
  unfold Builtin.Range.small
  have h1 := size_le (lo := a) (hi := b) hc
  have h2 := size_up (lo := a) (hi := b) hc
  generalize Builtin.Range.rangeSize a b c = n at h1 h2 ⊢
  simp only [Builtin.Range.rangeFitsLong, Bool.and_eq_true, Bool.or_eq_true, decide_eq_true_eq, beq_iff_eq, hc, gt_iff_lt, if_true]
  omega
theorem ie_range3 {c : Int} {m n : Option Int} (hc : 0 < c ∧ c < 2 ^ 20) (h1 : SE K ta σ G H m) (h2 : SE K tb σ G H n) : IE K (iRng3 (tCons ta (tCons tb (tCons (tC (.int c)) tNil)))) σ G H (m.bind fun lo => n.bind fun hi => rangeS lo hi c) := fun G1 H1 e xs hm R q => by
  obtain ⟨lo, hlo, hm⟩ := bind_some hm
  obtain ⟨hi, hhi, hm⟩ := bind_some hm
  unfold rangeS at hm
  split at hm
  · rename_i b
    cases hm
    refine h1 G1 H1 e lo hlo _ fun v G2 H2 e2 hv => ?_
    refine h2 G2 H2 (e.trans e2) hi hhi _ fun w G3 H3 e3 hw => ?_
    refine ⟨lo, hi, c, ((hi - lo + c - 1) / c).toNat, by rw [show v = .int lo from hv, show w = .int hi from hw], ⟨by omega, by omega, small_up hc.1 hc.2 b, size_up hc.1⟩, q _ G3 H3 (e2.trans e3) ?_⟩
    generalize ((hi - lo + c - 1) / c).toNat = n
    refine ⟨fun i G H _ _ h => ?_, fun i x G H s1 s2 h => ?_⟩
    · show n ≤ i
      rwa [List.length_map, List.length_range] at h
    · have hi2 : i < n := by
        obtain ⟨q, _⟩ := List.getElem?_eq_some_iff.mp h
        rwa [List.length_map, List.length_range] at q
      refine ⟨hi2, fun v H' ⟨e1, e2⟩ => ?_⟩
      subst e1
      refine ⟨G, Ext.refl s2, ?_⟩
      rw [List.getElem?_map, List.getElem?_range hi2] at h
      cases h
      exact e2
  · cases hm
theorem ie_range3p {c lo hi : Int} (hc : 0 < c ∧ c < 2 ^ 20) (h1 : SE K ta σ G H (some lo)) (h2 : SE K tb σ G H (some hi)) : IE K (iRng3 (tCons ta (tCons tb (tCons (tC (.int c)) tNil)))) σ G H (rangeS lo hi c) := ie_range3 hc h1 h2
/-! a list of one's own read as a value, and changed later: shown for the time of the reading -/
class ScV (α : Type) [Rp α] : Prop where
  any : ∀ {K : PySem.W.Frag} {G G' : Hp} {v : V} {x : α}, rep K G v x → rep K G' v x
instance : ScV Int := ⟨fun h => h⟩
instance : ScV Bool := ⟨fun h => h⟩
instance : ScV Str := ⟨fun h => h⟩
instance : ScV Unit := ⟨fun h => h⟩
/-! a place in a written tuple -/
/-! the kit's rules with the part named -/
section
variable {X : Cx}
theorem call_len_seqK (h : X.K = K) : CallR X (.builtin "len") (fun xs H Q => ∃ p ys, xs = [.ref p] ∧ (SqL K H p ys ∨ SqT K H p ys) ∧ Q (.int ys.length) H) := h ▸ call_len_seq
theorem call_list_ofK (h : X.K = K) : CallR X (.type "list") (fun xs H Q => ∃ p ys, xs = [.ref p] ∧ (SqL K H p ys ∨ SqT K H p ys) ∧ ∀ l, H l = none → Q (.ref l) (upd H l (.lst ys))) := h ▸ call_list_of
theorem op_eqDK (h : X.K = K) (hu : X.A.units + 64 < cLine) : OpR X (compareOp .Eq) (rEqD K) := h ▸ op_eqD hu
end

end
end Mi

/-! MiD: dicts with whole numbers as keys. -/
namespace Mi
variable [Tbs]
open PySem L2
open Rp (rep)
abbrev RepsD {β : Type} [Rp β] (K : PySem.W.Frag) (G : Hp) : List (Key × V) → List (Int × β) → Prop := Paired fun p q => p.1 = Sum.inl q.1 ∧ rep K G p.2 q.2
section
variable {β : Type} [Rp β] {K : PySem.W.Frag} {G G' : Hp} {ks : List (Key × V)} {l : List (Int × β)} {k : Int} {v : V} {x : β}
theorem repsD_mono (s : Same G G') : ∀ {ks : List (Key × V)} {l : List (Int × β)}, RepsD K G ks l → RepsD K G' ks l
  | _, _, .nil => .nil
  | _, _, .cons h r => .cons ⟨h.1, Rp.mono s h.2⟩ (repsD_mono s r)
theorem repsD_len (h : RepsD K G ks l) : ks.length = l.length := Paired.length h
theorem inl_dec (a b : Int) : decide ((Sum.inl a : Key) = Sum.inl b) = decide (a = b) := decide_eq_decide.mpr ⟨fun e => by injection e, fun e => by rw [e]⟩
theorem repsD_any : ∀ {ks : List (Key × V)} {l : List (Int × β)}, RepsD K G ks l → (ks.any fun kv => decide (kv.1 = (Sum.inl k : Key))) = l.any fun x => decide (x.1 = k)
  | _, _, .nil => rfl
  | (a, v) :: ks, (b, y) :: l, .cons ⟨h1, h2⟩ r => by
    have ih := repsD_any r
    simp only at h1
    subst h1
    rw [List.any_cons, List.any_cons, ih, inl_dec]
theorem repsD_map (hx : rep K G v x) : ∀ {ks : List (Key × V)} {l : List (Int × β)}, RepsD K G ks l → RepsD K G (ks.map fun kv => if kv.1 = (Sum.inl k : Key) then (kv.1, v) else kv) (l.map fun z => if z.1 = k then (z.1, x) else z)
  | _, _, .nil => .nil
  | (a, w) :: ks, (b, y) :: l, .cons ⟨h1, h2⟩ r => by
    have ih := repsD_map hx r
    simp only at h1 h2
    subst h1
    rw [List.map_cons, List.map_cons]
    refine .cons ?_ ih
    by_cases e : b = k
    · subst e
      rw [if_pos rfl, if_pos rfl]
      exact ⟨rfl, hx⟩
    · have en : ¬ (Sum.inl b : Key) = Sum.inl k := fun h => e (by injection h)
      rw [if_neg en, if_neg e]
      exact ⟨rfl, h2⟩
theorem repsD_put (h : RepsD K G ks l) (hx : rep K G v x) : RepsD K G (putK ks (Sum.inl k) v) (dput l k x) := by
  unfold putK dput
  rw [repsD_any h]
  split
  · exact repsD_map hx h
  · exact Paired.snoc h ⟨rfl, hx⟩
theorem repsD_keys : ∀ {ks : List (Key × V)} {l : List (Int × β)}, RepsD K G ks l → ks.map (·.1) = (l.map (·.1)).map Sum.inl
  | _, _, .nil => rfl
  | _, _, .cons h r => by
    rw [List.map_cons, List.map_cons, List.map_cons, repsD_keys r, h.1]
end
instance {β : Type} [Rp β] : Rp (DI β) := ⟨fun K G v d => ∃ a ks, v = .ref a ∧ G a = some (.dK ks) ∧ RepsD K G ks d.l,
  fun s ⟨a, ks, e, h, r⟩ => ⟨a, ks, e, s _ _ h, repsD_mono s r⟩⟩
/-- a dict of one's own -/
structure OwnD {β : Type} [Rp β] (K : PySem.W.Frag) (H0 G H : Hp) (p : Addr) (d : DI β) : Prop where
  z : H0 p = none
  g : G p = none
  h : ∃ ks, H p = some (.dK ks) ∧ RepsD K G ks d.l
section
variable {α β γ δ ρ S R : Type} [Rp α] [Rp β] [Rp γ] [Rp δ]
variable {K : PySem.W.Frag} {σ : St} {G0 H0 G H G1 H1 Gs : Hp} {ta tb te tl td ty tv tx : TE} {tc tt : TT} {t u : TS} {ma : Option α} {mb : Option β} {i j l : Nat} {v : V} {d : DI β} {D : Ends} {out : ρ} {A B : Option ρ} {p q : Addr}
theorem OwnD.ne (x : OwnD K H0 G H p d) : H p ≠ none := by
  obtain ⟨vs, h, _⟩ := x.h
  rw [h]
  intro z
  cases z
theorem OwnD.pn (x : OwnD K H0 G H p d) : PnAt H p := by
  obtain ⟨ks, h, _⟩ := x.h
  exact ⟨_, h, pn_of (fun _ z => by cases z) (fun _ z => by cases z)⟩
theorem OwnD.mono (x : OwnD K H0 G H p d) (e : Ext G H G1 H1) : OwnD K H0 G1 H1 p d := by
  obtain ⟨vs, h, r⟩ := x.h
  exact ⟨x.z, (e.a p x.ne).trans x.g, vs, e.h.k _ _ h, repsD_mono e.g r⟩
theorem OwnD.off {o : HO} (x : OwnD K H0 G H p d) (n : p ≠ q) : OwnD K H0 G (upd H q o) p d := by
  obtain ⟨vs, h, r⟩ := x.h
  exact ⟨x.z, x.g, vs, by rw [upd_ne n]; exact h, r⟩
theorem OwnD.up (x : OwnD K H G1 H1 p d) (s : HK H0 H) : OwnD K H0 G1 H1 p d := ⟨s.free x.z, x.g, x.h⟩
theorem OwnD.show (x : OwnD K H0 G H p d) (e : Ext G0 H0 G H) : ∃ ks, Ext G0 H0 (upd G p (.dK ks)) H ∧ Same G (upd G p (.dK ks)) ∧ rep K (upd G p (.dK ks)) (.ref p) d := by
  obtain ⟨ks, h, r⟩ := x.h
  exact ⟨ks, e.show x.z x.g h, same_new x.g, p, ks, rfl, upd_same, repsD_mono (same_new x.g) r⟩
/-! ### a new dict -/
def FD (K : PySem.W.Frag) (te : TE) (σ : St) (G H : Hp) (m : Option (DI β)) : Prop :=
  ∀ G1 H1, Ext G H G1 H1 → ∀ r, m = some r → ∀ Q : VK, (∀ p G2 H2, Ext G1 H1 G2 H2 → OwnD K H1 G2 H2 p r → Q (.ref p) H2) → te σ H1 Q
theorem FD.se {m : Option (DI β)} (h : FD K te σ G H m) : SE K te σ G H m := fun G1 H1 e r hm Q q =>
  h G1 H1 e r hm Q fun p G2 H2 e2 o => by
    obtain ⟨ks, e3, _, hr⟩ := o.show e2
    exact q _ _ _ e3 hr
/-- the pairs of a display: keys whole numbers, values whose reading makes no object -/
def PE2 (K : PySem.W.Frag) (trs : List (TE × TE)) (σ : St) (G : Hp) (kvs : List (Key × V)) (n : Nat) : Prop :=
  ∀ (H : Hp) (Q : List (V × V) → Hp → Prop), Q (kvs.map fun kv => (kV kv.1, kv.2)) H → tPairs trs σ H Q
theorem pe2_nil : PE2 K [] σ G [] 0 := fun H Q q => q
theorem pe2_cons {k : Int} {w : V} {trs : List (TE × TE)} {kvs : List (Key × V)} {n : Nat} (h : PE2 K trs σ G kvs n) : PE2 K ((tC (V.int k), tC w) :: trs) σ G ((Sum.inl k, w) :: kvs) (n + 1) := fun H Q q => h H _ q
theorem merge_reps {more : List (Key × V)} {xs : List (Int × β)} (h : RepsD K G more xs) : ∀ {kvs : List (Key × V)} {l : List (Int × β)}, RepsD K G kvs l → RepsD K G (mergeK kvs more) (dput2 l xs) := by
  induction h with
  | nil => exact fun h => h
  | @cons a b l1 l2 h r ih =>
    intro kvs l hl
    obtain ⟨a1, a2⟩ := a
    obtain ⟨h1, h2⟩ := h
    simp only at h1 h2
    subst h1
    exact ih (repsD_put hl h2)
theorem fd_disp {trs : List (TE × TE)} {kvs : List (Key × V)} {n : Nat} {xs : List (Int × β)} (h : PE2 K trs σ G kvs n) (hx : ∀ G, RepsD K G kvs xs) (hn : kvs.length ≤ 15 := by decide) : FD K (tDisp trs) σ G H (some (dmk xs)) := fun G1 H1 e r hm Q q => by
  cases hm
  intro p np
  refine h _ _ ⟨upd_same, kvs, rfl, hn, ?_⟩
  have := q p G1 _ (Ext.own (o := .dK (mergeK [] kvs)) e.s np) ⟨np, e.s.free np, _, upd_same, merge_reps (hx G1) .nil⟩
  rwa [show upd (upd H1 p (.dK [])) p (.dK (mergeK [] kvs)) = upd H1 p (.dK (mergeK [] kvs)) from upd_upd ..]
theorem st_setD {m : Option (DI β)} {k : DI β → Option ρ} (hs : Vw G H) (se : FD K te σ G H m) (hm : m.bind k = some out) (kont : ∀ x p G1 H1, Ext G H G1 H1 → OwnD K H G1 H1 p x → k x = some out → D.nx (σ.set i (some (.ref p))) H1) : tAsg te (gName i) D σ H := by
  obtain ⟨x, hx, hk⟩ := bind_some hm
  exact se G H (Ext.refl hs) x hx _ fun p G1 H1 e o => kont x p G1 H1 e o hk
/-! ### readings -/
/-- sorted(d) -/
def rSortedD : List V → Hp → VK → Prop := fun xs H Q => ∃ (a : Addr) (kvs : List (Key × V)) (ks : List Int), xs = [.ref a] ∧ Rd H a (.dK kvs) ∧ kvs.map (·.1) = ks.map Sum.inl ∧ ks.length < 64 ∧
    ∀ (ys : List Int) (p : Addr), ys.Perm ks → ys.Pairwise (· ≤ ·) → H p = none → Q (.ref p) (upd H p (.lst (ys.map V.int)))
theorem cr_sortedD {X : Cx} (hc : X.calm = true) : CallR X (.builtin "sorted") rSortedD := call_sortedDI hc
theorem fe_sortedD {m : Option (DI β)} (h : SE K td σ G H m) : FE K (tCB rSortedD (tCons td tNil)) σ G H (m.bind fun d => dsortO d) := fun G1 H1 e r hm Q q => by
  obtain ⟨d, hd1, hm⟩ := bind_some hm
  unfold dsortO at hm
  split at hm
  · rename_i hl
    cases hm
    refine h G1 H1 e d hd1 _ fun v G2 H2 e2 ⟨a, ks, ea, hg, rs⟩ => ?_
    refine ⟨a, ks, d.l.map (·.1), by rw [ea], Rd.of (e2.s _ _ hg), repsD_keys rs, by rw [List.length_map]; exact hl, fun ys p hp hs np => ?_⟩
    have ey : ys = sortI (d.l.map (·.1)) := sorted_one (hp.trans (sortI_perm _).symm) hs (sortI_sorted _)
    subst ey
    refine q p G2 _ (e2.trans (Ext.own e2.s np)) ⟨e2.h.free np, e2.s.free np, _, upd_same, ?_, reps_ints _⟩
    rw [List.length_map, (sortI_perm _).length_eq, List.length_map]
    exact Nat.le_trans (Nat.le_of_lt hl) (by decide)
  · cases hm
theorem fe_sortedDp {d : DI β} (h : SE K td σ G H (some d)) : FE K (tCB rSortedD (tCons td tNil)) σ G H (dsortO d) := fe_sortedD h
/-! ### d[k] = v -/
theorem st_dput {n : Option Int} {k : DI β → Option ρ} (hs : Vw G H) (hv : σ[i]? = some (some (.ref p))) (o : OwnD K H0 G H p d) (se : SE K tv σ G H mb) (sk : SE K ty σ G H n) (hm : (mb.bind fun x => n.bind fun j => (dputO d j x).bind k) = some out)
    (kont : ∀ es h G1 H1, Ext G H G1 H1 → OwnD K H0 G1 (upd H1 p h) p es → G1 p = none → k es = some out → D.nx σ (upd H1 p h)) : sDPut (tVar i) ty tv D σ H := by
  obtain ⟨x, hx, hm⟩ := bind_some hm
  obtain ⟨j, hj, hm⟩ := bind_some hm
  obtain ⟨es, he, hm⟩ := bind_some hm
  unfold dputO at he
  split at he
  · rename_i hl
    cases he
    refine se G H (Ext.refl hs) x hx _ fun v G1 H1 e1 hv1 => ?_
    refine ⟨.ref p, hv, ?_⟩
    refine sk G1 H1 e1 j hj _ fun w G2 H2 e2 hw => ?_
    have o2 := (o.mono e1).mono e2
    obtain ⟨ks, hp, rs⟩ := o2.h
    refine ⟨p, upd H2 p (.dK (putK ks (Sum.inl j) v)), rfl, ?_, ?_⟩
    · rw [show w = kV (Sum.inl j) from hw]
      exact DPut.k hp (by rw [repsD_len rs]; exact Nat.lt_of_lt_of_le hl (by decide))
    · exact kont _ _ G2 H2 (e1.trans e2) ⟨o2.z, o2.g, _, upd_same, repsD_put rs (Rp.mono e2.g hv1)⟩ o2.g hm
  · cases he
theorem hu1 {n : Nat} (h : n + 64 < cLine) : n + 1 < cLine := by omega
end
/-! ### a value of one of two kinds -/
instance {α β : Type} [Rp α] [Rp β] : Rp (Sum α β) := ⟨fun K G v d => match d with
  | .inl x => rep K G v x
  | .inr x => rep K G v x, fun {_ _ _ _ d} s h => by
  cases d with
  | inl x => exact Rp.mono s h
  | inr x => exact Rp.mono s h⟩
class RpDX (α β : Type) [Rp α] [DecidableEq α] [RpD α] [Rp β] [DecidableEq β] [RpD β] : Prop where
  l : ∀ (x : α) (y : β), PyData.eqv (RpD.py x) (RpD.py y) = false
  r : ∀ (x : α) (y : β), PyData.eqv (RpD.py y) (RpD.py x) = false
instance {α β : Type} [Rp α] [DecidableEq α] [RpD α] [Rp β] [DecidableEq β] [RpD β] : RpDX Int (α × β) := ⟨fun _ _ => rfl, fun _ _ => rfl⟩
instance {α β : Type} [Rp α] [DecidableEq α] [RpD α] [Rp β] [DecidableEq β] [RpD β] : RpDX Bool (α × β) := ⟨fun _ _ => rfl, fun _ _ => rfl⟩
instance {α β : Type} [Rp α] [DecidableEq α] [RpD α] [Rp β] [DecidableEq β] [RpD β] [RpDX α β] : RpD (Sum α β) := ⟨fun d => match d with
  | .inl x => RpD.py x
  | .inr x => RpD.py x, fun {_ _ _ _ d} s h => by
    cases d with
    | inl x => exact RpD.dp s h
    | inr x => exact RpD.dp s h, fun x y => by
    cases x with
    | inl x =>
      cases y with
      | inl y =>
        show PyData.eqv (RpD.py x) (RpD.py y) = _
        rw [RpD.eqv, Bool.eq_iff_iff]
        simp
      | inr y =>
        show PyData.eqv (RpD.py x) (RpD.py y) = _
        rw [RpDX.l, eq_comm, decide_eq_false_iff_not]
        exact fun h => nomatch h
    | inr x =>
      cases y with
      | inl y =>
        show PyData.eqv (RpD.py x) (RpD.py y) = _
        rw [RpDX.r, eq_comm, decide_eq_false_iff_not]
        exact fun h => nomatch h
      | inr y =>
        show PyData.eqv (RpD.py x) (RpD.py y) = _
        rw [RpD.eqv, Bool.eq_iff_iff]
        simp, fun d => by
    cases d with
    | inl x => exact RpD.lay x
    | inr x => exact RpD.lay x, max (RpD.dep α) (RpD.dep β), fun d => by
    cases d with
    | inl x => exact Nat.le_trans (RpD.depth x) (Nat.le_max_left _ _)
    | inr x => exact Nat.le_trans (RpD.depth x) (Nat.le_max_right _ _)⟩
instance {α β : Type} [Rp α] [DecidableEq α] [RpD α] [Rp β] [DecidableEq β] [RpD β] [RpDX α β] [RpDN α] [RpDN β] : RpDN (Sum α β) := ⟨fun d => by
  cases d with
  | inl x => exact RpDN.l x
  | inr x => exact RpDN.l x, fun d => by
  cases d with
  | inl x => exact RpDN.r x
  | inr x => exact RpDN.r x⟩
section
variable {α β γ : Type} [Rp α] [Rp β] [Rp γ]
variable {K : PySem.W.Frag} {σ : St} {G H : Hp} {te tl : TE} {ta : TA}
end
/-! ### a written tuple of one kind as a tuple of many -/
section
variable {α : Type} [Rp α]
variable {K : PySem.W.Frag} {σ : St} {G H : Hp} {te : TE}
end
/-! ### is True, is False -/
section
variable {K : PySem.W.Frag} {σ : St} {G H : Hp} {te : TE}
end
/-! ### a list of two unlike things -/
instance {α β : Type} [Rp α] [Rp β] : Rp (HL α β) := ⟨fun K G v d => ∃ p x y, v = .ref p ∧ G p = some (.lst [x, y]) ∧ rep K G x d.a ∧ rep K G y d.b,
  fun s ⟨p, x, y, e, h, h1, h2⟩ => ⟨p, x, y, e, s _ _ h, Rp.mono s h1, Rp.mono s h2⟩⟩
theorem eqvL2 {a b c d : PyData} : PyData.eqv (.list [a, b]) (.list [c, d]) = (PyData.eqv a c && PyData.eqv b d) := by
  show (PyData.eqv a c && (PyData.eqv b d && true)) = _
  rw [Bool.and_true]
instance {α β : Type} [Rp α] [DecidableEq α] [RpD α] [Rp β] [DecidableEq β] [RpD β] : RpD (HL α β) := ⟨fun p => .list [RpD.py p.a, RpD.py p.b], fun s ⟨p, x, y, e, h, h1, h2⟩ => by
  rw [e]
  exact .lst (SqL.of (s _ _ h)) (.cons (RpD.dp s h1) (.cons (RpD.dp s h2) .nil)), fun x y => by
  rw [eqvL2, RpD.eqv, RpD.eqv, Bool.eq_iff_iff]
  cases x
  cases y
  simp, fun x => by
  show (PyData.canLay0 (RpD.py x.a) && (PyData.canLay0 (RpD.py x.b) && true)) = true
  rw [RpD.lay, RpD.lay]
  rfl, max (RpD.dep α) (RpD.dep β) + 1, fun x => by
  show max (PyData.depth (RpD.py x.a)) (max (PyData.depth (RpD.py x.b)) 0) + 1 ≤ _
  have h1 := RpD.depth x.a
  have h2 := RpD.depth x.b
  omega⟩
section
variable {α β : Type} [Rp α] [Rp β]
variable {K : PySem.W.Frag} {σ : St} {G H : Hp} {ta tb te : TE}
end
/-! ### enumerate -/
section
variable {α : Type} [Rp α]
variable {K : PySem.W.Frag} {σ : St} {G H : Hp} {te : TE}
end
end Mi

/-! MiN: tables of one's own, their rows one's own too. -/
namespace Mi
variable [Tbs]
open PySem L2
open Rp (rep)
/-- an address as a value -/
instance : Rp Nat := ⟨fun _ _ v d => v = .ref d, fun _ h => h⟩
/-- no address in common -/
def DJ (as bs : List Nat) : Prop := ∀ a ∈ as, a ∉ bs
section
variable {as bs : List Nat} {a b : Nat}
theorem DJ.symm (h : DJ as bs) : DJ bs as := fun b hb ha => h b ha hb
theorem DJ.one (h : DJ [a] bs) : a ∉ bs := h a List.mem_cons_self
theorem DJ.snoc {p : Nat} (h : DJ (p :: as) bs) (n : a ∉ bs) : DJ (p :: (as ++ [a])) bs := fun x hx => by
  rcases List.mem_cons.mp hx with e | hx
  · exact h x (e ▸ List.mem_cons_self)
  · rcases List.mem_append.mp hx with hx | hx
    · exact h x (List.mem_cons_of_mem _ hx)
    · rw [List.mem_singleton.mp hx]
      exact n
theorem DJ.of {H : Hp} (hx : ∀ a ∈ as, H a = none) (hy : ∀ b ∈ bs, H b ≠ none) : DJ as bs := fun a ha hb => hy a hb (hx a ha)
theorem Pmem {α β : Type} {F : α → β → Prop} {x : α} : ∀ {xs : List α} {ys : List β}, Paired F xs ys → x ∈ xs → ∃ y, F x y
  | _, _, .cons r t, h => by
    rcases List.mem_cons.mp h with e | h
    · subst e
      exact ⟨_, r⟩
    · exact Pmem t h
theorem Pmap {α β : Type} {F F' : α → β → Prop} : ∀ {xs : List α} {ys : List β}, Paired F xs ys → (∀ a b, a ∈ xs → F a b → F' a b) → Paired F' xs ys
  | _, _, .nil, _ => .nil
  | _, _, .cons r t, h => .cons (h _ _ List.mem_cons_self r) (Pmap t fun a b ha => h a b (List.mem_cons_of_mem _ ha))
theorem Pcomp {α β γ : Type} {F : α → β → Prop} {F' : β → γ → Prop} {R : α → γ → Prop} : ∀ {xs : List α} {ys : List β} {zs : List γ}, Paired F xs ys → Paired F' ys zs → (∀ a b c, b ∈ ys → F a b → F' b c → R a c) → Paired R xs zs
  | _, _, _, .nil, .nil, _ => .nil
  | _, _, _, .cons r t, .cons r2 t2, h => .cons (h _ _ _ List.mem_cons_self r r2) (Pcomp t t2 fun a b c hb => h a b c (List.mem_cons_of_mem _ hb))
theorem Papp {α β : Type} {F : α → β → Prop} : ∀ {xs xs2 : List α} {ys ys2 : List β}, Paired F xs ys → Paired F xs2 ys2 → Paired F (xs ++ xs2) (ys ++ ys2)
  | _, _, _, _, .nil, h => h
  | _, _, _, _, .cons r t, h => .cons r (Papp t h)
end
section
variable {α β γ ρ : Type} [Rp α] [Rp β] [Rp γ]
variable {K : PySem.W.Frag} {σ : St} {G0 H0 G H G1 H1 G2 H2 : Hp} {ta tb tc te : TE} {tt : TT} {p q : Addr} {as qs : List Nat} {d : List α} {ds : List (List α)} {D : Ends} {i : Nat} {out : ρ} {ma : Option α} {mb : Option β}
/-- the addresses as are shown -/
def shv (as : List Nat) (G H : Hp) : Hp := fun b => if b ∈ as then H b else G b
theorem shv_in (h : q ∈ as) : shv as G H q = H q := if_pos h
theorem shv_out (h : q ∉ as) : shv as G H q = G q := if_neg h
theorem same_shv (hg : ∀ a ∈ as, G a = none) : Same G (shv as G H) := fun b u e => by
  rw [shv_out fun h => by rw [hg b h] at e; cases e]
  exact e
theorem Vw.shv (s : Vw G H) (hl : ∀ a ∈ as, ∀ o, H a = some o → NT o) : Vw (Mi.shv as G H) H := ⟨fun b u h => by
    by_cases hb : b ∈ as
    · rw [shv_in hb] at h
      exact h
    · rw [shv_out hb] at h
      exact s.s _ _ h, fun x hx => ⟨by
    rw [shv_out fun h => ?_]
    · exact (s.t x hx).1
    · obtain ⟨ps, h1, _⟩ := (s.t x hx).2
      exact hl _ h _ h1 ps rfl, (s.t x hx).2⟩⟩
theorem Ext.shv (e : Ext G0 H0 G H) (hz : ∀ a ∈ as, H0 a = none) (hg : ∀ a ∈ as, G a = none) (hl : ∀ a ∈ as, ∀ o, H a = some o → NT o) : Ext G0 H0 (shv as G H) H :=
  ⟨e.g.trans (same_shv hg), e.s.shv hl, e.h, fun b hb => by
    rw [shv_out fun h => hb (hz b h)]
    exact e.a b hb⟩
structure Own2 (K : PySem.W.Frag) (H0 G H : Hp) (p : Addr) (qs : List Nat) (ds : List (List α)) : Prop where
  o : Own K H0 G H p qs
  rows : Paired (fun q d => Own K H0 G H q d) qs ds
  nd : (p :: qs).Nodup
theorem Own2.all (x : Own2 K H0 G H p qs ds) : ∀ a ∈ p :: qs, H0 a = none ∧ G a = none ∧ H a ≠ none := fun a ha => by
  rcases List.mem_cons.mp ha with e | ha
  · subst e
    exact ⟨x.o.z, x.o.g, x.o.ne⟩
  · obtain ⟨d, hd⟩ := Pmem x.rows ha
    exact ⟨hd.z, hd.g, hd.ne⟩
theorem Own2.zs (x : Own2 K H0 G H p qs ds) : ∀ a ∈ p :: qs, H0 a = none := fun a ha => (x.all a ha).1
theorem Own2.gs (x : Own2 K H0 G H p qs ds) : ∀ a ∈ p :: qs, G a = none := fun a ha => (x.all a ha).2.1
theorem Own.nts (x : Own K H0 G H p d) : ∀ o, H p = some o → NT o := fun o h => by
  obtain ⟨vs, h1, _⟩ := x.h
  rw [h1] at h
  rw [← Option.some.inj h]
  exact nt_lst
theorem Own2.nts (x : Own2 K H0 G H p qs ds) : ∀ a ∈ p :: qs, ∀ o, H a = some o → NT o := fun a ha => by
  rcases List.mem_cons.mp ha with e | ha
  · subst e
    exact x.o.nts
  · obtain ⟨d, hd⟩ := Pmem x.rows ha
    exact hd.nts
theorem Own2.pn (x : Own2 K H0 G H p qs ds) : ∀ a ∈ p :: qs, PnAt H a := fun a ha => by
  rcases List.mem_cons.mp ha with e | ha
  · subst e
    exact x.o.pn
  · obtain ⟨d, hd⟩ := Pmem x.rows ha
    exact hd.pn
theorem Own.zs (x : Own K H0 G H p d) : ∀ a ∈ [p], H0 a = none := fun a ha => by rw [List.mem_singleton.mp ha]; exact x.z
theorem Own2.mono (x : Own2 K H0 G H p qs ds) (e : Ext G H G1 H1) : Own2 K H0 G1 H1 p qs ds := ⟨x.o.mono e, Pmap x.rows fun _ _ _ h => h.mono e, x.nd⟩
theorem Own2.up (x : Own2 K H G1 H1 p qs ds) (s : HK H0 H) : Own2 K H0 G1 H1 p qs ds := ⟨x.o.up s, Pmap x.rows fun _ _ _ h => h.up s, x.nd⟩
theorem Own2.off {o : HO} (x : Own2 K H0 G H p qs ds) (n : q ∉ p :: qs) : Own2 K H0 G (upd H q o) p qs ds :=
  ⟨x.o.off fun e => n (e ▸ List.mem_cons_self), Pmap x.rows fun a _ ha h => h.off fun e => n (e ▸ List.mem_cons_of_mem _ ha), x.nd⟩
theorem Own2.rep (x : Own2 K H0 G H p qs ds) (ha : ∀ a ∈ qs, a ∈ as) (hg : ∀ a ∈ as, G a = none) : ∃ vs, H p = some (.lst vs) ∧ vs.length ≤ sizeLine ∧ Reps K (Mi.shv as G H) vs ds := by
  obtain ⟨vs, h, l, r⟩ := x.o.h
  refine ⟨vs, h, l, Pcomp r x.rows fun v q d hq hv hd => ?_⟩
  obtain ⟨ws, h1, l1, r1⟩ := hd.h
  exact ⟨q, ws, hv, by rw [shv_in (ha q hq)]; exact h1, l1, r1.mono (same_shv hg)⟩
theorem Own2.shown (x : Own2 K H0 G H p qs ds) : Rp.rep K (Mi.shv (p :: qs) G H) (.ref p) ds := by
  obtain ⟨vs, h, l, r⟩ := x.rep (as := p :: qs) (fun a ha => List.mem_cons_of_mem _ ha) x.gs
  exact ⟨p, vs, rfl, by rw [shv_in List.mem_cons_self]; exact h, l, r⟩
/-- it is shown: not changed any more -/
theorem Own2.show (x : Own2 K H0 G H p qs ds) (e : Ext G0 H0 G H) : Ext G0 H0 (Mi.shv (p :: qs) G H) H ∧ Same G (Mi.shv (p :: qs) G H) ∧ Rp.rep K (Mi.shv (p :: qs) G H) (.ref p) ds :=
  ⟨e.shv x.zs x.gs x.nts, same_shv x.gs, x.shown⟩
/-- its rows alone are shown -/
theorem Own2.own (x : Own2 K H0 G H p qs ds) : Own K H0 (Mi.shv qs G H) H p ds := by
  obtain ⟨vs, h, l, r⟩ := x.rep (as := qs) (fun a ha => ha) fun a ha => x.gs a (List.mem_cons_of_mem _ ha)
  exact ⟨x.o.z, by rw [shv_out (List.nodup_cons.mp x.nd).1]; exact x.o.g, vs, h, l, r⟩
/-- .. for the time of a reading -/
instance [ScV α] : ScV (Option α) := ⟨fun {_ _ _ _ x} h => by
  cases x with
  | none => exact h
  | some x => exact ⟨ScV.any h.1, h.2⟩⟩
/-! ### what makes a table of one's own -/
def FE2 (K : PySem.W.Frag) (te : TE) (σ : St) (G H : Hp) (m : Option (List (List α))) : Prop :=
  ∀ G1 H1, Ext G H G1 H1 → ∀ r, m = some r → ∀ Q : VK, (∀ p qs G2 H2, Ext G1 H1 G2 H2 → Own2 K H1 G2 H2 p qs r → Q (.ref p) H2) → te σ H1 Q
theorem FE2.fe {m : Option (List (List α))} (h : FE2 K te σ G H m) : FE K te σ G H m := fun G1 H1 e r hm Q q =>
  h G1 H1 e r hm Q fun p qs G2 H2 e2 o => q p _ H2 (e2.shv (fun a ha => o.zs a (List.mem_cons_of_mem _ ha)) (fun a ha => o.gs a (List.mem_cons_of_mem _ ha)) (fun a ha => o.nts a (List.mem_cons_of_mem _ ha))) o.own
def RF2 {ρ : Type} [Rp ρ] (K : PySem.W.Frag) (H G' H' : Hp) (u : V) (r : List (List ρ)) : Prop := ∃ p qs, u = .ref p ∧ Own2 K H G' H' p qs r
theorem FE2.xe {m : Option (List (List α))} (h : FE2 K te σ G H m) : XE (RF2 K) te σ G H m := fun G1 H1 e r hm Q q =>
  h G1 H1 e r hm Q fun p qs G2 H2 e2 o => q (.ref p) G2 H2 e2 ⟨p, qs, rfl, o⟩
/-- one row more -/
theorem Own2.snoc {vs : List V} (x : Own2 K H0 G H p qs ds) (o : Own K H0 G H q d) (n : q ∉ p :: qs) (hp : H p = some (.lst vs)) (l : vs.length < sizeLine) : Own2 K H0 G (upd H p (.lst (vs ++ [.ref q]))) p (qs ++ [q]) (ds ++ [d]) := by
  obtain ⟨vs', h', l', r'⟩ := x.o.h
  have hpq : q ≠ p := fun e => n (e ▸ List.mem_cons_self)
  rw [hp] at h'
  cases h'
  have hn := List.nodup_cons.mp x.nd
  refine ⟨⟨x.o.z, x.o.g, _, upd_same, ?_, r'.app (.cons rfl .nil)⟩, Papp (Pmap x.rows fun a _ ha h => h.off fun e => hn.1 (e ▸ ha)) (.cons (o.off hpq) .nil), ?_⟩
  · rw [List.length_append]
    exact l
  · refine List.nodup_cons.mpr ⟨fun h => ?_, List.nodup_append.mpr ⟨hn.2, by simp, fun a ha b hb e => ?_⟩⟩
    · rcases List.mem_append.mp h with h | h
      · exact hn.1 h
      · exact hpq (List.mem_singleton.mp h).symm
    · rw [List.mem_singleton.mp hb] at e
      exact n (e ▸ List.mem_cons_of_mem _ ha)
/-! ### statements -/
/-- the place of an item -/
def plc (n : Nat) (i : Int) : Option Nat := if 0 ≤ i then some i.toNat else if -(n : Int) ≤ i then some (i + n).toNat else none
theorem ixO_at {α : Type} {xs : List α} {i : Int} {x : α} (h : ixO xs i = some x) : ∃ n, plc xs.length i = some n ∧ xs[n]? = some x ∧ n < xs.length := by
  unfold ixO at h
  unfold plc
  split at h
  · rename_i h0
    obtain ⟨hk, _⟩ := List.getElem?_eq_some_iff.mp h
    exact ⟨i.toNat, if_pos h0, h, hk⟩
  · rename_i h0
    split at h
    · rename_i h1
      obtain ⟨hk, _⟩ := List.getElem?_eq_some_iff.mp h
      exact ⟨(i + xs.length).toNat, by rw [if_neg h0, if_pos h1], h, hk⟩
    · cases h
theorem setO_at {α : Type} {xs : List α} {i : Int} {n : Nat} (h : plc xs.length i = some n) (hn : n < xs.length) (y : α) : setO xs i y = some (xs.set n y) := by
  unfold plc at h
  unfold setO
  split at h
  · cases h
    rw [if_pos (by omega)]
  · rename_i h0
    split at h
    · cases h
      rw [if_neg (by omega), if_pos (by omega)]
    · cases h
theorem atI_at {vs : List V} {i : Int} {n : Nat} {v : V} (h : plc vs.length i = some n) (hv : vs[n]? = some v) : atI vs i = some v := by
  obtain ⟨hk, _⟩ := List.getElem?_eq_some_iff.mp hv
  unfold plc at h
  unfold atI ixN
  split at h
  · rename_i h0
    cases h
    rw [if_pos h0, if_pos (by omega)]
    exact hv
  · rename_i h0
    split at h
    · rename_i h1
      cases h
      rw [if_neg h0, if_pos h1]
      exact hv
    · cases h
theorem rows_at : ∀ {qs : List Nat} {ds : List (List α)} {n : Nat} {d : List α}, Paired (fun q d => Own K H0 G H q d) qs ds → ds[n]? = some d → ∃ q, qs[n]? = some q ∧ Own K H0 G H q d ∧ q ∈ qs
  | _, _, 0, _, .cons r _, h => by
    cases h
    exact ⟨_, rfl, r, List.mem_cons_self⟩
  | _, _, n + 1, _, .cons _ t, h => by
    obtain ⟨q, h1, h2, h3⟩ := rows_at (n := n) t h
    exact ⟨q, h1, h2, List.mem_cons_of_mem _ h3⟩
theorem rows_put {o : HO} {d' : List α} : ∀ {qs : List Nat} {ds : List (List α)} {n : Nat}, Paired (fun a d => Own K H0 G H a d) qs ds → qs.Nodup → qs[n]? = some q → Own K H0 G (upd H q o) q d' → Paired (fun a d => Own K H0 G (upd H q o) a d) qs (ds.set n d')
  | a0 :: qs, _ :: ds, 0, .cons r t, hn, h, x => by
    have e0 : a0 = q := Option.some.inj h
    subst e0
    have := List.nodup_cons.mp hn
    exact .cons x (Pmap t fun a _ ha h => h.off fun e => this.1 (by rw [e] at ha; exact ha))
  | a0 :: qs, _ :: ds, n + 1, .cons r t, hn, h, x => by
    have h2 := List.nodup_cons.mp hn
    have hm : q ∈ qs := List.mem_of_getElem? (show qs[n]? = some q from h)
    exact .cons (r.off fun e => h2.1 (by rw [e]; exact hm)) (rows_put t h2.2 h x)
theorem Own2.put {n : Nat} {o : HO} {d' : List α} (x : Own2 K H0 G H p qs ds) (h : qs[n]? = some q) (r : Own K H0 G (upd H q o) q d') : Own2 K H0 G (upd H q o) p qs (ds.set n d') := by
  have hn := List.nodup_cons.mp x.nd
  have hm : q ∈ qs := List.mem_of_getElem? h
  exact ⟨x.o.off fun e => hn.1 (e ▸ hm), rows_put x.rows hn.2 h r, x.nd⟩
def set2O {α : Type} (ds : List (List α)) (i j : Int) (x : α) : Option (List (List α)) := (ixO ds i).bind fun r => (setO r j x).bind fun r2 => setO ds i r2
def app2O {α : Type} (ds : List (List α)) (i : Int) (x : α) : Option (List (List α)) := (ixO ds i).bind fun r => (appO r x).bind fun r2 => setO ds i r2
def clr2O {α : Type} (ds : List (List α)) (i : Int) : Option (List (List α)) := (ixO ds i).bind fun _ => setO ds i []
/-- t[i] of a table of one's own -/
theorem Own2.item {j : Int} (x : Own2 K H0 G H p qs ds) (h : ixO ds j = some d) : ∃ vs q n, H p = some (.lst vs) ∧ atI vs j = some (.ref q) ∧ qs[n]? = some q ∧ q ∈ qs ∧ Own K H0 G H q d ∧ ∀ y, setO ds j y = some (ds.set n y) := by
  obtain ⟨vs, h1, l, r⟩ := x.o.h
  obtain ⟨n, a1, a2, a3⟩ := ixO_at h
  obtain ⟨q, c1, c2, c3⟩ := rows_at x.rows a2
  obtain ⟨v, hv, hv2⟩ := r.get c1
  rw [show v = V.ref q from hv2] at hv
  refine ⟨vs, q, n, h1, atI_at (n := n) ?_ hv, c1, c3, c2, fun y => setO_at a1 a3 y⟩
  rw [r.len, Paired.length x.rows]
  exact a1
end
end Mi

/-! MiS: sorted(set(list)), two tables of one's own one behind the other. -/
namespace Mi
variable [Tbs]
open PySem PySem.Spec PyProof.Rows L2
/-- a set without a member -/
abbrev set0 (w : World) : Obj := { cls := .type "set", dict := none, data := .set #[] 0 (.fresh 0 0 (!w.params.followText "set-order")) }
section
variable {P : Program} {w : World} {A : Around} {E : Value → Shared → Prop} {s : Shared}
/-- set(xs), of a list of whole numbers -/
def rSetL (K : PySem.W.Frag) (w : World) : List V → Hp → VK → Prop := fun xs H Q => ∃ (l : Addr) (ns : List Int), xs = [.ref l] ∧ SqL K H l (ns.map V.int) ∧ ns.length < 64 ∧ ∀ (a : Addr) (c : Nat), H a = none → c ≤ ns.length → Q (.ref a) (upd H a (SetO w a (fun j => decide (j ∈ ns)) c))
end
end Mi
namespace Mi
variable [Tbs]
open PySem L2
open Rp (rep)
def insU (x : Int) : List Int → List Int
  | [] => [x]
  | y :: r => if x < y then x :: y :: r else if x = y then y :: r else y :: insU x r
def sortU : List Int → List Int
  | [] => []
  | x :: r => insU x (sortU r)
def setSortO (xs : List Int) : Option (List Int) := if xs.length < 64 then some (sortU xs) else none
section
variable {α ρ : Type} [Rp α] {K : PySem.W.Frag} {σ : St} {G0 H0 G H : Hp} {te : TE} {p p2 : Addr} {qs qs2 : List Nat} {ds ds2 : List (List α)} {D : Ends} {i j : Nat} {w : World}
/-- list(d): its keys -/
def dkeysO {β : Type} (d : DI β) : Option (List Int) := if d.l.length ≤ 16000000 then some (d.l.map (·.1)) else none
/-- range with a step, no longer than a list may be -/
def rangeSC (lo hi c : Int) : Option (List Int) := if (hi - lo).toNat ≤ 16000000 then rangeS lo hi c else none
/-! ### None, or a list of one's own -/
def OwnV (K : PySem.W.Frag) (H0 G H : Hp) (w : V) (d : Option (List α)) : Prop := match d with
  | none => w = .non
  | some d => ∃ p, w = .ref p ∧ Own K H0 G H p d
section
variable {w : V} {d : Option (List α)} {G1 H1 : Hp}
theorem OwnV.mono (x : OwnV K H0 G H w d) (e : Ext G H G1 H1) : OwnV K H0 G1 H1 w d := by
  cases d with
  | none => exact x
  | some d =>
    obtain ⟨p, ew, o⟩ := x
    exact ⟨p, ew, o.mono e⟩
theorem OwnV.up (x : OwnV K H G1 H1 w d) (s : HK H0 H) : OwnV K H0 G1 H1 w d := by
  cases d with
  | none => exact x
  | some d =>
    obtain ⟨p, ew, o⟩ := x
    exact ⟨p, ew, o.up s⟩
theorem OwnV.pn {p : Addr} (x : OwnV K H0 G H (.ref p) d) : PnAt H p := by
  cases d with
  | none => cases (show V.ref p = V.non from x)
  | some d =>
    obtain ⟨p', e, o⟩ := x
    cases e
    exact o.pn
theorem OwnV.show (x : OwnV K H0 G H w d) (e : Ext G0 H0 G H) : ∃ G', Ext G0 H0 G' H ∧ Same G G' ∧ rep K G' w d := by
  cases d with
  | none => exact ⟨G, e, Same.refl _, x⟩
  | some d =>
    obtain ⟨p, ew, o⟩ := x
    obtain ⟨vs, e2, s, r⟩ := o.show e
    subst ew
    exact ⟨_, e2, s, r, RpN.nn r⟩
def RN {ρ : Type} [Rp ρ] (K : PySem.W.Frag) (H G' H' : Hp) (u : V) (r : Option (List ρ)) : Prop := OwnV K H G' H' u r
end
end
end Mi

/-! MiT: tuples made of lists of whole numbers; dicts with such as keys. -/
namespace Mi
variable [Tbs]
open PySem L2
open Rp (rep)
/-- tuple(xs), made here -/
structure TK where
  l : List Int
deriving DecidableEq
def TK.tl (t : TK) : TL Int := ⟨t.l⟩
instance : Rp TK := ⟨fun _ G v d => ∃ a, v = .ref a ∧ G a = some (.tup (d.l.map V.int)) ∧ d.l.length ≤ sizeLine, fun s ⟨a, e, h, l⟩ => ⟨a, e, s _ _ h, l⟩⟩
structure DT (β : Type) where
  l : List (List Int × β)
section
variable {β : Type}
def tfind (l : List (List Int × β)) (k : List Int) : Option β := (l.find? fun x => decide (x.1 = k)).map (·.2)
def tput (l : List (List Int × β)) (k : List Int) (v : β) : List (List Int × β) := if (l.any fun x => decide (x.1 = k)) = true then l.map (fun x => if x.1 = k then (x.1, v) else x) else l ++ [(k, v)]
def tputO (d : DT β) (k : TK) (v : β) : Option (DT β) := if d.l.length < 16000000 then some ⟨tput d.l k.l v⟩ else none
def thas (d : DT β) (k : TK) : Bool := (tfind d.l k.l).isSome
def tgetD (d : DT β) (k : TK) (x : β) : β := (tfind d.l k.l).getD x
end
/-- the parts of a key -/
abbrev kk (k : List Int) : List Key := k.map Sum.inl
abbrev RepsT {β : Type} [Rp β] (K : PySem.W.Frag) (G : Hp) : List (List Key × V) → List (List Int × β) → Prop := Paired fun p q => p.1 = kk q.1 ∧ rep K G p.2 q.2
section
variable {β : Type} [Rp β] {K : PySem.W.Frag} {G G' : Hp} {ks : List (List Key × V)} {l : List (List Int × β)} {k : List Int} {v : V} {x : β}
theorem repsT_mono (s : Same G G') : ∀ {ks : List (List Key × V)} {l : List (List Int × β)}, RepsT K G ks l → RepsT K G' ks l
  | _, _, .nil => .nil
  | _, _, .cons h r => .cons ⟨h.1, Rp.mono s h.2⟩ (repsT_mono s r)
end
instance {β : Type} [Rp β] : Rp (DT β) := ⟨fun K G v d => ∃ a ks, v = .ref a ∧ G a = some (.dT ks) ∧ RepsT K G ks d.l, fun s ⟨a, ks, e, h, r⟩ => ⟨a, ks, e, s _ _ h, repsT_mono s r⟩⟩
/-- a dict of one's own, its keys tuples -/
structure OwnT {β : Type} [Rp β] (K : PySem.W.Frag) (H0 G H : Hp) (p : Addr) (d : DT β) : Prop where
  z : H0 p = none
  g : G p = none
  h : ∃ ks, H p = some (.dT ks) ∧ RepsT K G ks d.l
section
variable {α β ρ : Type} [Rp α] [Rp β]
variable {K : PySem.W.Frag} {σ : St} {G0 H0 G H G1 H1 : Hp} {te td ty tv tx : TE} {tc : TT} {ma : Option α} {mb : Option β} {i : Nat} {d : DT β} {D : Ends} {out : ρ} {p q : Addr}
theorem OwnT.ne (x : OwnT K H0 G H p d) : H p ≠ none := by
  obtain ⟨vs, h, _⟩ := x.h
  rw [h]
  exact fun z => nomatch z
theorem OwnT.pn (x : OwnT K H0 G H p d) : PnAt H p := by
  obtain ⟨ks, h, _⟩ := x.h
  exact ⟨_, h, pn_of (fun _ z => by cases z) (fun _ z => by cases z)⟩
theorem OwnT.mono (x : OwnT K H0 G H p d) (e : Ext G H G1 H1) : OwnT K H0 G1 H1 p d := by
  obtain ⟨vs, h, r⟩ := x.h
  exact ⟨x.z, (e.a p x.ne).trans x.g, vs, e.h.k _ _ h, repsT_mono e.g r⟩
theorem OwnT.off {o : HO} (x : OwnT K H0 G H p d) (n : p ≠ q) : OwnT K H0 G (upd H q o) p d := by
  obtain ⟨vs, h, r⟩ := x.h
  exact ⟨x.z, x.g, vs, by rw [upd_ne n]; exact h, r⟩
theorem OwnT.up (x : OwnT K H G1 H1 p d) (s : HK H0 H) : OwnT K H0 G1 H1 p d := ⟨s.free x.z, x.g, x.h⟩
theorem OwnT.show (x : OwnT K H0 G H p d) (e : Ext G0 H0 G H) : ∃ ks, Ext G0 H0 (upd G p (.dT ks)) H ∧ Same G (upd G p (.dT ks)) ∧ rep K (upd G p (.dT ks)) (.ref p) d := by
  obtain ⟨ks, h, r⟩ := x.h
  exact ⟨ks, e.show x.z x.g h, same_new x.g, p, ks, rfl, upd_same, repsT_mono (same_new x.g) r⟩
/-! ### a new one -/
def FT (K : PySem.W.Frag) (te : TE) (σ : St) (G H : Hp) (m : Option (DT β)) : Prop :=
  ∀ G1 H1, Ext G H G1 H1 → ∀ r, m = some r → ∀ Q : VK, (∀ p G2 H2, Ext G1 H1 G2 H2 → OwnT K H1 G2 H2 p r → Q (.ref p) H2) → te σ H1 Q
theorem FT.se {m : Option (DT β)} (h : FT K te σ G H m) : SE K te σ G H m := fun G1 H1 e r hm Q q =>
  h G1 H1 e r hm Q fun p G2 H2 e2 o => by
    obtain ⟨ks, e3, _, hr⟩ := o.show e2
    exact q _ _ _ e3 hr
/-! ### readings -/
/-! ### d[k] = v -/
/-! ### tuple(xs) -/
end
end Mi
namespace Mi
variable [Tbs]
open L2
instance : RpTy TK := ⟨"tuple", fun s ⟨a, e, h, _⟩ => by rw [e]; exact ty_tup (SqT.of (s _ _ h))⟩
end Mi
namespace Mi
variable [Tbs]
open PySem L2
instance {α : Type} [DecidableEq α] : DecidableEq (TL α) := fun a b => decidable_of_iff (a.l = b.l) ⟨fun h => by cases a; cases b; cases h; rfl, fun h => by rw [h]⟩
theorem tl_eq {α : Type} {a b : TL α} : a = b ↔ a.l = b.l := ⟨fun h => by rw [h], fun h => by cases a; cases b; cases h; rfl⟩
instance {α : Type} [Rp α] [DecidableEq α] [RpD α] : RpD (TL α) := ⟨fun xs => .tuple (xs.l.map RpD.py), fun s ⟨a, vs, e, h, _, r⟩ => by
  rw [e]
  exact .tup (same_tup s h) (dall s r), fun x y => (eqvAll_map x.l y.l).trans (decide_eq_decide.mpr tl_eq.symm), fun x => layAll_map x.l, RpD.dep α + 1, fun x => Nat.succ_le_succ (depAll_map x.l)⟩
end Mi

/-! MiU: zip of a tuple and a list. -/
namespace Mi
variable [Tbs]
open PySem PySem.Spec PyProof.Rows L2
open Rp (rep)
/-- the turns: a pair of the tuple's and the list's next item -/
def ItM (K : PySem.W.Frag) (a b : Addr) (m : Nat) : It where
  go i H := i < m ∧ ∃ vs ws v w, SqT K H a vs ∧ SqL K H b ws ∧ vs[i]? = some v ∧ ws[i]? = some w
  yld i H u H' := ∃ c v w, u = .ref c ∧ H c = none ∧ H' = upd H c (.tup [v, w]) ∧ (∀ vs, SqT K H a vs → vs[i]? = some v) ∧ ∀ ws, SqL K H b ws → ws[i]? = some w
  stop i H := m ≤ i ∧ ∃ vs ws : List V, (SqT K H a vs ∧ SqL K H b ws) ∧ min vs.length ws.length = m
theorem five {a b c d e x : Addr} (h : x ∈ [a, b, c, d, e]) : x = a ∨ x = b ∨ x = c ∨ x = d ∨ x = e := by simpa using h
/-- where the walk over both stands -/
def StM (a b z t1 t2 j k : Addr) (m i : Nat) (h : Heap) : Prop :=
  (i ≤ m ∧ IsZip h z t1 t2 .none) ∧ IsTupOf2 h t1 (.ref j) (.ref k) ∧ (∃ u v, IsTupOf2 h t2 u v) ∧ h.IsTupleIter j a i ∧ h.IsListIter k b i
def iZipM (K : PySem.W.Frag) (ta : TA) : TI := fun σ H R => ta σ H fun us H1 => ∃ a b vs ws, us = [.ref a, .ref b] ∧ SqT K H1 a vs ∧ SqL K H1 b ws ∧ R (ItM K a b (min vs.length ws.length)) H1
section
variable {α β : Type} [Rp α] [Rp β] {K : PySem.W.Frag} {σ : L2.St} {G H : Hp} {ta tb : TE}
end
/-! list(range(a, b, c)) -/
def tLR3 (ta : TA) : TE := fun σ H Q => ta σ H fun vs H1 => ∃ (i j c : Int) (n : Nat), vs = [.int i, .int j, .int c] ∧ RgC i j c n ∧ n ≤ 16000000 ∧ ∀ q, H1 q = none → Q (.ref q) (upd H1 q (.lst ((List.range n).map fun k => V.int (i + (k : Nat) * c))))
section
variable {K : PySem.W.Frag} {σ : L2.St} {G H : Hp} {ta tb : TE}
end
end Mi

/-! MiL: for k in d: the dict is locked while the loop walks it; dicts of one's own handed back. -/
namespace Mi
variable [Tbs]
open PySem L2
open Rp (rep)
/-- a dict that is locked -/
structure FZ (β : Type) where
  d : DI β
section
variable {α β ρ S : Type} [Rp α] [Rp β] [Rp ρ]
variable {K : PySem.W.Frag} {σ : St} {G0 H0 G H G1 H1 Gl Hl : Hp} {te ty td : TE} {t : TS} {i : Nat} {v : V} {d : DI β} {D : Ends} {p : Addr} {od : Obj} {ks : List (Key × V)}
instance : Rp (FZ β) := ⟨fun K G v x => ∃ a o ks, v = .ref a ∧ G a = some (.frz o (.dK ks)) ∧ RepsD K G ks x.d.l, fun s ⟨a, o, ks, e, h, r⟩ => ⟨a, o, ks, e, s _ _ h, repsD_mono s r⟩⟩
/-! ### handed back -/
def RD (K : PySem.W.Frag) (H G' H' : Hp) (u : V) (r : DI β) : Prop := ∃ p, u = .ref p ∧ OwnD K H G' H' p r
theorem XE.fd {m : Option (DI β)} (h : XE (RD K) te σ G H m) : FD K te σ G H m := fun G1 H1 e r hm Q q =>
  h G1 H1 e r hm Q fun u G2 H2 e2 ⟨p, eu, o⟩ => by
    rw [eu]
    exact q p G2 H2 e2 o
theorem FD.xe {m : Option (DI β)} (h : FD K te σ G H m) : XE (RD K) te σ G H m := fun G1 H1 e r hm Q q =>
  h G1 H1 e r hm Q fun p G2 H2 e2 o => q (.ref p) G2 H2 e2 ⟨p, rfl, o⟩
/-! ### the lock -/
/-! ### reading -/
end
end Mi

/-! MiR: a list times a number, a tuple of one, two tuples one behind the other. -/
namespace Mi
variable [Tbs]
open PySem L2
open Rp (rep)
def repO {α : Type} (xs : List α) (k : Int) : Option (List α) := if -1000000 ≤ k ∧ k ≤ 1000000 ∧ xs.length ≤ 16 then some (List.replicate k.toNat xs).flatten else none
def catT {α : Type} (x y : TL α) : Option (TL α) := if x.l ≠ [] ∧ y.l ≠ [] ∧ x.l.length + y.l.length ≤ 16000000 then some ⟨x.l ++ y.l⟩ else none
section
variable {α β ρ S : Type} [Rp α] [Rp β] [Rp ρ]
variable {K : PySem.W.Frag} {σ : St} {G0 H0 G H G1 H1 Gl Hl : Hp} {te ta tb td : TE} {D : Ends} {i : Nat} {w : V} {out : ρ}
/-! ### a dict of the module, whole numbers at whole numbers -/
inductive EntI : List DictEntry → List (Int × Int) → Prop
  | nil : EntI [] []
  | cons {h k v : Int} {t u : Tok} {es : List DictEntry} {xs : List (Int × Int)} : h = hashInt k → EntI es xs → EntI (⟨h, .int k t, .int v u⟩ :: es) ((k, v) :: xs)
def KI (K : PySem.W.Frag) (a : Addr) (xs : List (Int × Int)) : Prop := ∃ (es : List DictEntry) (n : Nat), K.lookup a = some ⟨.type "dict", none, .dict es.toArray n, #[]⟩ ∧ EntI es xs
theorem EntI.keys {P : Program} {w : World} : ∀ {es : List DictEntry} {xs : List (Int × Int)}, EntI es xs → ∀ e ∈ es, ∃ k, (mixKind P w).is k e.key = true ∧ e.hash = (mixKind P w).hash k
  | _, _, .nil, e, he => nomatch he
  | _, _, .cons (k := k) (t := t) hh r, e, he => by
    rcases List.mem_cons.mp he with h | h
    · rw [h]
      exact ⟨.inl k, keyIs_int k t, hh⟩
    · exact r.keys e h
def rIxI (K : PySem.W.Frag) : R2 := fun x y H Q => ∃ p k v xs, x = .ref p ∧ y = .int k ∧ KI K p xs ∧ xs.lookup k = some v ∧ Q (.int v) H
end
end Mi

/-! MiQ: texts as data; a tuple of texts, or a text and a number. -/
namespace Mi
variable [Tbs]
open PySem L2
open Rp (rep)
/-- a written text -/
structure Tg where
  s : Str
  ok : (PyData.str s).canLay0 = true
theorem tg_eq {a b : Tg} : a = b ↔ a.s = b.s := ⟨fun h => by rw [h], fun h => by cases a; cases b; cases h; rfl⟩
instance : DecidableEq Tg := fun _ _ => decidable_of_iff _ tg_eq.symm
instance : Rp Tg := ⟨fun _ _ v d => v = .str d.s, fun _ h => h⟩
instance : RpD Tg := ⟨fun d => .str d.s, fun _ h => by rw [show _ = V.str _ from h]; exact .str _, fun x y => by
  show (x.s == y.s) = _
  rw [Bool.eq_iff_iff]
  simp [tg_eq], fun d => d.ok, 0, fun _ => Nat.le_refl 0⟩
theorem none_str (s : Str) : PyData.eqv .none (.str s) = false := by rfl
theorem str_none (s : Str) : PyData.eqv (.str s) .none = false := by rfl
instance : RpDN Tg := ⟨fun _ => none_str _, fun _ => str_none _⟩
instance {α : Type} [Rp α] [DecidableEq α] [RpD α] : RpDN (TL α) := ⟨fun _ => rfl, fun _ => rfl⟩
theorem str_int (s : Str) (k : Int) : PyData.eqv (.str s) (.int k) = false := by rfl
theorem int_str (s : Str) (k : Int) : PyData.eqv (.int k) (.str s) = false := by rfl
def tgs (x : Tg) : PyData := .str x.s
theorem eqv_sx : ∀ (xs : List Tg) (a : Str) (b : Int), PyData.eqv (.tuple (xs.map tgs)) (.tuple [.str a, .int b]) = false
  | [], _, _ => by rfl
  | [x], a, b => by
    show (PyData.eqv (.str x.s) (.str a) && false) = false
    rw [Bool.and_false]
  | x :: y :: r, a, b => by
    show (PyData.eqv (.str x.s) (.str a) && (PyData.eqv (.str y.s) (.int b) && PyData.eqvAll (r.map tgs) [])) = false
    rw [str_int, Bool.false_and, Bool.and_false]
theorem eqv_xs : ∀ (xs : List Tg) (a : Str) (b : Int), PyData.eqv (.tuple [.str a, .int b]) (.tuple (xs.map tgs)) = false
  | [], _, _ => by rfl
  | [x], a, b => by
    show (PyData.eqv (.str a) (.str x.s) && false) = false
    rw [Bool.and_false]
  | x :: y :: r, a, b => by
    show (PyData.eqv (.str a) (.str x.s) && (PyData.eqv (.int b) (.str y.s) && PyData.eqvAll [] (r.map tgs))) = false
    rw [int_str, Bool.false_and, Bool.and_false]
instance : RpDX (TL Tg) (Tg × Int) := ⟨fun x y => eqv_sx x.l y.1.s y.2, fun x y => eqv_xs x.l y.1.s y.2⟩
instance : RpTy (Sum (TL Tg) (Tg × Int)) := ⟨"tuple", fun {_ _ _ _ d} s h => by
  cases d with
  | inl x =>
    obtain ⟨a, vs, e, h, _⟩ := h
    rw [e]
    exact ty_tup (same_tup s h)
  | inr x =>
    obtain ⟨a, _, _, e, h, _⟩ := h
    rw [e]
    exact ty_tup (same_tup s h)⟩
instance {α : Type} [Rp α] : RpN (TL α) := ⟨fun ⟨_, _, h, _⟩ => by rw [h]; intro z; cases z⟩
instance {α β : Type} [Rp α] [Rp β] [RpN α] [RpN β] : RpN (Sum α β) := ⟨fun {_ _ _ d} h => by
  cases d with
  | inl x => exact RpN.nn (show rep _ _ _ x from h)
  | inr x => exact RpN.nn (show rep _ _ _ x from h)⟩
end Mi

/-! MiE: what is raised, and caught. -/
namespace Mi
variable [Tbs]
open PySem L2
open Rp (rep)
/-- the classes that are raised; those that are asked for -/
inductive Err where
  | tooGreat | noText | noRow | noStep
deriving DecidableEq
inductive XCl where
  | tooGreat | noText | noRow | noStep | formError | valueError
deriving DecidableEq
def Err.isa : Err → XCl → Bool
  | .tooGreat, .tooGreat => true
  | .noText, .noText => true
  | .noRow, .noRow => true
  | .noStep, .noStep => true
  | _, .formError => true
  | _, .valueError => true
  | _, _ => false
/-- a value, or what is raised -/
inductive Rz (α : Type) where
  | ok (a : α) | er (k : Err)
def Rz.val {α : Type} : Rz α → Option α
  | .ok a => some a
  | .er _ => none
def Rz.err {α : Type} : Rz α → Option Err
  | .ok _ => none
  | .er k => some k
def valE {α : Type} (m : Option (Rz α)) : Option α := m.bind Rz.val
def errE {α : Type} (m : Option (Rz α)) : Option (Option Err) := m.bind fun r => some r.err
/-- the end of a try's body: on, out, or raised -/
inductive Fx (S R : Type) where
  | nx (s : S) | rt (r : R) | er (k : Err)
def tryE {S R : Type} (h : Err → Option (Fl S R)) : Fx S R → Option (Fl S R)
  | .nx s => some (.nx s)
  | .rt r => some (.rt r)
  | .er k => h k
section
variable {S R α β ρ : Type}
theorem tryE_nx {h : Err → Option (Fl S R)} {s : S} {f : Fl S R} (e : tryE h (.nx s) = some f) : f = .nx s := (Option.some.inj e).symm
theorem tryE_rt {h : Err → Option (Fl S R)} {s : R} {f : Fl S R} (e : tryE h (.rt s) = some f) : f = .rt s := (Option.some.inj e).symm
theorem tryE_er {h : Err → Option (Fl S R)} {k : Err} {f : Fl S R} (e : tryE h (.er k) = some f) : h k = some f := e
theorem valE_some {m : Option (Rz α)} {a : α} (h : valE m = some a) : m = some (.ok a) := by
  unfold valE at h
  obtain ⟨r, hr, h⟩ := bind_some h
  cases r with
  | ok b =>
    cases h
    exact hr
  | er k => cases h
theorem errE_some {m : Option (Rz α)} {k : Err} (h : errE m = some (some k)) : m = some (.er k) := by
  unfold errE at h
  obtain ⟨r, hr, h⟩ := bind_some h
  cases r with
  | ok b => cases h
  | er j =>
    cases h
    exact hr
end
section
variable {ρ α β S : Type} [Rp α] [Rp β] {K : PySem.W.Frag} {σ : St} {G H G0 H0 : Hp} {te ta tb : TE} {i : Nat} {t u : TS} {D : Ends} {out : ρ}
/-- what a def that may raise hands back: a value, or the class -/
def RX (RR : Hp → Hp → Hp → V → ρ → Prop) (H G' H' : Hp) : V ⊕ Err → Rz ρ → Prop
  | .inl u, .ok x => RR H G' H' u x
  | .inr k, .er j => k = j
  | _, _ => False
def QX (adr : Err → Addr) (Q : VK) (E : XK) : V ⊕ Err → Hp → Prop
  | .inl u, H => Q u H
  | .inr k, H => E (.ref (adr k)) none H
/-- an expression that raises -/
def SER (adr : Err → Addr) (W : WX) (te : TE) (σ : St) (G H : Hp) (m : Option (Option Err)) : Prop :=
  ∀ G1 H1, Ext G H G1 H1 → ∀ k, m = some (some k) → (∀ G2 H2, Ext G1 H1 G2 H2 → W (.ref (adr k)) none σ H2) → ∀ Q, te σ H1 Q
theorem st_err {adr : Err → Addr} {W : WX} {P : Prop} {Q : VK} {eo : Option (Option Err)} {k : Option ρ} {er : Err → Option ρ} (hs : Vw G H) (sr : SER adr W te σ G H eo)
    (pi : te σ H Q → P) (hm : (eo.bind fun o => Option.elim o k er) = some out) (kok : k = some out → P)
    (kerr : ∀ j, er j = some out → ∀ G2 H2, Ext G H G2 H2 → W (.ref (adr j)) none σ H2) : P := by
  obtain ⟨o, ho, hm⟩ := bind_some hm
  cases o with
  | none => exact kok hm
  | some j => exact pi (sr G H (Ext.refl hs) j ho (fun G2 H2 e => kerr j hm G2 H2 e) Q)
/-- return of a value, where something may be raised -/
theorem st_retX {adr : Err → Addr} {E : XK} (e : Ext G0 H0 G H) {m : Option ρ} {RR : Hp → Hp → Hp → V → ρ → Prop} {r : Rz ρ} (RRm : ∀ H1 H2, HK H1 H2 → ∀ G' H' u r, RR H2 G' H' u r → RR H1 G' H' u r) (se : XE RR te σ G H m)
    (hm : (m.bind fun x => some (Rz.ok x)) = some r) (q : ∀ u G' H', Ext G0 H0 G' H' → RX RR H0 G' H' u r → QX adr D.rt E u H') : tRet te D σ H := by
  obtain ⟨x, hx, hr⟩ := bind_some hm
  cases hr
  exact se G H (Ext.refl e.s) x hx _ fun u G1 H1 e1 hu => q (.inl u) G1 H1 (e.trans e1) (RRm _ _ e.h _ _ _ _ hu)
end
/-! ### try -/
def tTry (tb : WX → TS) (w : Ends → WX) : TS := fun D σ H => tb (w D) D σ H
section
variable {X : Cx} {x n : Str} {c : Value} {i : Nat} {body suite : List Stmt} {b₀ : Stmt} {np pos pos' : Pos} {tb : WX → TS} {ts : Addr → Value → Option Addr → TS} {Wout : WX}
theorem ps_tryA (hs : X.stack = X.env :: X.outer) (hf : X.env.frame = some X.env.locals) (hN : X.N.Nodup) (hi : X.N[i]? = some n) (hln : X.env.kindOf n = some .local) (hc : Names X x c) (tk : Takes X Wout)
    (hb : ∀ (W : WX) (pn : List (Addr × Obj)) (xe : Value → Shared → Prop), Takes (X.tr pn xe) W → PassesOwn (model X.prog X.w) X.A X.env xe → PSs (X.tr pn xe) body (tb W))
    (hsu : ∀ (a : Addr) (oe : Obj) (cls : Value) (d : Option Addr) (pn : List (Addr × Obj)), Zc cls d oe → (∃ vs, oe.data = .fields vs) → PSs (X.suite a ((a, oe) :: pn)) (b₀ :: suite) (ts a cls d)) :
    PS X (.Try body [.ExceptHandler (some (.Name x np)) (some n) (b₀ :: suite) pos'] [] [] pos) (tTry tb fun D => wAs X.K c i ts Wout D) := ps_try_as hs hf hN hi hln hc tk hb hsu
end
section
variable {K : PySem.W.Frag} {c : Value} {ts : Addr → Value → Option Addr → TS} {Wout : WX} {D : Ends} {σ : St} {H : Hp} {cls : Value} {i : Nat} {d : Option Addr} {b : Bool}
theorem st_tryX {S R : Type} {adr : Err → Addr} {G : Hp} {t : Fx S R} {tb : WX → TS} {w : Ends → WX} (hs : Vw G H) (hx : ∀ j, t = .er j → ∀ G' H', Ext G H G' H' → w D (.ref (adr j)) none σ H')
    (hb : ∀ W : WX, (∀ j, t = .er j → ∀ G' H', Ext G H G' H' → W (.ref (adr j)) none σ H') → Ext G H G H → tb W D σ H) : tTry tb w D σ H := hb _ hx (Ext.refl hs)
theorem cond_yes {α : Type} {b : Bool} {m n : Option α} {r : α} (h : cond b m n = some r) (y : b = true) : m = some r := by
  rw [y] at h
  exact h
theorem cond_no {α : Type} {b : Bool} {m n : Option α} {r : α} (h : cond b m n = some r) (y : b = false) : n = some r := by
  rw [y] at h
  exact h
theorem w_as (h : PySem.W.exmOne K cls c = some b) (y : b = true → ∀ a, ts a cls d { nx := fun σ' H' => D.nx (σ'.set i none) H', rt := D.rt, bk := fun σ' H' => D.bk (σ'.set i none) H', ct := fun σ' H' => D.ct (σ'.set i none) H' } (σ.set i (some (.ref a))) H)
    (z : b = false → Wout cls d σ H) : wAs K c i ts Wout D cls d σ H := ⟨b, h, fun hb a _ => y hb a, z⟩
end
/-! ### isinstance of what is caught -/
def rIsX (K : PySem.W.Frag) (cls : Value) (d : Option Addr) (a : Addr) : List V → Hp → VK → Prop := fun xs H Q => ∃ (D : Addr) (c : V) (cv : Value) (b : Bool), cls = .ref D ∧ d = none ∧ ExcC K D ∧ xs = [.ref a, c] ∧ (∀ u, RelV c u → u = cv) ∧ PySem.W.kitOne K (.ref D) cv = some b ∧ Q (.bl b) H
section
variable {K : PySem.W.Frag} {σ : St} {G H : Hp} {i : Nat} {a D : Addr} {b : Bool}
theorem se_isX {c : Addr} (hv : σ[i]? = some (some (.ref a))) (hC : ExcC K D) (hk : PySem.W.kitOne K (.ref D) (.ref c) = some b) : SE K (tCB (rIsX K (.ref D) none a) (tCons (tVar i) (tCons (tC (.ref c)) tNil))) σ G H (some b) := fun G1 H1 e z hm Q q => by
  cases hm
  refine ⟨_, hv, D, _, _, b, rfl, rfl, hC, rfl, fun u hu => ?_, hk, q _ G1 H1 (Ext.refl e.s) rfl⟩
  cases hu
  rfl
end
theorem kit_sub {K : PySem.W.Frag} {C D : Addr} {b : Bool} (h1 : PySem.W.hasDictIn K C = true) (h2 : PySem.W.typeIn K (.ref C) = some (.type "type")) (hs : PySem.W.subIn K (.ref C) (.ref C) = some true) (h3 : PySem.W.subIn K (.ref D) (.ref C) = some b) : PySem.W.kitOne K (.ref D) (.ref C) = some b := by
  unfold PySem.W.kitOne
  split
  · rename_i q
    have e : D = C := Value.ref.inj (beq_iff_eq.mp q)
    rw [e, hs] at h3
    exact h3
  · obtain ⟨cd, hc, _⟩ := PySem.W.any_some h1
    show (if ((PySem.W.clsIn K C).isSome && PySem.W.typeIn K (.ref C) == some (.type "type")) = true then PySem.W.subIn K (.ref D) (.ref C) else none) = some b
    rw [if_pos (by rw [hc, h2] <;> rfl)]
    exact h3
theorem kit_subT {K : PySem.W.Frag} {D : Addr} {T : String} {b : Bool} (hm : PySem.W.kitMeta T = true) (h3 : PySem.W.subIn K (.ref D) (.type T) = some b) : PySem.W.kitOne K (.ref D) (.type T) = some b := by
  unfold PySem.W.kitOne
  rw [if_neg (by intro z; cases beq_iff_eq.mp z)]
  show (if PySem.W.kitMeta T = true then PySem.W.subIn K (.ref D) (.type T) else none) = some b
  rw [if_pos hm]
  exact h3
/-! ### calls of what may raise -/
def SpX1 {α0 : Type} [Rp α0] {ρ : Type} (K : PySem.W.Frag) (adr : Err → Addr) (RR : Hp → Hp → Hp → V → ρ → Prop) (f : α0 → Option (Rz ρ)) : Sp := fun vs H Q E => ∃ (G : Hp) (v0 : V) (x0 : α0) (r : Rz ρ), vs = [v0] ∧ Vw G H ∧ rep K G v0 x0 ∧ f x0 = some r ∧ ∀ u G' H', Ext G H G' H' → RX RR H G' H' u r → QX adr Q E u H'
theorem SpX1.len {α0 : Type} [Rp α0] {ρ : Type} {K : PySem.W.Frag} {adr : Err → Addr} {RR : Hp → Hp → Hp → V → ρ → Prop} {f : α0 → Option (Rz ρ)} {ps : List Str} (hp : ps.length = 1) : ∀ vs H Q E, SpX1 K adr RR f vs H Q E → vs.length = ps.length := by
  intro vs H Q E ⟨_, _, _, _, e, _⟩
  rw [e, hp]
  rfl
theorem xe_callX1 {α0 : Type} [Rp α0] {ρ : Type} {K : PySem.W.Frag} {adr : Err → Addr} {RR : Hp → Hp → Hp → V → ρ → Prop} (RRm : ∀ H1 H2, HK H1 H2 → ∀ G' H' u r, RR H2 G' H' u r → RR H1 G' H' u r) {σ : St} {G H : Hp} {t0 : TE} {m0 : Option α0} {f : α0 → Option (Rz ρ)} {E : St → XK} (h0 : SE K t0 σ G H m0) : XE RR (tCallS (SpX1 K adr RR f) E (tCons t0 tNil)) σ G H ((m0.bind fun x0 => valE (f x0))) := fun G1 H1 e z hm Q q => by
  obtain ⟨x0, hx0, hm⟩ := bind_some hm
  have hm := valE_some hm
  refine h0 _ _ e x0 hx0 _ fun v0 G2 H2 e0 r0 => ?_
  refine ⟨_, v0, x0, .ok z, rfl, e0.s, r0, hm, fun u G' H' eu hu => ?_⟩
  cases u with
  | inl u => exact q u G' H' (e0.trans eu) (RRm _ _ e0.h _ _ _ _ hu)
  | inr k => exact False.elim hu
theorem xe_callX1p {α0 : Type} [Rp α0] {ρ : Type} {K : PySem.W.Frag} {adr : Err → Addr} {RR : Hp → Hp → Hp → V → ρ → Prop} (RRm : ∀ H1 H2, HK H1 H2 → ∀ G' H' u r, RR H2 G' H' u r → RR H1 G' H' u r) {σ : St} {G H : Hp} {t0 : TE} {x0 : α0} {f : α0 → Option (Rz ρ)} {E : St → XK} (h0 : SE K t0 σ G H (some x0)) : XE RR (tCallS (SpX1 K adr RR f) E (tCons t0 tNil)) σ G H (valE (f x0)) := xe_callX1 RRm h0
theorem sr_callX1 {α0 : Type} [Rp α0] {ρ : Type} {K : PySem.W.Frag} {adr : Err → Addr} {RR : Hp → Hp → Hp → V → ρ → Prop} {σ : St} {G H : Hp} {t0 : TE} {m0 : Option α0} {f : α0 → Option (Rz ρ)} {W : WX} (h0 : SE K t0 σ G H m0) : SER adr W (tCallS (SpX1 K adr RR f) (fun σ => WE W σ) (tCons t0 tNil)) σ G H ((m0.bind fun x0 => errE (f x0))) := fun G1 H1 e k hm w Q => by
  obtain ⟨x0, hx0, hm⟩ := bind_some hm
  have hm := errE_some hm
  refine h0 _ _ e x0 hx0 _ fun v0 G2 H2 e0 r0 => ?_
  refine ⟨_, v0, x0, .er k, rfl, e0.s, r0, hm, fun u G' H' eu hu => ?_⟩
  cases u with
  | inl u => exact False.elim hu
  | inr j =>
    cases (show j = k from hu)
    exact w G' H' (e0.trans eu)
theorem sr_callX1p {α0 : Type} [Rp α0] {ρ : Type} {K : PySem.W.Frag} {adr : Err → Addr} {RR : Hp → Hp → Hp → V → ρ → Prop} {σ : St} {G H : Hp} {t0 : TE} {x0 : α0} {f : α0 → Option (Rz ρ)} {W : WX} (h0 : SE K t0 σ G H (some x0)) : SER adr W (tCallS (SpX1 K adr RR f) (fun σ => WE W σ) (tCons t0 tNil)) σ G H (errE (f x0)) := sr_callX1 h0
def SpX2 {α0 : Type} [Rp α0] {α1 : Type} [Rp α1] {ρ : Type} (K : PySem.W.Frag) (adr : Err → Addr) (RR : Hp → Hp → Hp → V → ρ → Prop) (f : α0 → α1 → Option (Rz ρ)) : Sp := fun vs H Q E => ∃ (G : Hp) (v0 v1 : V) (x0 : α0) (x1 : α1) (r : Rz ρ), vs = [v0, v1] ∧ Vw G H ∧ rep K G v0 x0 ∧ rep K G v1 x1 ∧ f x0 x1 = some r ∧ ∀ u G' H', Ext G H G' H' → RX RR H G' H' u r → QX adr Q E u H'
theorem SpX2.len {α0 : Type} [Rp α0] {α1 : Type} [Rp α1] {ρ : Type} {K : PySem.W.Frag} {adr : Err → Addr} {RR : Hp → Hp → Hp → V → ρ → Prop} {f : α0 → α1 → Option (Rz ρ)} {ps : List Str} (hp : ps.length = 2) : ∀ vs H Q E, SpX2 K adr RR f vs H Q E → vs.length = ps.length := by
  intro vs H Q E ⟨_, _, _, _, _, _, e, _⟩
  rw [e, hp]
  rfl
theorem xe_callX2 {α0 : Type} [Rp α0] {α1 : Type} [Rp α1] {ρ : Type} {K : PySem.W.Frag} {adr : Err → Addr} {RR : Hp → Hp → Hp → V → ρ → Prop} (RRm : ∀ H1 H2, HK H1 H2 → ∀ G' H' u r, RR H2 G' H' u r → RR H1 G' H' u r) {σ : St} {G H : Hp} {t0 t1 : TE} {m0 : Option α0} {m1 : Option α1} {f : α0 → α1 → Option (Rz ρ)} {E : St → XK} (h0 : SE K t0 σ G H m0) (h1 : SE K t1 σ G H m1) : XE RR (tCallS (SpX2 K adr RR f) E (tCons t0 (tCons t1 tNil))) σ G H ((m0.bind fun x0 => (m1.bind fun x1 => valE (f x0 x1)))) := fun G1 H1 e z hm Q q => by
  obtain ⟨x0, hx0, hm⟩ := bind_some hm
  obtain ⟨x1, hx1, hm⟩ := bind_some hm
  have hm := valE_some hm
  refine h0 _ _ e x0 hx0 _ fun v0 G2 H2 e0 r0 => ?_
  refine h1 _ _ (e.trans e0) x1 hx1 _ fun v1 G3 H3 e1 r1 => ?_
  refine ⟨_, v0, v1, x0, x1, .ok z, rfl, e1.s, (Rp.mono e1.g r0), r1, hm, fun u G' H' eu hu => ?_⟩
  cases u with
  | inl u => exact q u G' H' ((e0.trans e1).trans eu) (RRm _ _ (e0.trans e1).h _ _ _ _ hu)
  | inr k => exact False.elim hu
theorem xe_callX2p {α0 : Type} [Rp α0] {α1 : Type} [Rp α1] {ρ : Type} {K : PySem.W.Frag} {adr : Err → Addr} {RR : Hp → Hp → Hp → V → ρ → Prop} (RRm : ∀ H1 H2, HK H1 H2 → ∀ G' H' u r, RR H2 G' H' u r → RR H1 G' H' u r) {σ : St} {G H : Hp} {t0 t1 : TE} {x0 : α0} {x1 : α1} {f : α0 → α1 → Option (Rz ρ)} {E : St → XK} (h0 : SE K t0 σ G H (some x0)) (h1 : SE K t1 σ G H (some x1)) : XE RR (tCallS (SpX2 K adr RR f) E (tCons t0 (tCons t1 tNil))) σ G H (valE (f x0 x1)) := xe_callX2 RRm h0 h1
theorem sr_callX2 {α0 : Type} [Rp α0] {α1 : Type} [Rp α1] {ρ : Type} {K : PySem.W.Frag} {adr : Err → Addr} {RR : Hp → Hp → Hp → V → ρ → Prop} {σ : St} {G H : Hp} {t0 t1 : TE} {m0 : Option α0} {m1 : Option α1} {f : α0 → α1 → Option (Rz ρ)} {W : WX} (h0 : SE K t0 σ G H m0) (h1 : SE K t1 σ G H m1) : SER adr W (tCallS (SpX2 K adr RR f) (fun σ => WE W σ) (tCons t0 (tCons t1 tNil))) σ G H ((m0.bind fun x0 => (m1.bind fun x1 => errE (f x0 x1)))) := fun G1 H1 e k hm w Q => by
  obtain ⟨x0, hx0, hm⟩ := bind_some hm
  obtain ⟨x1, hx1, hm⟩ := bind_some hm
  have hm := errE_some hm
  refine h0 _ _ e x0 hx0 _ fun v0 G2 H2 e0 r0 => ?_
  refine h1 _ _ (e.trans e0) x1 hx1 _ fun v1 G3 H3 e1 r1 => ?_
  refine ⟨_, v0, v1, x0, x1, .er k, rfl, e1.s, (Rp.mono e1.g r0), r1, hm, fun u G' H' eu hu => ?_⟩
  cases u with
  | inl u => exact False.elim hu
  | inr j =>
    cases (show j = k from hu)
    exact w G' H' ((e0.trans e1).trans eu)
theorem sr_callX2p {α0 : Type} [Rp α0] {α1 : Type} [Rp α1] {ρ : Type} {K : PySem.W.Frag} {adr : Err → Addr} {RR : Hp → Hp → Hp → V → ρ → Prop} {σ : St} {G H : Hp} {t0 t1 : TE} {x0 : α0} {x1 : α1} {f : α0 → α1 → Option (Rz ρ)} {W : WX} (h0 : SE K t0 σ G H (some x0)) (h1 : SE K t1 σ G H (some x1)) : SER adr W (tCallS (SpX2 K adr RR f) (fun σ => WE W σ) (tCons t0 (tCons t1 tNil))) σ G H (errE (f x0 x1)) := sr_callX2 h0 h1
def SpX3 {α0 : Type} [Rp α0] {α1 : Type} [Rp α1] {α2 : Type} [Rp α2] {ρ : Type} (K : PySem.W.Frag) (adr : Err → Addr) (RR : Hp → Hp → Hp → V → ρ → Prop) (f : α0 → α1 → α2 → Option (Rz ρ)) : Sp := fun vs H Q E => ∃ (G : Hp) (v0 v1 v2 : V) (x0 : α0) (x1 : α1) (x2 : α2) (r : Rz ρ), vs = [v0, v1, v2] ∧ Vw G H ∧ rep K G v0 x0 ∧ rep K G v1 x1 ∧ rep K G v2 x2 ∧ f x0 x1 x2 = some r ∧ ∀ u G' H', Ext G H G' H' → RX RR H G' H' u r → QX adr Q E u H'
theorem SpX3.len {α0 : Type} [Rp α0] {α1 : Type} [Rp α1] {α2 : Type} [Rp α2] {ρ : Type} {K : PySem.W.Frag} {adr : Err → Addr} {RR : Hp → Hp → Hp → V → ρ → Prop} {f : α0 → α1 → α2 → Option (Rz ρ)} {ps : List Str} (hp : ps.length = 3) : ∀ vs H Q E, SpX3 K adr RR f vs H Q E → vs.length = ps.length := by
  intro vs H Q E ⟨_, _, _, _, _, _, _, _, e, _⟩
  rw [e, hp]
  rfl
theorem xe_callX3 {α0 : Type} [Rp α0] {α1 : Type} [Rp α1] {α2 : Type} [Rp α2] {ρ : Type} {K : PySem.W.Frag} {adr : Err → Addr} {RR : Hp → Hp → Hp → V → ρ → Prop} (RRm : ∀ H1 H2, HK H1 H2 → ∀ G' H' u r, RR H2 G' H' u r → RR H1 G' H' u r) {σ : St} {G H : Hp} {t0 t1 t2 : TE} {m0 : Option α0} {m1 : Option α1} {m2 : Option α2} {f : α0 → α1 → α2 → Option (Rz ρ)} {E : St → XK} (h0 : SE K t0 σ G H m0) (h1 : SE K t1 σ G H m1) (h2 : SE K t2 σ G H m2) : XE RR (tCallS (SpX3 K adr RR f) E (tCons t0 (tCons t1 (tCons t2 tNil)))) σ G H ((m0.bind fun x0 => (m1.bind fun x1 => (m2.bind fun x2 => valE (f x0 x1 x2))))) := fun G1 H1 e z hm Q q => by
  obtain ⟨x0, hx0, hm⟩ := bind_some hm
  obtain ⟨x1, hx1, hm⟩ := bind_some hm
  obtain ⟨x2, hx2, hm⟩ := bind_some hm
  have hm := valE_some hm
  refine h0 _ _ e x0 hx0 _ fun v0 G2 H2 e0 r0 => ?_
  refine h1 _ _ (e.trans e0) x1 hx1 _ fun v1 G3 H3 e1 r1 => ?_
  refine h2 _ _ ((e.trans e0).trans e1) x2 hx2 _ fun v2 G4 H4 e2 r2 => ?_
  refine ⟨_, v0, v1, v2, x0, x1, x2, .ok z, rfl, e2.s, (Rp.mono e2.g (Rp.mono e1.g r0)), (Rp.mono e2.g r1), r2, hm, fun u G' H' eu hu => ?_⟩
  cases u with
  | inl u => exact q u G' H' (((e0.trans e1).trans e2).trans eu) (RRm _ _ ((e0.trans e1).trans e2).h _ _ _ _ hu)
  | inr k => exact False.elim hu
theorem xe_callX3p {α0 : Type} [Rp α0] {α1 : Type} [Rp α1] {α2 : Type} [Rp α2] {ρ : Type} {K : PySem.W.Frag} {adr : Err → Addr} {RR : Hp → Hp → Hp → V → ρ → Prop} (RRm : ∀ H1 H2, HK H1 H2 → ∀ G' H' u r, RR H2 G' H' u r → RR H1 G' H' u r) {σ : St} {G H : Hp} {t0 t1 t2 : TE} {x0 : α0} {x1 : α1} {x2 : α2} {f : α0 → α1 → α2 → Option (Rz ρ)} {E : St → XK} (h0 : SE K t0 σ G H (some x0)) (h1 : SE K t1 σ G H (some x1)) (h2 : SE K t2 σ G H (some x2)) : XE RR (tCallS (SpX3 K adr RR f) E (tCons t0 (tCons t1 (tCons t2 tNil)))) σ G H (valE (f x0 x1 x2)) := xe_callX3 RRm h0 h1 h2
theorem sr_callX3 {α0 : Type} [Rp α0] {α1 : Type} [Rp α1] {α2 : Type} [Rp α2] {ρ : Type} {K : PySem.W.Frag} {adr : Err → Addr} {RR : Hp → Hp → Hp → V → ρ → Prop} {σ : St} {G H : Hp} {t0 t1 t2 : TE} {m0 : Option α0} {m1 : Option α1} {m2 : Option α2} {f : α0 → α1 → α2 → Option (Rz ρ)} {W : WX} (h0 : SE K t0 σ G H m0) (h1 : SE K t1 σ G H m1) (h2 : SE K t2 σ G H m2) : SER adr W (tCallS (SpX3 K adr RR f) (fun σ => WE W σ) (tCons t0 (tCons t1 (tCons t2 tNil)))) σ G H ((m0.bind fun x0 => (m1.bind fun x1 => (m2.bind fun x2 => errE (f x0 x1 x2))))) := fun G1 H1 e k hm w Q => by
  obtain ⟨x0, hx0, hm⟩ := bind_some hm
  obtain ⟨x1, hx1, hm⟩ := bind_some hm
  obtain ⟨x2, hx2, hm⟩ := bind_some hm
  have hm := errE_some hm
  refine h0 _ _ e x0 hx0 _ fun v0 G2 H2 e0 r0 => ?_
  refine h1 _ _ (e.trans e0) x1 hx1 _ fun v1 G3 H3 e1 r1 => ?_
  refine h2 _ _ ((e.trans e0).trans e1) x2 hx2 _ fun v2 G4 H4 e2 r2 => ?_
  refine ⟨_, v0, v1, v2, x0, x1, x2, .er k, rfl, e2.s, (Rp.mono e2.g (Rp.mono e1.g r0)), (Rp.mono e2.g r1), r2, hm, fun u G' H' eu hu => ?_⟩
  cases u with
  | inl u => exact False.elim hu
  | inr j =>
    cases (show j = k from hu)
    exact w G' H' (((e0.trans e1).trans e2).trans eu)
theorem sr_callX3p {α0 : Type} [Rp α0] {α1 : Type} [Rp α1] {α2 : Type} [Rp α2] {ρ : Type} {K : PySem.W.Frag} {adr : Err → Addr} {RR : Hp → Hp → Hp → V → ρ → Prop} {σ : St} {G H : Hp} {t0 t1 t2 : TE} {x0 : α0} {x1 : α1} {x2 : α2} {f : α0 → α1 → α2 → Option (Rz ρ)} {W : WX} (h0 : SE K t0 σ G H (some x0)) (h1 : SE K t1 σ G H (some x1)) (h2 : SE K t2 σ G H (some x2)) : SER adr W (tCallS (SpX3 K adr RR f) (fun σ => WE W σ) (tCons t0 (tCons t1 (tCons t2 tNil)))) σ G H (errE (f x0 x1 x2)) := sr_callX3 h0 h1 h2
def SpX4 {α0 : Type} [Rp α0] {α1 : Type} [Rp α1] {α2 : Type} [Rp α2] {α3 : Type} [Rp α3] {ρ : Type} (K : PySem.W.Frag) (adr : Err → Addr) (RR : Hp → Hp → Hp → V → ρ → Prop) (f : α0 → α1 → α2 → α3 → Option (Rz ρ)) : Sp := fun vs H Q E => ∃ (G : Hp) (v0 v1 v2 v3 : V) (x0 : α0) (x1 : α1) (x2 : α2) (x3 : α3) (r : Rz ρ), vs = [v0, v1, v2, v3] ∧ Vw G H ∧ rep K G v0 x0 ∧ rep K G v1 x1 ∧ rep K G v2 x2 ∧ rep K G v3 x3 ∧ f x0 x1 x2 x3 = some r ∧ ∀ u G' H', Ext G H G' H' → RX RR H G' H' u r → QX adr Q E u H'
theorem SpX4.len {α0 : Type} [Rp α0] {α1 : Type} [Rp α1] {α2 : Type} [Rp α2] {α3 : Type} [Rp α3] {ρ : Type} {K : PySem.W.Frag} {adr : Err → Addr} {RR : Hp → Hp → Hp → V → ρ → Prop} {f : α0 → α1 → α2 → α3 → Option (Rz ρ)} {ps : List Str} (hp : ps.length = 4) : ∀ vs H Q E, SpX4 K adr RR f vs H Q E → vs.length = ps.length := by
  intro vs H Q E ⟨_, _, _, _, _, _, _, _, _, _, e, _⟩
  rw [e, hp]
  rfl
def SpX5 {α0 : Type} [Rp α0] {α1 : Type} [Rp α1] {α2 : Type} [Rp α2] {α3 : Type} [Rp α3] {α4 : Type} [Rp α4] {ρ : Type} (K : PySem.W.Frag) (adr : Err → Addr) (RR : Hp → Hp → Hp → V → ρ → Prop) (f : α0 → α1 → α2 → α3 → α4 → Option (Rz ρ)) : Sp := fun vs H Q E => ∃ (G : Hp) (v0 v1 v2 v3 v4 : V) (x0 : α0) (x1 : α1) (x2 : α2) (x3 : α3) (x4 : α4) (r : Rz ρ), vs = [v0, v1, v2, v3, v4] ∧ Vw G H ∧ rep K G v0 x0 ∧ rep K G v1 x1 ∧ rep K G v2 x2 ∧ rep K G v3 x3 ∧ rep K G v4 x4 ∧ f x0 x1 x2 x3 x4 = some r ∧ ∀ u G' H', Ext G H G' H' → RX RR H G' H' u r → QX adr Q E u H'
theorem SpX5.len {α0 : Type} [Rp α0] {α1 : Type} [Rp α1] {α2 : Type} [Rp α2] {α3 : Type} [Rp α3] {α4 : Type} [Rp α4] {ρ : Type} {K : PySem.W.Frag} {adr : Err → Addr} {RR : Hp → Hp → Hp → V → ρ → Prop} {f : α0 → α1 → α2 → α3 → α4 → Option (Rz ρ)} {ps : List Str} (hp : ps.length = 5) : ∀ vs H Q E, SpX5 K adr RR f vs H Q E → vs.length = ps.length := by
  intro vs H Q E ⟨_, _, _, _, _, _, _, _, _, _, _, _, e, _⟩
  rw [e, hp]
  rfl
end Mi

/-! MiV: a < b < c < d; two items that change places; lists read for a time. -/
namespace Mi
variable [Tbs]
open PySem L2
open Rp (rep)
/-! ### a op b op c op d -/
def tChain3 (r r' r'' : R2) (ta tb tc td : TE) : TE := fun σ H Q => ta σ H fun x H1 => tb σ H1 fun y H2 => r x y H2 fun z H3 => ∃ k, z = .bl k ∧
  (if k = true then tc σ H3 fun w H4 => r' y w H4 fun z' H5 => ∃ k', z' = .bl k' ∧ (if k' = true then td σ H5 fun u H6 => r'' w u H6 Q else Q (.bl false) H5) else Q (.bl false) H3)
section
variable {α β γ δ : Type} [Rp α] [Rp β] [Rp γ] [Rp δ] {K : PySem.W.Frag} {σ : St} {G H : Hp} {ta tb tc td te : TE}
end
/-! ### xs[k], xs[i] = xs[i], xs[k], the list one's own -/
section
variable {α ρ : Type} [Rp α] {K : PySem.W.Frag} {σ : St} {G H H0 : Hp} {ti tk : TE} {D : Ends} {out : ρ} {s : Nat}
/-- a name or a number, at any heap -/
def te_ok (te : TE) (σ : St) (H1 : Hp) (i : Int) : Prop := ∀ Q : VK, Q (.int i) H1 → te σ H1 Q
end
/-! ### values without a list in them -/
class NL (α : Type) [Rp α] : Prop where
  nl : ∀ {K : PySem.W.Frag} {G : Hp} {p : Addr} {vs : List V} {v : V} {d : α}, rep K (upd G p (.lst vs)) v d → rep K G v d
theorem nl_tup {K : PySem.W.Frag} {G : Hp} {p a : Addr} {vs xs : List V} (h : SqT K (upd G p (.lst vs)) a xs) : SqT K G a xs := by
  rcases h with (h | ⟨o, h⟩) | h
  · by_cases e : a = p
    · subst e
      rw [upd_same] at h
      cases h
    · rw [upd_ne e] at h
      exact .inl (.inl h)
  · by_cases e : a = p
    · subst e
      rw [upd_same] at h
      cases h
    · rw [upd_ne e] at h
      exact .inl (.inr ⟨o, h⟩)
  · exact .inr h
instance : NL Int := ⟨fun h => h⟩
instance : NL Bool := ⟨fun h => h⟩
instance : NL Unit := ⟨fun h => h⟩
instance : NL Str := ⟨fun h => h⟩
instance : NL Tg := ⟨fun h => h⟩
instance {α : Type} [Rp α] [NL α] : NL (Option α) := ⟨fun {_ _ _ _ _ d} h => by
  cases d with
  | none => exact h
  | some x => exact ⟨NL.nl h.1, h.2⟩⟩
instance {α β : Type} [Rp α] [Rp β] [NL α] [NL β] : NL (α × β) := ⟨fun ⟨a, x, y, e, h, h1, h2⟩ => ⟨a, x, y, e, nl_tup h, NL.nl h1, NL.nl h2⟩⟩
instance {α β γ : Type} [Rp α] [Rp β] [Rp γ] [NL α] [NL β] [NL γ] : NL (T3 α β γ) := ⟨fun ⟨a, x, y, z, e, h, h1, h2, h3⟩ => ⟨a, x, y, z, e, nl_tup h, NL.nl h1, NL.nl h2, NL.nl h3⟩⟩
instance {α β γ δ : Type} [Rp α] [Rp β] [Rp γ] [Rp δ] [NL α] [NL β] [NL γ] [NL δ] : NL (T4 α β γ δ) := ⟨fun ⟨a, x, y, z, u, e, h, h1, h2, h3, h4⟩ => ⟨a, x, y, z, u, e, nl_tup h, NL.nl h1, NL.nl h2, NL.nl h3, NL.nl h4⟩⟩
section
variable {α β : Type} [Rp α] [Rp β] {K : PySem.W.Frag} {σ : St} {G H H0 : Hp} {te : TE} {p : Addr}
/-- p is forgotten -/
def hpDel (G : Hp) (p : Addr) : Hp := fun b => if b = p then none else G b
end
/-! ### a loop over a list of one's own, which is changed later -/
section
variable {α ρ S R : Type} [Rp α] {K : PySem.W.Frag} {σ : St} {G H H0 Gs : Hp} {D : Ends} {out : ρ} {i : Nat} {p : Addr} {vs : List V} {g : TG} {t : TS}
structure ItOkO (K : PySem.W.Frag) (J : It) (Gs : Hp) (p : Addr) (vs : List V) (xs : List α) : Prop where
  stop : ∀ i G H, Same Gs G → Vw G H → H p = some (.lst vs) → xs.length ≤ i → J.stop i H
  go : ∀ i x G H, Same Gs G → Vw G H → H p = some (.lst vs) → xs[i]? = some x → J.go i H ∧ ∀ v H', J.yld i H v H' → ∃ G', Ext G H G' H' ∧ rep K G' v x
end
end Mi

/-! MiF: list(reversed(a list)); a loop backwards over a list. -/
namespace Mi
variable [Tbs]
open PySem PySem.Spec PyProof.Rows RT
section
variable {prog : Program} {w : World} {A : Around} {E : Value → Shared → Prop} {s : Shared} {it l S : Addr} {items : Array Value}
end
end Mi
namespace Mi
variable [Tbs]
open PySem L2
open Rp (rep)
def tLstRev (K : PySem.W.Frag) (te : TE) : TE := fun σ H Q => te σ H fun v H1 => ∃ (a : Addr) (xs : List V), v = .ref a ∧ SqL K H1 a xs ∧ ∀ q, H1 q = none → Q (.ref q) (upd H1 q (.lst xs.reverse))
section
variable {α : Type} [Rp α] {K : PySem.W.Frag} {σ : St} {G H : Hp} {te : TE}
end
end Mi

/-! MiG: what is caught is handed to a def; how often a bool stands in a list. -/
namespace Mi
variable [Tbs]
open PySem PySem.Spec PyProof.Rows L2 L2H
open Rp (rep)
/-- a def called with what an except suite holds -/
structure FnA (P : Program) (w : World) (K : PySem.W.Frag) (mg : Str → Option Value) (base : Heap) (k : Nat) (f : Addr) (fd : FuncData) (ps : List Str) (sp : Addr × Obj → Sp) : Prop where
  len : ∀ p vs H Q E, sp p vs H Q E → vs.length = ps.length
  run : ∀ (A : Around) (outer : List Env) (s : Shared) (H : Hp) (args : Args) (us : List Value) (vs : List V) (Q : VK) (E : XK) (p : Addr × Obj), RoomH k A → PinOk outer H s p → Env0 P w K mg base A outer s H → BindsTo s fd args (ps.zip us) → Vals vs us → sp p vs H Q E →
    codeAny (model P w) A (.call (.ref f) args) (CR CX0 outer P w H s Q E) s
theorem _root_.L2.Fun.okA {P : Program} {w : World} {K : PySem.W.Frag} {mg : Str → Option Value} {base : Heap} {x qual : Str} {st : Stmt} {f : Addr} {fd : FuncData} {N ps : List Str} {k : Nat} {sp : Addr × Obj → Sp} (F : Fun K x qual st f fd) (S : FnScope N ps (defScope st)) (len : ∀ p vs H Q E, sp p vs H Q E → vs.length = ps.length)
    (hbody : ∀ (cdv : Value) (A : Around) (outer : List Env) (s : Shared) (H : Hp) (vs : List V) (Q : VK) (E : XK) (p : Addr × Obj), RoomH k (A.deeper (envOfC qual (defScope st) s.heap.objs.size f cdv)) → sp p vs H Q E →
      ∃ t, PSs (cxH CX0 P w K mg base N qual (defScope st) f cdv A outer s H E p).nox (defBody st) t ∧ t { nx := fun _ H' => Q .non H', rt := Q } (L2.start N vs) H) : FnA P w K mg base (k + 1) f fd ps sp := by
  obtain ⟨oc, od, kV, doc, pm, an, cdv, ct, osl, rfl, lk, hcd⟩ := F.ex
  refine ⟨len, fun A outer s H args us vs Q E p hr hpin e0 hb r hsp => ?_⟩
  have hl := len _ _ _ _ _ hsp
  have KX : K.In s.heap := e0.mod.kin.keeps fun b o e => (e0.bs b o e).1
  have lim : s.heap.NoLimit := e0.mod.nolimit.keeps fun b o e => (e0.bs b o e).1
  have hkind : ∀ y ∈ ps.zip us, (defScope st).names.lookup y.1 = some .local ∨ ((defScope st).names.lookup y.1 = some .cell ∧ ((cellsFrom (s.heap.objs.size + 1) (defScope st).names []).lookup y.1).isSome = true) := fun ⟨n, v⟩ hy => by
    rcases S.par n (List.of_mem_zip hy).1 with q | q
    · exact .inl q
    · exact .inr ⟨q, PySem.W.cellsFrom_some _ _ _ (.inl q)⟩
  refine codeAny_call_function hr.depth (KX _ _ lk) rfl S.co S.gen rfl (PySem.W.codeRec_of KX hcd) (hb _ _ _ _ ?_)
  refine wpAny_newFunctionEnv_cells S.kind hkind fun env he s1 x => ?_
  subst he
  refine ⟨lim.keeps x.toInCall.keep, codeAny_func ?_⟩
  obtain ⟨t, ht0, hq⟩ := hbody cdv A outer s H vs Q E p (hr.deeper _) hsp
  have ht := ht0.nox
  have I : Inv (cxH CX0 P w K mg base N qual (defScope st) f cdv A outer s H E p) [] (L2.start N vs) H s1 := inv_startH S hpin e0 hl r x
  refine wpAny_mono (ht.run [] s1 (L2.start N vs) H _ I hq) (fun fl s' hs => ?_) fun e s' hs => hs
  have fin : ∀ {σ' : L2.St} {H' : Hp} {v : V} {u : Value}, Inv (cxH CX0 P w K mg base N qual (defScope st) f cdv A outer s H E p) [] σ' H' s' → RelV v u → Q v H' → CE outer P w H s Q u s' :=
    fun {σ' H' v u} J rv q => ⟨v, H', J.os, J.bare, J.base, J.hok, rv, q⟩
  cases fl with
  | ret u =>
    obtain ⟨v, σ', H', J, rv, q⟩ := hs
    exact fin J rv q
  | next =>
    obtain ⟨σ', H', J, q⟩ := hs
    exact fin (v := V.non) (u := Value.none) J rfl q
  | brk =>
    obtain ⟨_, _, _, q⟩ := hs
    exact False.elim q
  | cont =>
    obtain ⟨_, _, _, q⟩ := hs
    exact False.elim q
/-- isinstance of what is pinned -/
theorem call_isP {X : Cx} {a : Addr} {oe : Obj} {cls : Value} {d : Option Addr} (hz : Zc cls d oe) (hf : ∃ vs, oe.data = .fields vs) (hp : (a, oe) ∈ X.pn) : CallR X (.builtin "isinstance") (rIsX X.K cls d a) := by
  intro pins s σ H xs us Q I r h
  obtain ⟨D, c, cv, b, rfl, rfl, C, rfl, hcv, e, q⟩ := h
  cases r with
  | cons rx rr =>
    cases rr with
    | cons rt rr =>
      cases rr
      cases rx
      have ec := hcv _ rt
      subst ec
      obtain ⟨hget, _⟩ := I.pin (a, oe) (List.mem_append.mpr (.inl hp))
      obtain ⟨vs, hv⟩ := hf
      have J : PySem.W.InstAt s.heap a oe D none := by
        obtain ⟨oc, od, oda, osl⟩ := oe
        obtain ⟨h1, h2⟩ := hz
        dsimp only at h1 h2 hv
        subst h1 h2 hv
        exact ⟨hget, rfl, rfl, trivial⟩
      exact PySem.W.kia_one (PySem.W.handS_kitx_exc C.hg C.hk C.hs C.hd C.ha C.hn C.ht C.hm) I.kIn J e (fun z => nomatch z) fun tk => ⟨.bl b, H, I.kept (t' := tk) fun _ _ z => z, rfl, q⟩
/-- the promise to one who hands over what is caught -/
def SpA {ρ : Type} (K : PySem.W.Frag) (adr : Err → Addr) (RR : Hp → Hp → Hp → V → ρ → Prop) (f : Err → Option ρ) : Addr × Obj → Sp := fun p vs H Q _ => ∃ (G : Hp) (j : Err) (r : ρ), vs = [.ref p.1] ∧ Zc (.ref (adr j)) none p.2 ∧ (∃ us, p.2.data = .fields us) ∧ Vw G H ∧ f j = some r ∧ ∀ u G' H', Ext G H G' H' → RR H G' H' u r → Q u H'
theorem SpA.len {ρ : Type} {K : PySem.W.Frag} {adr : Err → Addr} {RR : Hp → Hp → Hp → V → ρ → Prop} {f : Err → Option ρ} {ps : List Str} (hp : ps.length = 1) : ∀ p vs H Q E, SpA K adr RR f p vs H Q E → vs.length = ps.length := by
  intro p vs H Q E ⟨_, _, _, e, _⟩
  rw [e, hp]
  rfl
def tCallA {ρ : Type} (adr : Err → Addr) (RR : Hp → Hp → Hp → V → ρ → Prop) (f : Err → Option ρ) (a : Addr) (cls : Value) (d : Option Addr) (t : TA) : TE := fun σ H Q => t σ H fun vs H1 => ∃ (G : Hp) (j : Err) (r : ρ), vs = [.ref a] ∧ cls = .ref (adr j) ∧ d = none ∧ Vw G H1 ∧ f j = some r ∧ ∀ u G' H', Ext G H1 G' H' → RR H1 G' H' u r → Q u H'
section
variable {X : Cx} {k : Nat} {f : Addr} {fd : FuncData} {ps : List Str} {x : Str} {q pos : Pos} {e : Expr} {es : List Expr} {t : TA} {ρ : Type} {adr : Err → Addr} {RR : Hp → Hp → Hp → V → ρ → Prop} {g : Err → Option ρ} {a : Addr} {oe : Obj} {cls : Value} {d : Option Addr} {pn : List (Addr × Obj)}
theorem pe_callA (hz : Zc cls d oe) (hf : ∃ vs, oe.data = .fields vs) (F : FnA X.prog X.w X.K X.mg X.base k f fd ps (SpA X.K adr RR g)) (hr : Room k X.A) (hg : Gl (X.suite a ((a, oe) :: pn)) x) (hm : X.mg x = some (.ref f)) (hk : PySem.W.keepIn X.K (.ref f) = true) (hb : Binds X.K fd ps [])
    (ha : PA (X.suite a ((a, oe) :: pn)) (e :: es) t) (hdb : (x == ("__debug__" : Str)) = false := by decide) (he : starEach (e :: es) X.env = (false, eval e X.env) :: starEach es X.env := by rfl) (hpl : (backTo pos (starEach es X.env)).any (·.1) = false := by rfl) :
    PE (X.suite a ((a, oe) :: pn)) (.Call (.Name x q) (e :: es) [] pos) (tCallA adr RR g a cls d t) := by
  refine ⟨fun pins s σ H Q I h => ?_⟩
  refine wpAny_Call_Name_kw (ld_glob I hg hm ?_ hdb)
  refine PySem.W.callWith_K (h₀ := X.base) I.ok.mod.kin hk (thn (ha.run pos pins s σ H _ I h) fun us s1 ⟨vs, H1, I1, r, q⟩ => ⟨I1.kIn, ?_⟩) he hpl
  obtain ⟨G, j, z, rfl, rfl, rfl, hs, hj, q⟩ := q
  have P1 := I1.pin (a, oe) (List.mem_append.mpr (.inl List.mem_cons_self))
  have hpin : PinOk X.stack H1 s1 (a, oe) := ⟨P1.1, P1.2.1, fun hm => (List.mem_cons.mp (I1.stkSub a hm)).elim P1.2.2.1 P1.2.2.2.1, P1.2.2.2.2⟩
  have hsp : SpA X.K adr RR g (a, oe) [.ref a] H1 Q (fun _ _ _ => False) := ⟨G, j, z, rfl, hz, hf, hs, hj, q⟩
  have hl : us.length = ps.length := by rw [← r.length]; exact F.len _ _ _ _ _ hsp
  have b := hb s1 us I1.kIn (by rw [List.append_nil]; exact hl)
  rw [List.append_nil] at b
  refine wpAny_call (codeAny_mono (F.run _ X.stack s1 H1 ⟨us, []⟩ us _ Q _ (a, oe) (roomH_mark hr _) hpin I1.env0 b r hsp) fun r s' hq => ?_)
  cases r with
  | error e => exact hq.elim
  | ok fl =>
    cases fl with
    | ret u => exact I1.after hq
    | next => exact False.elim hq
    | brk => exact False.elim hq
    | cont => exact False.elim hq
end
section
variable {K : PySem.W.Frag} {σ : L2.St} {G H : Hp} {i : Nat} {a : Addr} {ρ : Type} {adr : Err → Addr} {g : Err → Option ρ} {j : Err}
theorem xe_callA {RR : Hp → Hp → Hp → V → ρ → Prop} (RRm : ∀ H1 H2, HK H1 H2 → ∀ G' H' u r, RR H2 G' H' u r → RR H1 G' H' u r) (hv : σ[i]? = some (some (.ref a))) : XE RR (tCallA adr RR g a (.ref (adr j)) none (tCons (tVar i) tNil)) σ G H (g j) := fun G1 H1 e z hm Q q =>
  ⟨_, hv, G1, j, z, rfl, rfl, rfl, e.s, hm, fun u G' H' e' hu => q u G' H' e' hu⟩
end
/-! ### count of a bool in a list -/
def eqbl (k : Bool) (v : Value) : Bool := match v with
  | .bool b => b == k
  | _ => false
def rCntB (K : PySem.W.Frag) : V → List V → Hp → VK → Prop := fun x xs H Q => ∃ (p : Addr) (bs : List Bool) (k : Bool), x = .ref p ∧ xs = [.bl k] ∧ SqL K H p (bs.map V.bl) ∧ Q (.int (bs.count k : Nat)) H
section
variable {K : PySem.W.Frag} {σ : L2.St} {G H : Hp} {te ta : TE}
end
end Mi

/-! MiK: dicts whose keys are pairs of a number and a truth (a truth is a key as its number is). -/
namespace Mi
variable [Tbs]
open PySem PySem.Spec PyProof.Rows L2
open Rp (rep)
abbrev KB := Int × Bool
def kB (k : KB) : List Leaf := [.num k.1, .num (if k.2 then 1 else 0)]
def entB (x : KB × Addr × Value) : DictEntry := ⟨reduceHash (Builtin.Tuple.tupleHashOf [hashInt x.1.1, hashInt (if x.1.2 then 1 else 0)]), .ref x.2.1, x.2.2⟩
abbrev upB (x : KB × Addr × Value) : List Leaf × Addr × Value := (kB x.1, x.2)
def storeB (xs : List (KB × Addr × Value)) (k : KB) (a : Addr) (u : Value) : List (KB × Addr × Value) :=
  if (xs.any fun x => decide (x.1 = k)) = true then xs.map (fun x => if x.1 = k then (x.1, x.2.1, u) else x) else xs ++ [(k, a, u)]
/-- the dict's object -/
structure ObB (a : Addr) (xs : List (KB × Addr × Value)) (o : Obj) : Prop where
  ne : (a == sysModules) = false
  ex : o.ExactDict
  da : ∃ es ep, o.data = .dict es ep ∧ es.toList = xs.map entB
  nd : (xs.map (·.1)).Nodup
  len : xs.length ≤ sizeLine
def hoB (a : Addr) (o : Obj) : HO := .ext fun h => h.get? a = some o
omit [Tbs] in
theorem pn_hoB {a : Addr} {xs : List (KB × Addr × Value)} {o : Obj} (ho : ObB a xs o) : Pn (hoB a o) := by
  refine ⟨nt_ext, fun c q z => ?_⟩
  obtain ⟨es, ep, hd, _⟩ := ho.da
  have z2 : (fun h : Heap => h.get? a = some o) = fun h => ∃ (oc : Obj) (vs : Array Value) (t : Tok), h.get? c = some oc ∧ oc.data = .fields vs ∧ vs[1]? = some (.str q t) := HO.ext.inj z
  have hg : ∀ b : Addr, b < a + 1 → (⟨Array.replicate (a + 1) o, {}⟩ : Heap).get? b = some o := fun b hb => by
    have e : (Array.replicate (a + 1) o)[b]? = some o := by
      rw [Array.getElem?_replicate, if_pos hb]
    unfold Heap.get?
    rw [e]
    obtain ⟨oc, od, dd, sl⟩ := o
    have hd : dd = .dict es ep := hd
    subst hd
    rfl
  have h1 := congrFun z2 (⟨Array.replicate (a + 1) o, {}⟩ : Heap)
  have h2 : (⟨Array.replicate (a + 1) o, {}⟩ : Heap).get? a = some o := hg a (Nat.lt_succ_self a)
  obtain ⟨oc, vs, t, e1, e2, _⟩ := (h1 ▸ h2 : ∃ (oc : Obj) (vs : Array Value) (t : Tok), (⟨Array.replicate (a + 1) o, {}⟩ : Heap).get? c = some oc ∧ oc.data = .fields vs ∧ vs[1]? = some (.str q t))
  by_cases hc : c < a + 1
  · rw [hg c hc] at e1
    rw [← Option.some.inj e1, hd] at e2
    cases e2
  · unfold Heap.get? at e1
    rw [Array.getElem?_replicate, if_neg hc] at e1
    cases e1
/-- the key's tuple -/
abbrev KeyAt (K : PySem.W.Frag) (H : Hp) (k : KB) (b : Addr) : Prop := SqT K H b [.int k.1, .bl k.2]
section
variable {X : Cx} {pins : List (Addr × Obj)} {σ : L2.St} {H : Hp} {s : Shared} {a b : Addr} {o : Obj} {xs : List (KB × Addr × Value)} {k : KB} {A : Around} {E : Value → Shared → Prop}
end
/-! ### rules -/
def tDInB (K : PySem.W.Frag) (ty td : TE) : TE := fun σ H Q => ty σ H fun y H1 => td σ H1 fun x H2 => ∃ a o xs k b, x = .ref a ∧ y = .ref b ∧ H2 a = some (hoB a o) ∧ ObB a xs o ∧ (∀ x ∈ xs, KeyAt K H2 x.1 x.2.1) ∧ KeyAt K H2 k b ∧ Q (.bl (xs.any fun x => decide (x.1 = k))) H2
def tDNotInB (K : PySem.W.Frag) (ty td : TE) : TE := fun σ H Q => ty σ H fun y H1 => td σ H1 fun x H2 => ∃ a o xs k b, x = .ref a ∧ y = .ref b ∧ H2 a = some (hoB a o) ∧ ObB a xs o ∧ (∀ x ∈ xs, KeyAt K H2 x.1 x.2.1) ∧ KeyAt K H2 k b ∧ Q (.bl (!xs.any fun x => decide (x.1 = k))) H2
def sDPutB (K : PySem.W.Frag) (td ty tv : TE) : TS := fun D σ H => tv σ H fun v H1 => td σ H1 fun x H2 => ty σ H2 fun y H3 => ∃ a o xs k b, x = .ref a ∧ y = .ref b ∧ H3 a = some (hoB a o) ∧ ObB a xs o ∧ (∀ x ∈ xs, KeyAt K H3 x.1 x.2.1) ∧ KeyAt K H3 k b ∧ xs.length < sizeLine ∧
  ∀ o' u, RelV v u → ObB a (storeB xs k b u) o' → D.nx σ (upd H3 a (hoB a o'))
section
variable {X : Cx} {o i e value : Expr} {pos pos' tpos : Pos} {td ty tv : TE}
end
def tDNewB : TE := fun _ H Q => ∀ p o, H p = none → ObB p [] o → Q (.ref p) (upd H p (hoB p o))
def tDOneB (K : PySem.W.Frag) (tk tv : TE) : TE := fun σ H Q => ∀ p o, H p = none → ObB p [] o → tk σ (upd H p (hoB p o)) fun y H1 => tv σ H1 fun v H2 => H2 p = some (hoB p o) ∧ ∃ k b, y = .ref b ∧ KeyAt K H2 k b ∧
  ∀ o' u, RelV v u → ObB p [(k, b, u)] o' → Q (.ref p) (upd H2 p (hoB p o'))
section
variable {X : Cx} {pos : Pos}
end
/-! ### the keys, walked -/
def Itkb (d : Addr) (o : Obj) (xs : List (KB × Addr × Value)) : It :=
  ⟨fun i H => H d = some (hoB d o) ∧ i < xs.length, fun i H x H' => H' = H ∧ ∃ y, xs[i]? = some y ∧ x = .ref y.2.1, fun i H => H d = some (hoB d o) ∧ xs.length ≤ i⟩
def iKeysB (td : TE) : TI := fun σ H R => td σ H fun x H1 => ∃ d o xs, x = .ref d ∧ H1 d = some (hoB d o) ∧ ObB d xs o ∧ R (Itkb d o xs) H1
/-! ### values -/
/-- a dict whose keys are pairs of a number and a truth -/
structure DB (β : Type) where
  l : List (KB × β)
section
variable {β : Type}
def bputL (l : List (KB × β)) (k : KB) (v : β) : List (KB × β) := if (l.any fun x => decide (x.1 = k)) = true then l.map (fun x => if x.1 = k then (x.1, v) else x) else l ++ [(k, v)]
def bputO (d : DB β) (k : KB) (v : β) : Option (DB β) := if d.l.length < 16000000 then some ⟨bputL d.l k v⟩ else none
def bhas (d : DB β) (k : KB) : Bool := d.l.any fun x => decide (x.1 = k)
def bkeys (d : DB β) : List KB := d.l.map (·.1)
end
abbrev RepsB {β : Type} [Rp β] (K : PySem.W.Frag) (G : Hp) : List (KB × Addr × Value) → List (KB × β) → Prop := Paired fun x y => x.1 = y.1 ∧ KeyAt K G x.1 x.2.1 ∧ ∃ v, RelV v x.2.2 ∧ rep K G v y.2
section
variable {β : Type} [Rp β] {K : PySem.W.Frag} {G G' : Hp} {xs : List (KB × Addr × Value)} {l : List (KB × β)} {k : KB} {v : V} {x : β} {b : Addr} {u : Value}
theorem repsB_mono (s : Same G G') : ∀ {xs : List (KB × Addr × Value)} {l : List (KB × β)}, RepsB K G xs l → RepsB K G' xs l
  | _, _, .nil => .nil
  | _, _, .cons ⟨h1, h2, v, h3, h4⟩ r => .cons ⟨h1, same_tup s h2, v, h3, Rp.mono s h4⟩ (repsB_mono s r)
end
instance {β : Type} [Rp β] : Rp (DB β) := ⟨fun K G v d => ∃ a o xs, v = .ref a ∧ G a = some (hoB a o) ∧ ObB a xs o ∧ RepsB K G xs d.l, fun s ⟨a, o, xs, e, h, ho, r⟩ => ⟨a, o, xs, e, s _ _ h, ho, repsB_mono s r⟩⟩
/-- one's own -/
structure OwnB {β : Type} [Rp β] (K : PySem.W.Frag) (H0 G H : Hp) (p : Addr) (d : DB β) : Prop where
  z : H0 p = none
  g : G p = none
  h : ∃ o xs, H p = some (hoB p o) ∧ ObB p xs o ∧ RepsB K G xs d.l
section
variable {α β ρ : Type} [Rp α] [Rp β]
variable {K : PySem.W.Frag} {σ : L2.St} {G0 H0 G H G1 H1 : Hp} {te td ty tv tx : TE} {tc : TT} {ma : Option α} {mb : Option β} {i : Nat} {d : DB β} {D : Ends} {out : ρ} {p q : Addr}
theorem OwnB.ne (x : OwnB K H0 G H p d) : H p ≠ none := by
  obtain ⟨o, xs, h, _⟩ := x.h
  rw [h]
  exact fun z => nomatch z
theorem OwnB.pn (x : OwnB K H0 G H p d) : PnAt H p := by
  obtain ⟨o, xs, h, ho, _⟩ := x.h
  exact ⟨_, h, pn_hoB ho⟩
theorem OwnB.mono (x : OwnB K H0 G H p d) (e : Ext G H G1 H1) : OwnB K H0 G1 H1 p d := by
  obtain ⟨o, xs, h, ho, r⟩ := x.h
  exact ⟨x.z, (e.a p x.ne).trans x.g, o, xs, e.h.k _ _ h, ho, repsB_mono e.g r⟩
theorem OwnB.off {o : HO} (x : OwnB K H0 G H p d) (n : p ≠ q) : OwnB K H0 G (upd H q o) p d := by
  obtain ⟨ob, xs, h, ho, r⟩ := x.h
  exact ⟨x.z, x.g, ob, xs, by rw [upd_ne n]; exact h, ho, r⟩
theorem OwnB.up (x : OwnB K H G1 H1 p d) (s : HK H0 H) : OwnB K H0 G1 H1 p d := ⟨s.free x.z, x.g, x.h⟩
theorem OwnB.show (x : OwnB K H0 G H p d) (e : Ext G0 H0 G H) : ∃ o, Ext G0 H0 (upd G p (hoB p o)) H ∧ Same G (upd G p (hoB p o)) ∧ rep K (upd G p (hoB p o)) (.ref p) d := by
  obtain ⟨o, xs, h, ho, r⟩ := x.h
  exact ⟨o, e.show x.z x.g h, same_new x.g, p, o, xs, rfl, upd_same, ho, repsB_mono (same_new x.g) r⟩
def FB (K : PySem.W.Frag) (te : TE) (σ : L2.St) (G H : Hp) (m : Option (DB β)) : Prop :=
  ∀ G1 H1, Ext G H G1 H1 → ∀ r, m = some r → ∀ Q : VK, (∀ p G2 H2, Ext G1 H1 G2 H2 → OwnB K H1 G2 H2 p r → Q (.ref p) H2) → te σ H1 Q
theorem FB.se {m : Option (DB β)} (h : FB K te σ G H m) : SE K te σ G H m := fun G1 H1 e r hm Q q =>
  h G1 H1 e r hm Q fun p G2 H2 e2 o => by
    obtain ⟨ks, e3, _, hr⟩ := o.show e2
    exact q _ _ _ e3 hr
end
end Mi

/-! MiH: a tuple or a list (UL); a loop backwards over a list; five names. -/
namespace Mi
variable [Tbs]
open PySem PySem.Spec PyProof.Rows L2 RT
open Rp (rep)
/-- a tuple or a list -/
structure UL (α : Type) where
  l : List α
section
variable {α β γ δ ε ρ : Type} [Rp α] [Rp β] [Rp γ] [Rp δ] [Rp ε]
variable {K : PySem.W.Frag} {σ : L2.St} {G H : Hp} {te ta tb tl : TE} {i j l n m : Nat} {D : Ends} {out : ρ} {v : V}
instance : Rp (UL α) := ⟨fun K G v d => ∃ a vs, v = .ref a ∧ (SqL K G a vs ∨ SqT K G a vs) ∧ vs.length ≤ sizeLine ∧ Reps K G vs d.l, fun s ⟨a, vs, e, h, z, r⟩ => ⟨a, vs, e, h.imp s.seq (same_tup s), z, r.mono s⟩⟩
instance : RpN (UL α) := ⟨fun ⟨_, _, h, _⟩ => by rw [h]; intro z; cases z⟩
/-- an item of either -/
def rIxU (K : PySem.W.Frag) : R2 := fun x y H Q => rIxL K x y H Q ∨ rIxT K x y H Q
end
end Mi

/-! MiJ: lambdas of two parameters handed to a def. -/
namespace Mi
variable [Tbs]
open PySem PySem.Spec PyProof.Rows L2 LamX NdefX
section
variable {X : Cx} {pins : List (Addr × Obj)} {σ : L2.St} {H : Hp} {s : Shared} {cl : List (Str × Addr)} {fr : List Str} {ws : List (Option V)}
end
/-- a lambda's words, the cells that it captured, its code object -/
structure LF where
  qual : Str
  params : Arguments
  body : Expr
  scope : Scope
  cl : List (Str × Addr)
  c : Addr
abbrev LF.nf (F : LF) : NF := ⟨"<lambda>", F.qual, F.params, [], F.scope, F.cl, F.c⟩
/-- the object at f is the lambda -/
def LamAt (f : Addr) (F : LF) (h : Heap) : Prop := ∃ pm ctv, h.get? f = some (PySem.W.kla_obj "<lambda>" F.qual F.params F.body F.scope F.cl pm F.c ctv)
/-- its promise: sp ws, ws what its captured cells hold at the call -/
structure LOk (P : Program) (w : World) (K : PySem.W.Frag) (mg : Str → Option Value) (base : Heap) (k : Nat) (F : LF) (ps fr : List Str) (sp : List (Option V) → Sp) : Prop where
  run : ∀ (f : Addr) (A : Around) (outer : List Env) (s : Shared) (H : Hp) (us : List Value) (vs : List V) (ws : List (Option V)) (Q : VK) (E : XK), Room k A → Env0 P w K mg base A outer s H → LamAt f F s.heap → H F.c = some (CodeO F.c F.qual) →
    CellsAt F.cl fr ws s.heap H → Vals vs us → sp ws vs H Q E → codeAny (model P w) A (.call (.ref f) ⟨us, []⟩) (CR CX0 outer P w H s Q E) s
section
variable {P : Program} {w : World} {K : PySem.W.Frag} {mg : Str → Option Value} {base : Heap} {N ps fr : List Str} {F : LF} {k : Nat} {sp : List (Option V) → Sp}
end

/-! ### objects shown as they are, and hidden again -/
abbrev DO := List (Addr × Obj)
def shO (D : DO) (H : Hp) : Hp := fun b => match D.lookup b with
  | some o => some (hoB b o)
  | none => H b
def hdO (D : DO) (H : Hp) : Hp := fun b => match D.lookup b with
  | some _ => none
  | none => H b
section
variable {P : Program} {w : World} {K : PySem.W.Frag} {mg : Str → Option Value} {base : Heap} {D : DO} {H H' : Hp} {h h' : Heap} {a b : Addr} {o : Obj} {A : Around} {outer : List Env} {s s' : Shared} {Q Q' : VK} {u : Value} {fs : List Addr}
theorem hdO_in (e : D.lookup b = some o) : hdO D H b = none := by unfold hdO; rw [e]
end
/-! ### the lambda is made -/
section
variable {X : Cx} {pins : List (Addr × Obj)} {σ : L2.St} {H : Hp} {s : Shared}
/-- all but the table stays; nothing goes -/
structure LamH (P : Addr) (H H1 : Hp) : Prop where
  k : ∀ b o, b ≠ P → H b = some o → H1 b = some o
  d : ∀ b, H1 b = none → H b = none
end

/-! ### what it is to the view -/
/-- objects that are no tables and no code objects -/
def GoodD (D : DO) : Prop := ∀ a o, D.lookup a = some o → (∀ vs, o.data ≠ .fields vs) ∧ o.data ≠ .freed
section
variable {K : PySem.W.Frag} {D : DO} {G H G' H' G1 H1 : Hp} {a b : Addr} {o : Obj}
end

/-! ### a function as a value: two whole numbers to a truth -/
/-- what the captured cells hold, by the objects that are shown -/
structure CellsD (cl : List (Str × Addr)) (fr : List Str) (ws : List (Option V)) (D : DO) : Prop where
  len : ws.length = fr.length
  all : ∀ y c, cl.lookup y = some c → ∃ o v, D.lookup c = some o ∧ o.data = .cell v
  inj : ∀ x y c, cl.lookup x = some c → cl.lookup y = some c → x = y
  has : ∀ (i : Nat) (y : Str), fr[i]? = some y → ∃ c, cl.lookup y = some c ∧ ∀ v, ws[i]? = some (some v) → ∃ u o, RelV v u ∧ D.lookup c = some o ∧ o.data = .cell (some u)
section
variable {cl : List (Str × Addr)} {fr : List Str} {ws : List (Option V)} {D : DO} {h : Heap} {H : Hp}
theorem CellsD.at (x : CellsD cl fr ws D) (hD : ∀ a o, D.lookup a = some o → h.get? a = some o) : CellsAt cl fr ws h (hdO D H) := by
  refine ⟨x.len, fun y c e => ?_, x.inj, fun i y e => ?_⟩
  · obtain ⟨o, v, h1, h2⟩ := x.all y c e
    exact ⟨hdO_in h1, v, o, hD c o h1, h2⟩
  · obtain ⟨c, hc, hv⟩ := x.has i y e
    refine ⟨c, hc, fun v ev => ?_⟩
    obtain ⟨u, o, r, h1, h2⟩ := hv v ev
    exact ⟨u, r, o, hD c o h1, h2⟩
end
/-- the object is this lambda's -/
def LamOb (F : LF) (o : Obj) : Prop := ∃ pm ctv, o = PySem.W.kla_obj "<lambda>" F.qual F.params F.body F.scope F.cl pm F.c ctv
/-- the objects D are shown in H, the lambda at fa among them -/
structure LamIn (F : LF) (D : DO) (fr : List Str) (ws : List (Option V)) (fa : Addr) (H : Hp) : Prop where
  good : GoodD D
  ob : ∃ o, D.lookup fa = some o ∧ LamOb F o
  hs : ∀ a o, D.lookup a = some o → H a = some (hoB a o)
  code : H F.c = some (CodeO F.c F.qual)
  cells : CellsD F.cl fr ws D
theorem LamIn.mono {F : LF} {D : DO} {fr : List Str} {ws : List (Option V)} {fa : Addr} {H H1 : Hp} (x : LamIn F D fr ws fa H) (h : HK H H1) : LamIn F D fr ws fa H1 := ⟨x.good, x.ob, fun a o e => h.k _ _ (x.hs a o e) nt_ext, h.k _ _ x.code nt_ext, x.cells⟩
/-- f(..), f a slot that holds a lambda -/
def tCallF (P : Program) (w : World) (K : PySem.W.Frag) (mg : Str → Option Value) (base : Heap) (k i : Nat) (ps : List Str) (t : TA) : TE := fun σ H Q => ∃ fa F D fr ws spl, σ[i]? = some (some (.ref fa)) ∧ LOk P w K mg base k F ps fr spl ∧ LamIn F D fr ws fa H ∧
  t σ H fun vs H1 => LamIn F D fr ws fa H1 ∧ spl ws vs (hdO D H1) (fun v H' => (∀ a o, D.lookup a = some o → H' a = none) → Q v (shO D H')) E0
section
variable {X : Cx} {i j k : Nat} {ps : List Str} {x : Str} {p pos : Pos} {e : Expr} {es : List Expr} {t : TA}
end

/-! ### a lambda handed to a def -/
/-- the lambda that the context X makes, its code object at c' -/
abbrev lamF (X : Cx) (params : Arguments) (body : Expr) (scope : Scope) (c' : Addr) : LF := ⟨X.env.qual ++ "<lambda>", params, body, scope, cloFrom X.env.cells scope.names [], c'⟩
def tLamArg (X : Cx) (P : Addr) (params : Arguments) (body : Expr) (scope : Scope) (fr : List Str) (js : List Nat) (sp : Sp) : TE := fun σ H Q => Tabs Tbs.T H ∧ ∀ (f c' : Addr) (H1 : Hp) (D : DO), LamH P H H1 → Tabs Tbs.T H1 → (∀ a o, D.lookup a = some o → H1 a = none) →
  LamIn (lamF X params body scope c') D fr (js.map (slotAt σ)) f (shO D H1) → sp [.ref f] (shO D H1) (fun v H' => (∀ a o, D.lookup a = some o → H' a = some (hoB a o)) ∧ Q v (hdO D H')) E0
section
variable {X : Cx} {k j : Nat} {sp : Sp} {x a : Str} {g : Addr} {fd : FuncData} {c P : Addr} {params : Arguments} {body : Expr} {scope : Scope} {fr : List Str} {js : List Nat} {p lpos pos : Pos}
end
open Rp (rep)
/-! ### to the view -/
section
variable {P : Program} {w : World} {K : PySem.W.Frag} {mg : Str → Option Value} {base : Heap} {k i : Nat} {ps : List Str} {G H G1 H1 : Hp} {v : V} {mf : Int → Int → Option Bool} {σ : L2.St} {t0 t1 : TE} {m0 m1 : Option Int}
/-- what a lambda does of two whole numbers, wherever the view holds what it holds in G -/
def Does (K : PySem.W.Frag) (sp : Sp) (G : Hp) (mf : Int → Int → Option Bool) : Prop := ∀ G1 H1, Same G G1 → Vw G1 H1 → ∀ (v0 v1 : V) (x0 x1 : Int) (r : Bool), rep K G1 v0 x0 → rep K G1 v1 x1 → mf x0 x1 = some r → ∀ Q : VK, (∀ u G' H', Ext G1 H1 G' H' → rep K G' u r → Q u H') → sp [v0, v1] H1 Q E0
theorem Does.mono {sp : Sp} (x : Does K sp G mf) (s : Same G G1) : Does K sp G1 mf := fun G2 H2 s2 => x G2 H2 (s.trans s2)
/-- v is a function that does mf -/
def FnVal (P : Program) (w : World) (K : PySem.W.Frag) (mg : Str → Option Value) (base : Heap) (k : Nat) (ps : List Str) (G H : Hp) (v : V) (mf : Int → Int → Option Bool) : Prop := ∃ fa F D fr ws spl, v = .ref fa ∧ LOk P w K mg base k F ps fr spl ∧ LamIn F D fr ws fa H ∧ (∀ a o, D.lookup a = some o → G a = none) ∧ Does K (spl ws) G mf
theorem FnVal.mono (x : FnVal P w K mg base k ps G H v mf) (e : Ext G H G1 H1) : FnVal P w K mg base k ps G1 H1 v mf := by
  obtain ⟨fa, F, D, fr, ws, spl, ev, Fn, hL, hg, hd⟩ := x
  exact ⟨fa, F, D, fr, ws, spl, ev, Fn, hL.mono e.h, fun a o q => (e.a a (by rw [hL.hs a o q]; exact fun z => by cases z)).trans (hg a o q), hd.mono e.g⟩
theorem FnVal.off {p : Addr} {o : HO} (x : FnVal P w K mg base k ps G H v mf) (h : ∃ vs, H p = some (.lst vs)) : FnVal P w K mg base k ps G (upd H p o) v mf := by
  obtain ⟨vs, h⟩ := h
  obtain ⟨fa, F, D, fr, ws, spl, ev, Fn, hL, hg, hd⟩ := x
  have ne : ∀ a f, H a = some (.ext f) → a ≠ p := fun a f e z => by
    rw [z, h] at e
    cases e
  exact ⟨fa, F, D, fr, ws, spl, ev, Fn, ⟨hL.good, hL.ob, fun a o q => by rw [upd_ne (ne a _ (hL.hs a o q))]; exact hL.hs a o q, by rw [upd_ne (ne _ _ hL.code)]; exact hL.code, hL.cells⟩, hg, hd⟩
/-- a def of one parameter, a function -/
def SpF1 {ρ : Type} (P : Program) (w : World) (K : PySem.W.Frag) (mg : Str → Option Value) (base : Heap) (k : Nat) (ps : List Str) (RR : Hp → Hp → Hp → V → ρ → Prop) (f : (Int → Int → Option Bool) → Option ρ) : Sp := fun vs H Q _ => ∃ (G : Hp) (v0 : V) (x0 : Int → Int → Option Bool) (r : ρ), vs = [v0] ∧ Vw G H ∧ FnVal P w K mg base k ps G H v0 x0 ∧ f x0 = some r ∧ ∀ u G' H', Ext G H G' H' → RR H G' H' u r → Q u H'
theorem SpF1.len {ρ : Type} {RR : Hp → Hp → Hp → V → ρ → Prop} {f : (Int → Int → Option Bool) → Option ρ} {qs : List Str} (h : qs.length = 1) : ∀ vs H Q E, SpF1 P w K mg base k ps RR f vs H Q E → vs.length = qs.length := fun vs H Q E ⟨_, _, _, _, e, _⟩ => by rw [e, h]; rfl
end

/-! ### what stands where -/
def lamIn : List Stmt → Expr
  | .Assign _ (.Call _ (.Lambda a b s p :: _) _ _) _ :: _ => .Lambda a b s p
  | _ :: r => lamIn r
  | [] => .Constant .none 0 ⟨0, 0, 0, 0⟩
def lamArgs : Expr → Arguments
  | .Lambda a _ _ _ => a
  | _ => ⟨[], [], none, [], [], none, []⟩
def lamBody : Expr → Expr
  | .Lambda _ b _ _ => b
  | e => e
def lamScope : Expr → Scope
  | .Lambda _ _ s _ => s
  | _ => ⟨.function, [], false, false, []⟩
theorem LOk.mono {P : Program} {w : World} {K : PySem.W.Frag} {mg : Str → Option Value} {base : Heap} {j k : Nat} {F : LF} {ps fr : List Str} {sp : List (Option V) → Sp} (o : LOk P w K mg base j F ps fr sp) (h : j ≤ k) : LOk P w K mg base k F ps fr sp :=
  ⟨fun f A outer s H us vs ws Q E hr => o.run f A outer s H us vs ws Q E (hr.mono h)⟩
/-- a def of the text whose code object is known -/
structure FunC (K : PySem.W.Frag) (x qual : Str) (st : Stmt) (f : Addr) (fd : FuncData) (c : Addr) : Prop where
  ex : ∃ (oc : Value) (od : Option Addr) (kV doc pm : Value) (an : Option Addr) (ct : Value) (osl : Array (Option Value)),
    fd = PySem.W.fnOf x qual (defArgs st) (defBody st) (defScope st) .none kV doc pm an (.ref c) ct ∧ K.lookup f = some ⟨oc, od, .func fd, osl⟩ ∧ PySem.W.codeIn K (.ref c) qual = true
section
variable {P : Program} {w : World} {K : PySem.W.Frag} {mg : Str → Option Value} {base : Heap}
theorem FunC.ok {x qual : Str} {st : Stmt} {f : Addr} {fd : FuncData} {c : Addr} {N ps : List Str} {k : Nat} {sp : Sp} (F : FunC K x qual st f fd c) (S : FnScope N ps (defScope st)) (len : ∀ vs H Q E, sp vs H Q E → vs.length = ps.length)
    (hbody : ∀ (A : Around) (outer : List Env) (s : Shared) (H : Hp) (vs : List V) (Q : VK) (E : XK), Room k (A.deeper (envOfC qual (defScope st) s.heap.objs.size f (.ref c))) → sp vs H Q E →
      ∃ t, PSs (cxOf CX0 P w K mg base N qual (defScope st) f (.ref c) A outer s H E).nox (defBody st) t ∧ t { nx := fun _ H' => Q .non H', rt := Q } (start N vs) H) : FnOk P w K mg base CX0 (k + 1) f fd ps sp := by
  obtain ⟨oc, od, kV, doc, pm, an, ct, osl, rfl, lk, hcd⟩ := F.ex
  refine fn_of lk hcd S len fun A outer s H vs Q E hr hsp => ?_
  obtain ⟨t, h, q⟩ := hbody A outer s H vs Q E hr hsp
  exact ⟨t, h.nox, q⟩
end

/-! ### the end -/
/-- the table of a code object -/
def tabOf (K : PySem.W.Frag) (c : Addr) : Addr := match K.lookup c with
  | some ⟨_, _, .fields vs, _⟩ => (match (vs[11]? : Option Value) with
    | some (.ref P) => P
    | _ => 0)
  | _ => 0
def offT (H : Hp) : Hp := fun b => if b ∈ Tbs.T.map (·.1) then none else H b
end Mi

/-! MiO: None or a list of one's own, handed back. -/
namespace Mi
variable [Tbs]
open PySem L2
open Rp (rep)
section
variable {α : Type} [Rp α] {K : PySem.W.Frag} {D : Ends} {i : Nat} {σ : St} {H0 G0 G H : Hp}
section
variable {α β ρ : Type} [Rp α] [Rp β] {K : PySem.W.Frag} {D : Ends} {te tb : TE} {σ : St} {H0 G0 G H : Hp} {out : ρ}
end
end
section
variable {α β : Type} [Rp α] [Rp β] {K : PySem.W.Frag} {te : TE} {σ : St} {H0 G H : Hp} {p : Addr}
instance : NL Nat := ⟨fun h => h⟩
end
section
variable {β : Type} [Rp β] {K : PySem.W.Frag} {te : TE} {σ : St} {G H : Hp}
end
end Mi

/-! MiA: values of any kind (PyData): whole numbers, truths, None, texts, lists and tuples of such. -/
namespace Mi
open PySem
/-- as data of any kind -/
class PyOf (α : Type) where
  py : α → PyData
instance : PyOf PyData := ⟨id⟩
instance : PyOf Int := ⟨.int⟩
instance : PyOf Bool := ⟨.bool⟩
instance : PyOf Unit := ⟨fun _ => .none⟩
instance : PyOf Str := ⟨.str⟩
instance : PyOf Tg := ⟨fun t => .str t.s⟩
instance : PyOf TK := ⟨fun t => .tuple (t.l.map PyData.int)⟩
section
variable {α β γ δ : Type} [PyOf α] [PyOf β] [PyOf γ] [PyOf δ]
instance : PyOf (Option α) := ⟨fun o => match o with
  | none => .none
  | some x => PyOf.py x⟩
instance : PyOf (List α) := ⟨fun xs => .list (xs.map PyOf.py)⟩
instance : PyOf (TL α) := ⟨fun xs => .tuple (xs.l.map PyOf.py)⟩
instance : PyOf (α × β) := ⟨fun t => .tuple [PyOf.py t.1, PyOf.py t.2]⟩
instance : PyOf (T3 α β γ) := ⟨fun t => .tuple [PyOf.py t.a, PyOf.py t.b, PyOf.py t.c]⟩
instance : PyOf (T4 α β γ δ) := ⟨fun t => .tuple [PyOf.py t.a, PyOf.py t.b, PyOf.py t.c, PyOf.py t.d]⟩
end
variable [Tbs]
open PySem L2
open Rp (rep)
mutual
inductive Dq (K : PySem.W.Frag) (G : Hp) : V → PyData → Prop
  | non : Dq K G .non .none
  | bl (b : Bool) : Dq K G (.bl b) (.bool b)
  | int (i : Int) : Dq K G (.int i) (.int i)
  | str (x : Str) : Dq K G (.str x) (.str x)
  | lst {a : Addr} {vs : List V} {ds : List PyData} : G a = some (.lst vs) → DqAll K G vs ds → Dq K G (.ref a) (.list ds)
  | tup {a : Addr} {vs : List V} {ds : List PyData} : SqT K G a vs → DqAll K G vs ds → Dq K G (.ref a) (.tuple ds)
inductive DqAll (K : PySem.W.Frag) (G : Hp) : List V → List PyData → Prop
  | nil : DqAll K G [] []
  | cons {v : V} {vs : List V} {d : PyData} {ds : List PyData} : Dq K G v d → DqAll K G vs ds → DqAll K G (v :: vs) (d :: ds)
end
section
variable {K : PySem.W.Frag} {G H G' : Hp}
omit [Tbs] in
mutual
theorem Dq.mono (s : Same G G') : ∀ (d : PyData) (v : V), Dq K G v d → Dq K G' v d
  | .none, _, h => by cases h; exact .non
  | .bool b, _, h => by cases h; exact .bl b
  | .int i, _, h => by cases h; exact .int i
  | .str x, _, h => by cases h; exact .str x
  | .list ds, _, h => by
    cases h with
    | lst e r => exact .lst (s _ _ e) (DqAll.mono s ds _ r)
  | .tuple ds, _, h => by
    cases h with
    | tup e r => exact .tup (same_tup s e) (DqAll.mono s ds _ r)
  | .dict _, _, h => by cases h
theorem DqAll.mono (s : Same G G') : ∀ (ds : List PyData) (vs : List V), DqAll K G vs ds → DqAll K G' vs ds
  | [], _, h => by cases h; exact .nil
  | d :: ds, _, h => by
    cases h with
    | cons h1 h2 => exact .cons (Dq.mono s d _ h1) (DqAll.mono s ds _ h2)
end
omit [Tbs] in
mutual
theorem Dq.dp (s : Same G H) : ∀ (d : PyData) (v : V), Dq K G v d → Dp K H v d
  | .none, _, h => by cases h; exact .non
  | .bool b, _, h => by cases h; exact .bl b
  | .int i, _, h => by cases h; exact .int i
  | .str x, _, h => by cases h; exact .str x
  | .list ds, _, h => by
    cases h with
    | lst e r => exact .lst (SqL.of (s _ _ e)) (DqAll.dp s ds _ r)
  | .tuple ds, _, h => by
    cases h with
    | tup e r => exact .tup (same_tup s e) (DqAll.dp s ds _ r)
  | .dict _, _, h => by cases h
theorem DqAll.dp (s : Same G H) : ∀ (ds : List PyData) (vs : List V), DqAll K G vs ds → DpAll K H vs ds
  | [], _, h => by cases h; exact .nil
  | d :: ds, _, h => by
    cases h with
    | cons h1 h2 => exact .cons (Dq.dp s d _ h1) (DqAll.dp s ds _ h2)
end
end
instance : Rp PyData := ⟨fun K G v d => Dq K G v d, fun {_ _ _ v d} s h => Dq.mono s d v h⟩
section
variable {K : PySem.W.Frag} {G H : Hp}
omit [Tbs] in
theorem DqAll.reps : ∀ {vs : List V} {ds : List PyData}, DqAll K G vs ds → Reps K G vs ds
  | _, [], h => by cases h; exact .nil
  | _, d :: ds, h => by
    cases h with
    | cons h1 h2 => exact .cons h1 (DqAll.reps h2)
end
/-! ### into any kind -/
/-- a change of kind alone -/
def Co {α β : Type} [Rp α] [Rp β] (f : α → β) : Prop := ∀ {K : PySem.W.Frag} {G : Hp} {v : V} {x : α}, rep K G v x → rep K G v (f x)
class RpY (α : Type) [Rp α] [PyOf α] : Prop where
  dq : ∀ {K : PySem.W.Frag} {G : Hp} {v : V} {x : α}, rep K G v x → Dq K G v (PyOf.py x)
instance : RpY PyData := ⟨fun h => h⟩
instance : RpY Int := ⟨fun h => by rw [show _ = V.int _ from h]; exact .int _⟩
instance : RpY Bool := ⟨fun h => by rw [show _ = V.bl _ from h]; exact .bl _⟩
instance : RpY Unit := ⟨fun h => by rw [show _ = V.non from h]; exact .non⟩
instance : RpY Str := ⟨fun h => by rw [show _ = V.str _ from h]; exact .str _⟩
instance : RpY Tg := ⟨fun h => by rw [show _ = V.str _ from h]; exact .str _⟩
section
variable {α β γ δ : Type} [Rp α] [Rp β] [Rp γ] [Rp δ] [PyOf α] [PyOf β] [PyOf γ] [PyOf δ] [RpY α] [RpY β] [RpY γ] [RpY δ]
omit [Tbs] in
theorem dq_map {K : PySem.W.Frag} {G : Hp} : ∀ {vs : List V} {ds : List α}, Reps K G vs ds → DqAll K G vs (ds.map PyOf.py)
  | _, _, .nil => .nil
  | _, _, .cons h t => .cons (RpY.dq h) (dq_map t)
instance : RpY (Option α) := ⟨fun {_ _ v x} h => by
    cases x with
    | none => rw [show v = .non from h]; exact .non
    | some x => exact (show Dq _ _ v (PyOf.py x) from RpY.dq h.1)⟩
instance : RpY (List α) := ⟨fun ⟨a, vs, e, h, _, r⟩ => by rw [e]; exact .lst h (dq_map r)⟩
instance : RpY (TL α) := ⟨fun ⟨a, vs, e, h, _, r⟩ => by rw [e]; exact .tup h (dq_map r)⟩
instance : RpY (α × β) := ⟨fun ⟨a, x, y, e, h, h1, h2⟩ => by rw [e]; exact .tup h (.cons (RpY.dq h1) (.cons (RpY.dq h2) .nil))⟩
instance : RpY (T3 α β γ) := ⟨fun ⟨a, x, y, z, e, h, h1, h2, h3⟩ => by rw [e]; exact .tup h (.cons (RpY.dq h1) (.cons (RpY.dq h2) (.cons (RpY.dq h3) .nil)))⟩
instance : RpY (T4 α β γ δ) := ⟨fun ⟨a, x, y, z, u, e, h, h1, h2, h3, h4⟩ => by rw [e]; exact .tup h (.cons (RpY.dq h1) (.cons (RpY.dq h2) (.cons (RpY.dq h3) (.cons (RpY.dq h4) .nil))))⟩
omit [Tbs] in
theorem co_py : Co (PyOf.py : α → PyData) := fun h => RpY.dq h
end
section
variable {α β γ δ : Type} [Rp α] [Rp β] [Rp γ] [Rp δ] {f : α → β} {g : γ → δ}
variable {K : PySem.W.Frag} {σ : St} {G H : Hp} {te ta tb : TE}
omit [Tbs] in
theorem Co.reps (h : Co f) {K : PySem.W.Frag} {G : Hp} : ∀ {vs : List V} {ds : List α}, Reps K G vs ds → Reps K G vs (ds.map f)
  | _, _, .nil => .nil
  | _, _, .cons r t => .cons (h r) (Co.reps h t)
theorem co_list (h : Co f) : Co (List.map f) := fun ⟨a, vs, e, h1, l, r⟩ => ⟨a, vs, e, h1, l, h.reps r⟩
theorem se_co (h : Co f) {m : Option α} (se : SE K te σ G H m) : SE K te σ G H (m.bind fun x => some (f x)) := fun G1 H1 e z hm Q q => by
  obtain ⟨x, hx, hm⟩ := bind_some hm
  cases hm
  exact se G1 H1 e x hx Q fun v G2 H2 e2 hv => q v G2 H2 e2 (h hv)
theorem se_cop (h : Co f) {x : α} (se : SE K te σ G H (some x)) : SE K te σ G H (some (f x)) := se_co h se
theorem fe_co (h : Co f) {m : Option (List α)} (fe : FE K te σ G H m) : FE K te σ G H (m.bind fun x => some (x.map f)) := fun G1 H1 e z hm Q q => by
  obtain ⟨x, hx, hm⟩ := bind_some hm
  cases hm
  exact fe G1 H1 e x hx Q fun p G2 H2 e2 o => q p G2 H2 e2 ⟨o.z, o.g, by obtain ⟨vs, h1, h2, h3⟩ := o.h; exact ⟨vs, h1, h2, h.reps h3⟩⟩
theorem fe_cop (h : Co f) {x : List α} (fe : FE K te σ G H (some x)) : FE K te σ G H (some (x.map f)) := fe_co h fe
end
/-! ### out of any kind -/
def Prj {α β : Type} [Rp α] [Rp β] (f : α → Option β) : Prop := ∀ {K : PySem.W.Frag} {G : Hp} {v : V} {x : α} {y : β}, rep K G v x → f x = some y → rep K G v y
def dyI : PyData → Option Int
  | .int i => some i
  | _ => none
def dyB : PyData → Option Bool
  | .bool b => some b
  | _ => none
def dyL : PyData → Option (List PyData)
  | .list xs => if xs.length ≤ 16000000 then some xs else none
  | _ => none
def dyT : PyData → Option (TL PyData)
  | .tuple xs => if xs.length ≤ 16000000 then some ⟨xs⟩ else none
  | _ => none
def dyT2 : PyData → Option (PyData × PyData)
  | .tuple [a, b] => some (a, b)
  | _ => none
def dyT4 : PyData → Option (T4 PyData PyData PyData PyData)
  | .tuple [a, b, c, d] => some ⟨a, b, c, d⟩
  | _ => none
def mapP {α β : Type} (f : α → Option β) : List α → Option (List β)
  | [] => some []
  | x :: xs => (f x).bind fun y => (mapP f xs).bind fun ys => some (y :: ys)
section
variable {α β γ δ : Type} [Rp α] [Rp β] [Rp γ] [Rp δ] {f : α → Option β} {g : γ → Option δ}
variable {K : PySem.W.Frag} {σ : St} {G H : Hp} {te ta tb : TE}
omit [Tbs] in
theorem prj_int : Prj dyI := fun {_ _ v x y} h e => by
  cases x <;> cases e
  cases (show Dq _ _ _ _ from h)
  rfl
omit [Tbs] in
theorem Prj.reps (h : Prj f) {K : PySem.W.Frag} {G : Hp} : ∀ {vs : List V} {ds : List α} {es : List β}, Reps K G vs ds → mapP f ds = some es → Reps K G vs es
  | _, _, _, .nil, e => by cases e; exact .nil
  | _, _, _, .cons r t, e => by
    obtain ⟨y, h1, e⟩ := bind_some (show (f _).bind _ = _ from e)
    obtain ⟨ys, h2, e⟩ := bind_some e
    cases e
    exact .cons (h r h1) (Prj.reps h t h2)
theorem se_prj (h : Prj f) {m : Option α} (se : SE K te σ G H m) : SE K te σ G H (m.bind f) := fun G1 H1 e z hm Q q => by
  obtain ⟨x, hx, hm⟩ := bind_some hm
  exact se G1 H1 e x hx Q fun v G2 H2 e2 hv => q v G2 H2 e2 (h hv hm)
theorem se_prjp (h : Prj f) {x : α} (se : SE K te σ G H (some x)) : SE K te σ G H (f x) := se_prj h se
end
/-! ### looked at -/
/-- by kind: None, a truth, a whole number, a text, a list, a tuple -/
def dyK {α : Type} (n b i s l t z : α) : PyData → α
  | .none => n
  | .bool _ => b
  | .int _ => i
  | .str _ => s
  | .list _ => l
  | .tuple _ => t
  | .dict _ => z
def dyTy : PyData → String := dyK "NoneType" "bool" "int" "str" "list" "tuple" "dict"
def dyEq (x y : PyData) : Option Bool := if (SeqAt.shaped x && SeqAt.shaped y) = true then some (PyData.eqv x y) else none
def dyNe (x y : PyData) : Option Bool := if (SeqAt.shaped x && SeqAt.shaped y) = true then some (!PyData.eqv x y) else none
def dyNon : PyData → Bool := dyK true false false false false false false
def dyLen : PyData → Option Int
  | .list xs => some (xs.length : Int)
  | .tuple xs => some (xs.length : Int)
  | _ => none
def dyIx (x : PyData) (k : Int) : Option PyData := match x with
  | .list xs => ixO xs k
  | .tuple xs => ixO xs k
  | _ => none
section
variable {K : PySem.W.Frag} {σ : St} {G H : Hp} {te ta tb : TE} {m : Option PyData} {x : PyData} {T : String} {b1 b2 b3 b4 b5 b6 : Bool}
theorem dy_ty {v : V} (s : Vw G H) (h : Dq K G v x) : TyX K H v (.type (dyTy x)) := by
  cases h with
  | non => exact .base .non
  | bl b => exact .base (.bl _)
  | int i => exact .base (.int _)
  | str x => exact .base (.str _)
  | lst e r => exact .base (.lst (s _ _ e))
  | tup e r => exact ty_tup (same_tup s e)
theorem se_isiY (h : SE K te σ G H m) (h1 : kitB "NoneType" T = some b1) (h2 : kitB "bool" T = some b2) (h3 : kitB "int" T = some b3) (h4 : kitB "str" T = some b4) (h5 : kitB "list" T = some b5) (h6 : kitB "tuple" T = some b6) :
    SE K (tCB (rIsi K) (tCons te (tCons (tC (.ty T)) tNil))) σ G H (m.bind fun d => some (dyK b1 b2 b3 b4 b5 b6 false d)) := fun G1 H1 e z hm Q q => by
  obtain ⟨d, hd, hm⟩ := bind_some hm
  cases hm
  refine h G1 H1 e d hd _ fun v G2 H2 e2 hv => ?_
  have hv : Dq K G2 v d := hv
  have ht := dy_ty e2.s hv
  cases hv with
  | non => exact ⟨_, .ty T, _, _, _, rfl, .ty T, ht, kit_ty h1, q _ G2 H2 e2 rfl⟩
  | bl b => exact ⟨_, .ty T, _, _, _, rfl, .ty T, ht, kit_ty h2, q _ G2 H2 e2 rfl⟩
  | int i => exact ⟨_, .ty T, _, _, _, rfl, .ty T, ht, kit_ty h3, q _ G2 H2 e2 rfl⟩
  | str x => exact ⟨_, .ty T, _, _, _, rfl, .ty T, ht, kit_ty h4, q _ G2 H2 e2 rfl⟩
  | lst e r => exact ⟨_, .ty T, _, _, _, rfl, .ty T, ht, kit_ty h5, q _ G2 H2 e2 rfl⟩
  | tup e r => exact ⟨_, .ty T, _, _, _, rfl, .ty T, ht, kit_ty h6, q _ G2 H2 e2 rfl⟩
theorem se_isiYp (h : SE K te σ G H (some x)) (h1 : kitB "NoneType" T = some b1) (h2 : kitB "bool" T = some b2) (h3 : kitB "int" T = some b3) (h4 : kitB "str" T = some b4) (h5 : kitB "list" T = some b5) (h6 : kitB "tuple" T = some b6) :
    SE K (tCB (rIsi K) (tCons te (tCons (tC (.ty T)) tNil))) σ G H (some (dyK b1 b2 b3 b4 b5 b6 false x)) := se_isiY h h1 h2 h3 h4 h5 h6
theorem ro_eqY : RO K (rEqD K) dyEq := fun {G H v w x y z} s hv hw hz Q q => by
  unfold dyEq at hz
  split at hz
  · rename_i hs
    obtain ⟨s1, s2⟩ := Bool.and_eq_true_iff.mp hs
    cases hz
    exact ⟨x, y, Dq.dp s.s _ _ hv, Dq.dp s.s _ _ hw, s1, s2, q _ G H (Ext.refl s) rfl⟩
  · cases hz
theorem ro_neY : RO K (rNeD K) dyNe := fun {G H v w x y z} s hv hw hz Q q => by
  unfold dyNe at hz
  split at hz
  · rename_i hs
    obtain ⟨s1, s2⟩ := Bool.and_eq_true_iff.mp hs
    cases hz
    exact ⟨x, y, Dq.dp s.s _ _ hv, Dq.dp s.s _ _ hw, s1, s2, q _ G H (Ext.refl s) rfl⟩
  · cases hz
theorem se_eqYp {a b : PyData} (ha : SE K ta σ G H (some a)) (hb : SE K tb σ G H (some b)) : SE K (tOp (rEqD K) ta tb) σ G H (dyEq a b) := se_opp ha hb ro_eqY
theorem se_neY {ma mb : Option PyData} (ha : SE K ta σ G H ma) (hb : SE K tb σ G H mb) : SE K (tOp (rNeD K) ta tb) σ G H (ma.bind fun x => mb.bind fun y => dyNe x y) := se_op ha hb ro_neY
/-- a cut out of a tuple -/
def dySl (x : PyData) (lo hi : Option Int) : Option PyData := match x with
  | .tuple xs => if xs.length ≤ 16000000 then some (.tuple (cutL xs lo hi)) else none
  | _ => none
instance : RpY TK := ⟨fun {_ _ _ x} ⟨a, e, h, l⟩ => by
  rw [e]
  exact .tup (SqT.of h) (dq_map (reps_ints x.l))⟩
end
section
variable {α : Type} [Rp α] {K : PySem.W.Frag} {σ : St} {G H : Hp} {te : TE}
end
/-! ### texts -/
def catS (x y : Str) : Option Str := if x.length + y.length ≤ 16000000 then some (x ++ y) else none
section
variable {K : PySem.W.Frag} {σ : St} {G H : Hp} {ta tb : TE}
theorem ro_catS : RO K (fun x y H Q => ∃ i j, x = .str i ∧ y = .str j ∧ i.length + j.length ≤ sizeLine ∧ Q (.str (i ++ j)) H) catS := fun {G H v w x y z} s hv hw hz Q q => by
  unfold catS at hz
  split at hz
  · rename_i hl
    cases hz
    exact ⟨x, y, hv, hw, by rw [sizeLine_eq]; omega, q _ G H (Ext.refl s) rfl⟩
  · cases hz
theorem se_catSp {a b : Str} (ha : SE K ta σ G H (some a)) (hb : SE K tb σ G H (some b)) : SE K (tOp (fun x y H Q => ∃ i j, x = .str i ∧ y = .str j ∧ i.length + j.length ≤ sizeLine ∧ Q (.str (i ++ j)) H) ta tb) σ G H (catS a b) := se_opp ha hb ro_catS
end
end Mi

namespace Mi
open PySem
namespace Mir
def c_SMALL_ : (TL Int) := ⟨[2, 3, 5, 7, 11, 13]⟩
def law_cell_at_ (law_script_ : (KL Int)) (law_k_ : Int) : Option Int :=
  (some (decide (law_k_ < (law_script_.l.length : Int)))).bind fun b => cond b (ixO law_script_.l law_k_) (some (0))
def law_big_ (law_cell_ : Int) (law_k_ : Int) : Option Int :=
  (some (decide (1000000000000000000 ≤ (law_cell_.natAbs : Int)))).bind fun b => cond b (some (law_cell_)) ((some (0)).bind fun law_number_ => (rangeO 0 9).bind fun xs => (forN (fun (s1 : Int) (i1 : Int) => ((((some ((law_cell_.natAbs : Int) % 2147483647)).bind fun x => (mulO 97 law_k_).bind fun y => some (x + y)).bind fun x => (mulO 131 i1).bind fun y => some (x + y)).bind fun x => (some (13)).bind fun y => some (x + y)).bind fun law_part_ => (((some (law_part_)).bind fun x => (((some (16807)).bind fun x => (mulO i1 i1).bind fun y => some (x + y)).bind fun x => (some (law_k_)).bind fun y => some (x + y)).bind fun y => mulO x y).bind fun x => some (x % 2147483647)).bind fun law_part_ => ((mulO s1 2147483659).bind fun x => ((mulO law_part_ 48271).bind fun x => some (x % 2147483647)).bind fun y => some (x + y)).bind fun law_number_ => some law_number_) xs law_number_).bind fun z1 => some (z1))
def law_small_ (law_cell_ : Int) : Option Int :=
  ((some (1)).bind fun x => (mulO 2 (law_cell_ % 2)).bind fun y => some (x - y)).bind fun law_number_ => (some (law_cell_ / 2)).bind fun law_bits_ => (some ([2, 3, 5, 7, 11, 13])).bind fun xs => (forN (fun (s1 : Int × Int) (i1 : Int) => ((some (decide ((s1.2 % 2) = 1))).bind fun b => cond b ((mulO s1.1 i1).bind fun law_number_ => some law_number_) (some s1.1)).bind fun s2 => (some (s1.2 / 2)).bind fun law_bits_ => some (s2, law_bits_)) xs (law_number_, law_bits_)).bind fun z1 => some (z1.1)
def law_row_ (law_cell_ : Int) (law_size_ : Int) : Option (List Int) :=
  (some ([])).bind fun law_row_here_ => (some (law_cell_)).bind fun law_rest_ => (rangeO 0 law_size_).bind fun xs => (forN (fun (s1 : (List Int) × Int) (i1 : Int) => (some (1)).bind fun law_root_ => ((some (decide (((s1.2 / 128) % 4) = 0))).bind fun b => cond b ((some (1 + ((s1.2 / 512) % 12))).bind fun law_root_ => some law_root_) (some law_root_)).bind fun s2 => (((Mir.law_small_ s1.2).bind fun x => (some (s2)).bind fun y => mulO x y).bind fun x => (some (s2)).bind fun y => mulO x y).bind fun x => (appO s1.1 x).bind fun law_row_here_ => (some (s1.2 / 6144)).bind fun law_rest_ => some (law_row_here_, law_rest_)) xs (law_row_here_, law_rest_)).bind fun z1 => some z1.1
def law_great_ (law_row_here_ : (List Int)) (law_cell_ : Int) : Option (List Int) :=
  (modO law_cell_ (law_row_here_.length : Int)).bind fun law_k_ => (ixO ([17, 19, 23, 97]) ((law_cell_ / 8) % 4)).bind fun law_prime_ => (some (law_row_here_)).bind fun law_great_here_ => ((ixO law_great_here_ law_k_).bind fun x => (some (law_prime_)).bind fun y => mulO x y).bind fun x => (some (law_k_)).bind fun j => (setO law_great_here_ j x).bind fun law_great_here_ => ((((ixO law_great_here_ law_k_).bind fun x => some ((x.natAbs : Int))).bind fun x => (some (1073741824)).bind fun y => some (decide (y ≤ x))).bind fun b => cond b ((some (law_prime_)).bind fun x => (some (law_k_)).bind fun j => (setO law_great_here_ j x).bind fun law_great_here_ => some law_great_here_) (some law_great_here_)).bind fun s1 => some s1
def is_row_ (row_ : (List Int)) : Option Bool :=
  (some ((decide ((row_.length : Int) < 1)) || (decide (8 < (row_.length : Int))))).bind fun b => cond b (some (false)) ((some (row_)).bind fun xs => (forR (fun (s1 : Unit) (i1 : Int) => (some ((!true) || (false || ((decide (i1 = 0)) || (decide (1073741824 ≤ (i1.natAbs : Int))))))).bind fun b => cond b ((some (false)).bind fun x => some (.rt x)) (some (.nx ()))) xs ()).bind fun o1 => Sum.elim (fun z1 => some (true)) (fun x => some x) o1)
def must_be_row_X (row_ : (List Int)) : Option (Rz Unit) :=
  ((Mir.is_row_ row_).bind fun b => some (!b)).bind fun b => cond b (some (.er .noRow)) (some (.ok ()))
noncomputable def tried_ (k_ : Int) : Option ((List (Int × Int)) × Int) :=
  (some ([])).bind fun found_ => (some (k_)).bind fun left_ => (some (2)).bind fun d_ => (whileN (fun (s1 : (List (Int × Int)) × Int × Int) => (some (decide (s1.2.2 < 32768))).bind fun b => cond b ((mulO s1.2.2 s1.2.2).bind fun x => (some (s1.2.1)).bind fun y => some (decide (x ≤ y))) (some false)) (fun (s1 : (List (Int × Int)) × Int × Int) => (some (0)).bind fun often_ => (whileN (fun (s2 : Int × Int) => (modO s2.1 s1.2.2).bind fun x => (some (0)).bind fun y => some (decide (x = y))) (fun (s2 : Int × Int) => (divO s2.1 s1.2.2).bind fun left_ => (some (1)).bind fun y3 => (some (s2.2 + y3)).bind fun often_ => some (left_, often_)) (s1.2.1, often_)).bind fun z2 => ((some (decide (0 < z2.2))).bind fun b => cond b ((some ((s1.2.2, z2.2))).bind fun x => (appO s1.1 x).bind fun found_ => some found_) (some s1.1)).bind fun s5 => (some ((s1.2.2 + 1) + (s1.2.2 % 2))).bind fun d_ => some (s5, z2.1, d_)) (found_, left_, d_)).bind fun z1 => ((some (decide (1 < z1.2.1) && decide (z1.2.1 < 32768))).bind fun b => cond b ((some ((z1.2.1, 1))).bind fun x => (appO z1.1 x).bind fun found_ => (some (1)).bind fun left_ => some (found_, left_)) (some (z1.1, z1.2.1))).bind fun s6 => (some (s6.2)).bind fun y => some (s6.1, y)
noncomputable def whole_root_ (k_ : Int) : Option Int :=
  (some (0)).bind fun low_ => (shlO 1 (((Builtin.Int.intBits k_ : Int) / 2) + 1)).bind fun high_ => (whileN (fun (s1 : Int × Int) => some (decide (1 < (s1.2 - s1.1)))) (fun (s1 : Int × Int) => (some ((s1.1 + s1.2) / 2)).bind fun middle_ => ((mulO middle_ middle_).bind fun x => (some (k_)).bind fun y => some (decide (x ≤ y))).bind fun b => cond b ((some (middle_)).bind fun low_ => some (low_, s1.2)) ((some (middle_)).bind fun high_ => some (s1.1, high_))) (low_, high_)).bind fun z1 => some (z1.1)
noncomputable def is_square_ (k_ : Int) : Option Bool :=
  ((Mir.whole_root_ k_).bind fun x => (Mir.whole_root_ k_).bind fun y => mulO x y).bind fun x => (some (k_)).bind fun y => some (decide (x = y))
noncomputable def free_of_ (k_ : Int) : Option Int :=
  (Mir.tried_ (k_.natAbs : Int)).bind fun t1 => ((Mir.is_square_ t1.2).bind fun b => cond b ((some (1)).bind fun left_ => some left_) (some t1.2)).bind fun s2 => (some (decide (1073741824 ≤ s2))).bind fun b => cond b (none) ((some (t1.1)).bind fun xs => (forN (fun (s3 : Int) (i3 : (Int × Int)) => (some (decide ((i3.2 % 2) = 1))).bind fun b => cond b ((mulO s3 i3.1).bind fun left_ => some left_) (some s3)) xs s2).bind fun z3 => (some (decide (k_ < 0))).bind fun b => cond b (some (0 - z3)) (some (z3)))
noncomputable def is_small_ (k_ : Int) : Option Bool :=
  (some ((decide (k_ = 0)) || (decide (1073741824 ≤ (k_.natAbs : Int))))).bind fun b => cond b (some (false)) (((Mir.free_of_ k_).bind fun x => some ((x.natAbs : Int))).bind fun free_ => ((some (Mir.c_SMALL_)).bind fun t => some t.l).bind fun xs => (forN (fun (s1 : Int) (i1 : Int) => ((modO s1 i1).bind fun x => (some (0)).bind fun y => some (decide (x = y))).bind fun b => cond b ((divO s1 i1).bind fun free_ => some free_) (some s1)) xs free_).bind fun z1 => some (decide (z1 = 1)))
noncomputable def must_be_small_X (row_ : (List Int)) : Option (Rz Unit) :=
  (errE (Mir.must_be_row_X row_)).bind fun o => Option.elim o ((valE (Mir.must_be_row_X row_)).bind fun u1 => (some (row_)).bind fun xs => (forR (fun (s2 : Unit) (i2 : Int) => ((Mir.is_small_ i2).bind fun b => some (!b)).bind fun b => cond b (some (.rt (.er .tooGreat))) (some (.nx ()))) xs ()).bind fun o2 => Sum.elim (fun z2 => some (.ok ())) (fun x => some x) o2) (fun j => some (.er j))
noncomputable def zero_of_X (row_ : (List Int)) : Option (Rz Unit) :=
  (errE (Mir.must_be_small_X row_)).bind fun o => Option.elim o ((valE (Mir.must_be_small_X row_)).bind fun u1 => none) (fun j => some (.er j))
noncomputable def values_for_X (row_ : (List Int)) (c_ : Int) : Option (Rz Unit) :=
  (errE (Mir.must_be_small_X row_)).bind fun o => Option.elim o ((valE (Mir.must_be_small_X row_)).bind fun u1 => ((Mir.is_small_ c_).bind fun b => some (!b)).bind fun b => cond b (some (.er .tooGreat)) (none)) (fun j => some (.er j))
def zero_of_two_X (row_ : (List Int)) : Option (Rz Unit) :=
  (errE (Mir.must_be_row_X row_)).bind fun o => Option.elim o ((valE (Mir.must_be_row_X row_)).bind fun u1 => none) (fun j => some (.er j))
def zero_of_three_X (row_ : (List Int)) : Option (Rz Unit) :=
  (errE (Mir.must_be_row_X row_)).bind fun o => Option.elim o ((valE (Mir.must_be_row_X row_)).bind fun u1 => none) (fun j => some (.er j))
def law_word_ (law_e_ : Err) : Option Str :=
  (some ((Str.ofString ""))).bind fun law_words_ => ((some ((Err.isa law_e_ .tooGreat))).bind fun b => cond b ((catS law_words_ (Str.ofString "great")).bind fun law_words_ => some law_words_) (some law_words_)).bind fun s1 => ((some ((Err.isa law_e_ .noRow))).bind fun b => cond b ((catS s1 (Str.ofString "row")).bind fun law_words_ => some law_words_) (some s1)).bind fun s2 => ((some ((Err.isa law_e_ .noStep) || (Err.isa law_e_ .noText))).bind fun b => cond b ((catS s2 (Str.ofString "other")).bind fun law_words_ => some law_words_) (some s2)).bind fun s3 => some (s3)
noncomputable def law_asked_ (law_row_here_ : (List Int)) (law_c_ : Int) (law_way_ : Int) : Option (List PyData) :=
  (some (law_row_here_)).bind fun law_handed_ => (((some (decide (law_way_ = 0))).bind fun b => cond b ((errE (Mir.zero_of_X law_handed_)).bind fun o => Option.elim o ((valE (Mir.zero_of_X law_handed_)).bind fun u2 => some (.nx ())) (fun j => some (.er j))) ((some (decide (law_way_ = 1))).bind fun b => cond b ((errE (Mir.values_for_X law_handed_ law_c_)).bind fun o => Option.elim o ((valE (Mir.values_for_X law_handed_ law_c_)).bind fun u3 => some (.nx ())) (fun j => some (.er j))) ((some (decide ((law_row_here_.length : Int) = 2))).bind fun b => cond b ((errE (Mir.zero_of_two_X law_handed_)).bind fun o => Option.elim o ((valE (Mir.zero_of_two_X law_handed_)).bind fun u4 => some (.nx ())) (fun j => some (.er j))) ((errE (Mir.zero_of_three_X law_handed_)).bind fun o => Option.elim o ((valE (Mir.zero_of_three_X law_handed_)).bind fun u5 => some (.nx ())) (fun j => some (.er j)))))).bind fun t1 => tryE (fun j => cond (Err.isa j .formError) ((((Mir.law_word_ j).bind fun x => some (((PyOf.py : Str → PyData) x))).bind fun x => (some ((PyData.bool (decide (law_handed_ = law_row_here_))) :: [])).bind fun xs => some (x :: xs)).bind fun x => some (.rt x)) (none)) t1).bind fun f1 => flE (fun s1 => some ([((PyOf.py : Str → PyData) (Str.ofString "told")), (PyData.bool (decide (law_handed_ = law_row_here_)))])) (fun x => some x) f1
def law_no_row_ (law_row_here_ : (List Int)) (law_cell_ : Int) : Option (List PyData) :=
  (modO law_cell_ (law_row_here_.length : Int)).bind fun law_k_ => (some ((law_cell_ / 64) % 100000000000000000000)).bind fun law_far_ => (ixO ([(PyData.int 0), (PyData.int 1073741824), (PyData.int (1073741824 + law_far_)), (PyData.int ((-1073741824) - law_far_)), (PyData.bool true), (PyData.bool false), PyData.none, ((PyOf.py : Str → PyData) (Str.ofString "1"))]) ((law_cell_ / 8) % 8)).bind fun law_thing_ => (some (decide (((law_cell_ / 512) % 8) = 0))).bind fun b => cond b (some ([])) ((some (decide (((law_cell_ / 512) % 8) = 1))).bind fun b => cond b (some (((List.map (PyOf.py : Int → PyData)) ([1, -1, 2, -2, 3, -3, 5, -5, 7])))) ((catO ((List.map (PyOf.py : Int → PyData)) (cutL law_row_here_ (none) (some law_k_))) ([law_thing_])).bind fun x => (some (((List.map (PyOf.py : Int → PyData)) (cutL law_row_here_ (some (law_k_ + 1)) (none))))).bind fun y => catO x y))
def is_row__2 (row_ : (List PyData)) : Option Bool :=
  (some ((decide ((row_.length : Int) < 1)) || (decide (8 < (row_.length : Int))))).bind fun b => cond b (some (false)) ((some (row_)).bind fun xs => (forR (fun (s1 : Unit) (i1 : PyData) => ((some (!(dyK false true true false false false false i1))).bind fun b => cond b (some true) ((some (dyK false true false false false false false i1)).bind fun b => cond b (some true) ((dyEq i1 (PyData.int 0)).bind fun b => cond b (some true) (((dyI i1).bind fun x => some ((x.natAbs : Int))).bind fun x => (some (1073741824)).bind fun y => some (decide (y ≤ x)))))).bind fun b => cond b ((some (false)).bind fun x => some (.rt x)) (some (.nx ()))) xs ()).bind fun o1 => Sum.elim (fun z1 => some (true)) (fun x => some x) o1)
def must_be_row_X_2 (row_ : (List PyData)) : Option (Rz Unit) :=
  ((Mir.is_row__2 row_).bind fun b => some (!b)).bind fun b => cond b (some (.er .noRow)) (some (.ok ()))
noncomputable def free_of__2 (k_ : PyData) : Option Int :=
  (((dyI k_).bind fun x => some ((x.natAbs : Int))).bind fun x0 => Mir.tried_ x0).bind fun t1 => ((Mir.is_square_ t1.2).bind fun b => cond b ((some (1)).bind fun left_ => some left_) (some t1.2)).bind fun s2 => (some (decide (1073741824 ≤ s2))).bind fun b => cond b (none) ((some (t1.1)).bind fun xs => (forN (fun (s3 : Int) (i3 : (Int × Int)) => (some (decide ((i3.2 % 2) = 1))).bind fun b => cond b ((mulO s3 i3.1).bind fun left_ => some left_) (some s3)) xs s2).bind fun z3 => ((dyI k_).bind fun x => (some (0)).bind fun y => some (decide (x < y))).bind fun b => cond b (some (0 - z3)) (some (z3)))
noncomputable def is_small__2 (k_ : PyData) : Option Bool :=
  ((dyEq k_ (PyData.int 0)).bind fun b => cond b (some true) (((dyI k_).bind fun x => some ((x.natAbs : Int))).bind fun x => (some (1073741824)).bind fun y => some (decide (y ≤ x)))).bind fun b => cond b (some (false)) (((Mir.free_of__2 k_).bind fun x => some ((x.natAbs : Int))).bind fun free_ => ((some (Mir.c_SMALL_)).bind fun t => some t.l).bind fun xs => (forN (fun (s1 : Int) (i1 : Int) => ((modO s1 i1).bind fun x => (some (0)).bind fun y => some (decide (x = y))).bind fun b => cond b ((divO s1 i1).bind fun free_ => some free_) (some s1)) xs free_).bind fun z1 => some (decide (z1 = 1)))
noncomputable def must_be_small_X_2 (row_ : (List PyData)) : Option (Rz Unit) :=
  (errE (Mir.must_be_row_X_2 row_)).bind fun o => Option.elim o ((valE (Mir.must_be_row_X_2 row_)).bind fun u1 => (some (row_)).bind fun xs => (forR (fun (s2 : Unit) (i2 : PyData) => ((Mir.is_small__2 i2).bind fun b => some (!b)).bind fun b => cond b (some (.rt (.er .tooGreat))) (some (.nx ()))) xs ()).bind fun o2 => Sum.elim (fun z2 => some (.ok ())) (fun x => some x) o2) (fun j => some (.er j))
noncomputable def zero_of_X_2 (row_ : (List PyData)) : Option (Rz Unit) :=
  (errE (Mir.must_be_small_X_2 row_)).bind fun o => Option.elim o ((valE (Mir.must_be_small_X_2 row_)).bind fun u1 => none) (fun j => some (.er j))
noncomputable def values_for_X_2 (row_ : (List PyData)) (c_ : Int) : Option (Rz Unit) :=
  (errE (Mir.must_be_small_X_2 row_)).bind fun o => Option.elim o ((valE (Mir.must_be_small_X_2 row_)).bind fun u1 => ((Mir.is_small_ c_).bind fun b => some (!b)).bind fun b => cond b (some (.er .tooGreat)) (none)) (fun j => some (.er j))
def zero_of_two_X_2 (row_ : (List PyData)) : Option (Rz Unit) :=
  (errE (Mir.must_be_row_X_2 row_)).bind fun o => Option.elim o ((valE (Mir.must_be_row_X_2 row_)).bind fun u1 => none) (fun j => some (.er j))
def zero_of_three_X_2 (row_ : (List PyData)) : Option (Rz Unit) :=
  (errE (Mir.must_be_row_X_2 row_)).bind fun o => Option.elim o ((valE (Mir.must_be_row_X_2 row_)).bind fun u1 => none) (fun j => some (.er j))
noncomputable def law_asked__2 (law_row_here_ : (List PyData)) (law_c_ : Int) (law_way_ : Int) : Option (List PyData) :=
  (some (law_row_here_)).bind fun law_handed_ => (((some (decide (law_way_ = 0))).bind fun b => cond b ((errE (Mir.zero_of_X_2 law_handed_)).bind fun o => Option.elim o ((valE (Mir.zero_of_X_2 law_handed_)).bind fun u2 => some (.nx ())) (fun j => some (.er j))) ((some (decide (law_way_ = 1))).bind fun b => cond b ((errE (Mir.values_for_X_2 law_handed_ law_c_)).bind fun o => Option.elim o ((valE (Mir.values_for_X_2 law_handed_ law_c_)).bind fun u3 => some (.nx ())) (fun j => some (.er j))) ((some (decide ((law_row_here_.length : Int) = 2))).bind fun b => cond b ((errE (Mir.zero_of_two_X_2 law_handed_)).bind fun o => Option.elim o ((valE (Mir.zero_of_two_X_2 law_handed_)).bind fun u4 => some (.nx ())) (fun j => some (.er j))) ((errE (Mir.zero_of_three_X_2 law_handed_)).bind fun o => Option.elim o ((valE (Mir.zero_of_three_X_2 law_handed_)).bind fun u5 => some (.nx ())) (fun j => some (.er j)))))).bind fun t1 => tryE (fun j => cond (Err.isa j .formError) ((((Mir.law_word_ j).bind fun x => some (((PyOf.py : Str → PyData) x))).bind fun x => (((dyEq ((PyOf.py : (List PyData) → PyData) law_handed_) ((PyOf.py : (List PyData) → PyData) law_row_here_)).bind fun x => some ((PyData.bool x))).bind fun x => (some ([])).bind fun xs => some (x :: xs)).bind fun xs => some (x :: xs)).bind fun x => some (.rt x)) (none)) t1).bind fun f1 => flE (fun s1 => (some (((PyOf.py : Str → PyData) (Str.ofString "told")))).bind fun x => (((dyEq ((PyOf.py : (List PyData) → PyData) law_handed_) ((PyOf.py : (List PyData) → PyData) law_row_here_)).bind fun x => some ((PyData.bool x))).bind fun x => (some ([])).bind fun xs => some (x :: xs)).bind fun xs => some (x :: xs)) (fun x => some x) f1
def stepped_X (row_ : (List PyData)) (step_ : (T4 Int Int (Int × Int) (Int × Int))) : Option (Rz Unit) :=
  (errE (Mir.must_be_row_X_2 row_)).bind fun o => Option.elim o ((valE (Mir.must_be_row_X_2 row_)).bind fun u1 => none) (fun j => some (.er j))
def change_of_X (row_ : (List PyData)) (step_ : (T4 Int Int (Int × Int) (Int × Int))) : Option (Rz Unit) :=
  (errE (Mir.must_be_row_X_2 row_)).bind fun o => Option.elim o ((valE (Mir.must_be_row_X_2 row_)).bind fun u1 => none) (fun j => some (.er j))
def all_stepped_X (row_ : (List PyData)) (steps_ : (List Int)) : Option (Rz Unit) :=
  (errE (Mir.must_be_row_X_2 row_)).bind fun o => Option.elim o ((valE (Mir.must_be_row_X_2 row_)).bind fun u1 => none) (fun j => some (.er j))
noncomputable def parts_ (k_ : Int) : Option (List (Int × Int)) :=
  (Mir.tried_ k_).bind fun t1 => ((some (decide (1 < t1.2))).bind fun b => cond b ((some ((t1.2, 1))).bind fun x => (appO t1.1 x).bind fun found_ => some found_) (some t1.1)).bind fun s2 => some s2
noncomputable def places_of_ (numbers_ : (List PyData)) : Option (List Int) :=
  (some (dmk [(0, true), (2, true)])).bind fun found_ => (some (numbers_)).bind fun xs => (forN (fun (s1 : (DI Bool)) (i1 : PyData) => (((dyI i1).bind fun x => some ((x.natAbs : Int))).bind fun x0 => Mir.parts_ x0).bind fun xs => (forN (fun (s2 : (DI Bool)) (i2 : (Int × Int)) => (some (true)).bind fun x => (some (i2.1)).bind fun j => (dputO s2 j x).bind fun found_ => some found_) xs s1).bind fun z2 => some z2) xs found_).bind fun z1 => dsortO z1
noncomputable def split_at_ (k_ : PyData) (p_ : Int) : Option (Int × PyData) :=
  (some (0)).bind fun often_ => (whileN (fun (s1 : PyData × Int) => ((dyI s1.1).bind fun x => (some (p_)).bind fun y => modO x y).bind fun x => (some (0)).bind fun y => some (decide (x = y))) (fun (s1 : PyData × Int) => (((dyI s1.1).bind fun x => (some (p_)).bind fun y => divO x y).bind fun x => some ((PyData.int x))).bind fun k_ => (some (1)).bind fun y2 => (some (s1.2 + y2)).bind fun often_ => some (k_, often_)) (k_, often_)).bind fun z1 => some ((z1.2, z1.1))
noncomputable def turns_at_two_ (a_ : PyData) (b_ : PyData) : Option Int :=
  (Mir.split_at_ a_ 2).bind fun t1 => (Mir.split_at_ b_ 2).bind fun t2 => ((((dyI t1.2).bind fun x => (some (1)).bind fun y => some (x - y)).bind fun x => some (x / 2)).bind fun x => (((dyI t2.2).bind fun x => (some (1)).bind fun y => some (x - y)).bind fun x => some (x / 2)).bind fun y => mulO x y).bind fun turns_ => ((some (t1.1)).bind fun x => ((((dyI t2.2).bind fun x => (dyI t2.2).bind fun y => mulO x y).bind fun x => (some (1)).bind fun y => some (x - y)).bind fun x => some (x / 8)).bind fun y => mulO x y).bind fun y3 => (some (turns_ + y3)).bind fun turns_ => ((some (t2.1)).bind fun x => ((((dyI t1.2).bind fun x => (dyI t1.2).bind fun y => mulO x y).bind fun x => (some (1)).bind fun y => some (x - y)).bind fun x => some (x / 8)).bind fun y => mulO x y).bind fun y5 => (some (turns_ + y5)).bind fun turns_ => some (turns_)
noncomputable def power_by_ (k_ : PyData) (often_ : Int) (m_ : Int) : Option Int :=
  (modO 1 m_).bind fun found_ => ((dyI k_).bind fun x => (some (m_)).bind fun y => modO x y).bind fun base_ => (whileN (fun (s1 : Int × Int × Int) => some (decide (0 < s1.1))) (fun (s1 : Int × Int × Int) => ((some (decide ((s1.1 % 2) = 1))).bind fun b => cond b (((mulO s1.2.1 s1.2.2).bind fun x => (some (m_)).bind fun y => modO x y).bind fun found_ => some found_) (some s1.2.1)).bind fun s2 => ((mulO s1.2.2 s1.2.2).bind fun x => (some (m_)).bind fun y => modO x y).bind fun base_ => (some (s1.1 / 2)).bind fun often_ => some (often_, s2, base_)) (often_, found_, base_)).bind fun z1 => some (z1.2.1)
noncomputable def square_by_ (k_ : PyData) (p_ : Int) : Option Int :=
  (((dyI k_).bind fun x => (some (p_)).bind fun y => modO x y).bind fun x => (some (0)).bind fun y => some (decide (x = y))).bind fun b => cond b (some (0)) (((some (decide (p_ = 2))).bind fun b => cond b (some true) ((Mir.power_by_ k_ ((p_ - 1) / 2) p_).bind fun x => (some (1)).bind fun y => some (decide (x = y)))).bind fun b => cond b (some (1)) (some (-1)))
noncomputable def turns_at_odd_ (a_ : PyData) (b_ : PyData) (p_ : Int) : Option Int :=
  (Mir.split_at_ a_ p_).bind fun t1 => (Mir.split_at_ b_ p_).bind fun t2 => ((mulO t1.1 t2.1).bind fun x => (some ((p_ - 1) / 2)).bind fun y => mulO x y).bind fun turns_ => (((Mir.square_by_ t1.2 p_).bind fun x => (some (-1)).bind fun y => some (decide (x = y))).bind fun b => cond b ((some (t2.1)).bind fun y4 => (some (turns_ + y4)).bind fun turns_ => some turns_) (some turns_)).bind fun s3 => (((Mir.square_by_ t2.2 p_).bind fun x => (some (-1)).bind fun y => some (decide (x = y))).bind fun b => cond b ((some (t1.1)).bind fun y7 => (some (s3 + y7)).bind fun turns_ => some turns_) (some s3)).bind fun s6 => some (s6)
noncomputable def says_ (a_ : PyData) (b_ : PyData) (p_ : Int) : Option Bool :=
  (some (decide (p_ = 0))).bind fun b => cond b (((dyI a_).bind fun x => (some (0)).bind fun y => some (decide (y < x))).bind fun b => cond b (some true) ((dyI b_).bind fun x => (some (0)).bind fun y => some (decide (y < x)))) ((some (decide (p_ = 2))).bind fun b => cond b (((Mir.turns_at_two_ a_ b_).bind fun x => some (x % 2)).bind fun x => (some (0)).bind fun y => some (decide (x = y))) (((Mir.turns_at_odd_ a_ b_ p_).bind fun x => some (x % 2)).bind fun x => (some (0)).bind fun y => some (decide (x = y))))
noncomputable def is_odd_at_ (row_ : (List PyData)) (p_ : Int) : Option Bool :=
  (some (0)).bind fun noes_ => (rangeO 0 (row_.length : Int)).bind fun xs => (forN (fun (s1 : Int) (i1 : Int) => (rangeO (i1 + 1) (row_.length : Int)).bind fun xs => (forN (fun (s2 : Int) (i2 : Int) => (((ixO row_ i1).bind fun x0 => (ixO row_ i2).bind fun x1 => (some (p_)).bind fun x2 => Mir.says_ x0 x1 x2).bind fun b => some (!b)).bind fun b => cond b ((some (1)).bind fun y3 => (some (s2 + y3)).bind fun noes_ => some noes_) (some s2)) xs s1).bind fun z2 => some z2) xs noes_).bind fun z1 => some (decide ((z1 % 2) = 1))
noncomputable def noes_of_X (row_ : (List PyData)) : Option (Rz (List Int)) :=
  (errE (Mir.must_be_row_X_2 row_)).bind fun o => Option.elim o ((valE (Mir.must_be_row_X_2 row_)).bind fun u1 => ((Mir.places_of_ row_).bind fun xs => filO (fun p_ => Mir.is_odd_at_ row_ p_) (fun p_ => some (p_)) xs).bind fun x => some (.ok x)) (fun j => some (.er j))
noncomputable def how_many_pairs_X (row_ : (List PyData)) : Option (Rz Unit) :=
  (errE (Mir.noes_of_X row_)).bind fun o => Option.elim o ((valE (Mir.noes_of_X row_)).bind fun noes_ => none) (fun j => some (.er j))
noncomputable def must_be_free_X (row_ : (List PyData)) (most_ : Int) : Option (Rz Unit) :=
  (errE (Mir.must_be_small_X_2 row_)).bind fun o => Option.elim o ((valE (Mir.must_be_small_X_2 row_)).bind fun u1 => none) (fun j => some (.er j))
noncomputable def parted_X (row_ : (List PyData)) : Option (Rz Unit) :=
  (errE (Mir.must_be_free_X row_ 4)).bind fun o => Option.elim o ((valE (Mir.must_be_free_X row_ 4)).bind fun u1 => none) (fun j => some (.er j))
def leading_X (one_ : (List PyData)) (other_ : (List Int)) : Option (Rz Unit) :=
  (errE (Mir.must_be_row_X_2 one_)).bind fun o => Option.elim o ((valE (Mir.must_be_row_X_2 one_)).bind fun u1 => (errE (Mir.must_be_row_X other_)).bind fun o => Option.elim o ((valE (Mir.must_be_row_X other_)).bind fun u2 => none) (fun j => some (.er j))) (fun j => some (.er j))
def leading_X_2 (one_ : (List Int)) (other_ : (List PyData)) : Option (Rz Unit) :=
  (errE (Mir.must_be_row_X one_)).bind fun o => Option.elim o ((valE (Mir.must_be_row_X one_)).bind fun u1 => (errE (Mir.must_be_row_X_2 other_)).bind fun o => Option.elim o ((valE (Mir.must_be_row_X_2 other_)).bind fun u2 => none) (fun j => some (.er j))) (fun j => some (.er j))
noncomputable def places_of__2 (numbers_ : (List Int)) : Option (List Int) :=
  (some (dmk [(0, true), (2, true)])).bind fun found_ => (some (numbers_)).bind fun xs => (forN (fun (s1 : (DI Bool)) (i1 : Int) => (Mir.parts_ (i1.natAbs : Int)).bind fun xs => (forN (fun (s2 : (DI Bool)) (i2 : (Int × Int)) => (some (true)).bind fun x => (some (i2.1)).bind fun j => (dputO s2 j x).bind fun found_ => some found_) xs s1).bind fun z2 => some z2) xs found_).bind fun z1 => dsortO z1
noncomputable def split_at__2 (k_ : Int) (p_ : Int) : Option (Int × Int) :=
  (some (0)).bind fun often_ => (whileN (fun (s1 : Int × Int) => (modO s1.1 p_).bind fun x => (some (0)).bind fun y => some (decide (x = y))) (fun (s1 : Int × Int) => (divO s1.1 p_).bind fun k_ => (some (1)).bind fun y2 => (some (s1.2 + y2)).bind fun often_ => some (k_, often_)) (k_, often_)).bind fun z1 => some ((z1.2, z1.1))
noncomputable def turns_at_two__2 (a_ : Int) (b_ : Int) : Option Int :=
  (Mir.split_at__2 a_ 2).bind fun t1 => (Mir.split_at__2 b_ 2).bind fun t2 => (mulO ((t1.2 - 1) / 2) ((t2.2 - 1) / 2)).bind fun turns_ => ((some (t1.1)).bind fun x => (((mulO t2.2 t2.2).bind fun x => (some (1)).bind fun y => some (x - y)).bind fun x => some (x / 8)).bind fun y => mulO x y).bind fun y3 => (some (turns_ + y3)).bind fun turns_ => ((some (t2.1)).bind fun x => (((mulO t1.2 t1.2).bind fun x => (some (1)).bind fun y => some (x - y)).bind fun x => some (x / 8)).bind fun y => mulO x y).bind fun y5 => (some (turns_ + y5)).bind fun turns_ => some (turns_)
noncomputable def power_by__2 (k_ : Int) (often_ : Int) (m_ : Int) : Option Int :=
  (modO 1 m_).bind fun found_ => (modO k_ m_).bind fun base_ => (whileN (fun (s1 : Int × Int × Int) => some (decide (0 < s1.1))) (fun (s1 : Int × Int × Int) => ((some (decide ((s1.1 % 2) = 1))).bind fun b => cond b (((mulO s1.2.1 s1.2.2).bind fun x => (some (m_)).bind fun y => modO x y).bind fun found_ => some found_) (some s1.2.1)).bind fun s2 => ((mulO s1.2.2 s1.2.2).bind fun x => (some (m_)).bind fun y => modO x y).bind fun base_ => (some (s1.1 / 2)).bind fun often_ => some (often_, s2, base_)) (often_, found_, base_)).bind fun z1 => some (z1.2.1)
noncomputable def square_by__2 (k_ : Int) (p_ : Int) : Option Int :=
  ((modO k_ p_).bind fun x => (some (0)).bind fun y => some (decide (x = y))).bind fun b => cond b (some (0)) (((some (decide (p_ = 2))).bind fun b => cond b (some true) ((Mir.power_by__2 k_ ((p_ - 1) / 2) p_).bind fun x => (some (1)).bind fun y => some (decide (x = y)))).bind fun b => cond b (some (1)) (some (-1)))
noncomputable def turns_at_odd__2 (a_ : Int) (b_ : Int) (p_ : Int) : Option Int :=
  (Mir.split_at__2 a_ p_).bind fun t1 => (Mir.split_at__2 b_ p_).bind fun t2 => ((mulO t1.1 t2.1).bind fun x => (some ((p_ - 1) / 2)).bind fun y => mulO x y).bind fun turns_ => (((Mir.square_by__2 t1.2 p_).bind fun x => (some (-1)).bind fun y => some (decide (x = y))).bind fun b => cond b ((some (t2.1)).bind fun y4 => (some (turns_ + y4)).bind fun turns_ => some turns_) (some turns_)).bind fun s3 => (((Mir.square_by__2 t2.2 p_).bind fun x => (some (-1)).bind fun y => some (decide (x = y))).bind fun b => cond b ((some (t1.1)).bind fun y7 => (some (s3 + y7)).bind fun turns_ => some turns_) (some s3)).bind fun s6 => some (s6)
noncomputable def says__2 (a_ : Int) (b_ : Int) (p_ : Int) : Option Bool :=
  (some (decide (p_ = 0))).bind fun b => cond b (some ((decide (0 < a_)) || (decide (0 < b_)))) ((some (decide (p_ = 2))).bind fun b => cond b (((Mir.turns_at_two__2 a_ b_).bind fun x => some (x % 2)).bind fun x => (some (0)).bind fun y => some (decide (x = y))) (((Mir.turns_at_odd__2 a_ b_ p_).bind fun x => some (x % 2)).bind fun x => (some (0)).bind fun y => some (decide (x = y))))
noncomputable def is_odd_at__2 (row_ : (List Int)) (p_ : Int) : Option Bool :=
  (some (0)).bind fun noes_ => (rangeO 0 (row_.length : Int)).bind fun xs => (forN (fun (s1 : Int) (i1 : Int) => (rangeO (i1 + 1) (row_.length : Int)).bind fun xs => (forN (fun (s2 : Int) (i2 : Int) => (((ixO row_ i1).bind fun x0 => (ixO row_ i2).bind fun x1 => (some (p_)).bind fun x2 => Mir.says__2 x0 x1 x2).bind fun b => some (!b)).bind fun b => cond b ((some (1)).bind fun y3 => (some (s2 + y3)).bind fun noes_ => some noes_) (some s2)) xs s1).bind fun z2 => some z2) xs noes_).bind fun z1 => some (decide ((z1 % 2) = 1))
noncomputable def noes_of_X_2 (row_ : (List Int)) : Option (Rz (List Int)) :=
  (errE (Mir.must_be_row_X row_)).bind fun o => Option.elim o ((valE (Mir.must_be_row_X row_)).bind fun u1 => ((Mir.places_of__2 row_).bind fun xs => filO (fun p_ => Mir.is_odd_at__2 row_ p_) (fun p_ => some (p_)) xs).bind fun x => some (.ok x)) (fun j => some (.er j))
noncomputable def parting_X (one_ : (List PyData)) (other_ : (List Int)) : Option (Rz Unit) :=
  (errE (Mir.noes_of_X one_)).bind fun o => Option.elim o ((valE (Mir.noes_of_X one_)).bind fun noes_ => (errE (Mir.noes_of_X_2 other_)).bind fun o => Option.elim o ((valE (Mir.noes_of_X_2 other_)).bind fun others_ => none) (fun j => some (.er j))) (fun j => some (.er j))
noncomputable def parting_X_2 (one_ : (List Int)) (other_ : (List PyData)) : Option (Rz Unit) :=
  (errE (Mir.noes_of_X_2 one_)).bind fun o => Option.elim o ((valE (Mir.noes_of_X_2 one_)).bind fun noes_ => (errE (Mir.noes_of_X other_)).bind fun o => Option.elim o ((valE (Mir.noes_of_X other_)).bind fun others_ => none) (fun j => some (.er j))) (fun j => some (.er j))
def point_of_X (row_ : (List PyData)) (zero_ : (List Int)) (line_ : (Int × Int)) : Option (Rz Unit) :=
  (errE (Mir.must_be_row_X_2 row_)).bind fun o => Option.elim o ((valE (Mir.must_be_row_X_2 row_)).bind fun u1 => none) (fun j => some (.er j))
def line_of_X (row_ : (List PyData)) (zero_ : (List Int)) (point_ : (List Int)) : Option (Rz Unit) :=
  (errE (Mir.must_be_row_X_2 row_)).bind fun o => Option.elim o ((valE (Mir.must_be_row_X_2 row_)).bind fun u1 => none) (fun j => some (.er j))
noncomputable def law_door_X (law_bad_ : (List PyData)) (law_door_here_ : Int) : Option (Rz Unit) :=
  (some ((T4.mk 0 1 (1, 1) (0, 1)))).bind fun law_step_ => (some (decide (law_door_here_ = 0))).bind fun b => cond b ((errE (Mir.stepped_X law_bad_ law_step_)).bind fun o => Option.elim o ((valE (Mir.stepped_X law_bad_ law_step_)).bind fun x => some (.ok x)) (fun j => some (.er j))) ((some (decide (law_door_here_ = 1))).bind fun b => cond b ((errE (Mir.change_of_X law_bad_ law_step_)).bind fun o => Option.elim o ((valE (Mir.change_of_X law_bad_ law_step_)).bind fun x => some (.ok x)) (fun j => some (.er j))) ((some (decide (law_door_here_ = 2))).bind fun b => cond b ((errE (Mir.all_stepped_X law_bad_ ([]))).bind fun o => Option.elim o ((valE (Mir.all_stepped_X law_bad_ ([]))).bind fun x => some (.ok x)) (fun j => some (.er j))) ((some (decide (law_door_here_ = 3))).bind fun b => cond b ((errE (Mir.how_many_pairs_X law_bad_)).bind fun o => Option.elim o ((valE (Mir.how_many_pairs_X law_bad_)).bind fun x => some (.ok x)) (fun j => some (.er j))) ((some (decide (law_door_here_ = 4))).bind fun b => cond b ((errE (Mir.parted_X law_bad_)).bind fun o => Option.elim o ((valE (Mir.parted_X law_bad_)).bind fun x => some (.ok x)) (fun j => some (.er j))) ((some (decide (law_door_here_ = 5))).bind fun b => cond b ((errE (Mir.leading_X law_bad_ ([1]))).bind fun o => Option.elim o ((valE (Mir.leading_X law_bad_ ([1]))).bind fun x => some (.ok x)) (fun j => some (.er j))) ((some (decide (law_door_here_ = 6))).bind fun b => cond b (((ixO ([[1], [17], [4], [1, 1, 1, 2]]) ((law_bad_.length : Int) % 4)).bind fun x0 => (some (law_bad_)).bind fun x1 => errE (Mir.leading_X_2 x0 x1)).bind fun o => Option.elim o (((ixO ([[1], [17], [4], [1, 1, 1, 2]]) ((law_bad_.length : Int) % 4)).bind fun x0 => (some (law_bad_)).bind fun x1 => valE (Mir.leading_X_2 x0 x1)).bind fun x => some (.ok x)) (fun j => some (.er j))) ((some (decide (law_door_here_ = 7))).bind fun b => cond b ((errE (Mir.parting_X law_bad_ ([1]))).bind fun o => Option.elim o ((valE (Mir.parting_X law_bad_ ([1]))).bind fun x => some (.ok x)) (fun j => some (.er j))) ((some (decide (law_door_here_ = 8))).bind fun b => cond b ((errE (Mir.parting_X_2 ([1]) law_bad_)).bind fun o => Option.elim o ((valE (Mir.parting_X_2 ([1]) law_bad_)).bind fun x => some (.ok x)) (fun j => some (.er j))) ((some (decide (law_door_here_ = 9))).bind fun b => cond b ((errE (Mir.point_of_X law_bad_ ([1, 1, 0]) (1, 0))).bind fun o => Option.elim o ((valE (Mir.point_of_X law_bad_ ([1, 1, 0]) (1, 0))).bind fun x => some (.ok x)) (fun j => some (.er j))) ((errE (Mir.line_of_X law_bad_ ([1, 1, 0]) ([1, 1, 0]))).bind fun o => Option.elim o ((valE (Mir.line_of_X law_bad_ ([1, 1, 0]) ([1, 1, 0]))).bind fun x => some (.ok x)) (fun j => some (.er j))))))))))))
noncomputable def law_doors_ (law_bad_ : (List PyData)) : Option Bool :=
  (rangeO 0 11).bind fun xs => (forR (fun (s1 : Unit) (i1 : Int) => (some ((Str.ofString "told"))).bind fun law_word_here_ => (some ((decide (i1 < 9)) || (decide ((law_bad_.length : Int) = 3)))).bind fun b => cond b ((((errE (Mir.law_door_X law_bad_ i1)).bind fun o => Option.elim o ((valE (Mir.law_door_X law_bad_ i1)).bind fun u3 => some (.nx law_word_here_)) (fun j => some (.er j))).bind fun t2 => tryE (fun j => cond (Err.isa j .formError) ((Mir.law_word_ j).bind fun law_word_here_ => some (.nx law_word_here_)) (none)) t2).bind fun f2 => flE (fun s2 => (some (!decide (s2 = (Str.ofString "row")))).bind fun b => cond b ((some (false)).bind fun x => some (.rt x)) (some (.nx ()))) (fun x => some (.rt x)) f2) (some (.nx ()))) xs ()).bind fun o1 => Sum.elim (fun z1 => some (true)) (fun x => some x) o1
noncomputable def law_ (law_script_ : (KL Int)) : Option Bool :=
  (rangeS 0 ((min 16 (law_script_.l.length : Int)) + 1) 2).bind fun xs => (forR (fun (s1 : Unit) (i1 : Int) => ((Mir.law_cell_at_ law_script_ i1).bind fun x0 => (some (i1)).bind fun x1 => Mir.law_big_ x0 x1).bind fun law_cell_ => ((Mir.law_cell_at_ law_script_ (i1 + 1)).bind fun x0 => (some (i1 + 1)).bind fun x1 => Mir.law_big_ x0 x1).bind fun law_other_ => (Mir.law_row_ (law_cell_ / 7) (1 + (law_cell_ % 7))).bind fun law_row_here_ => (Mir.law_great_ law_row_here_ law_other_).bind fun law_great_here_ => (rangeO 0 2).bind fun xs => (forR (fun (s2 : Unit) (i2 : Int) => (((Mir.law_asked_ law_great_here_ 1 i2).bind fun x => some (((PyOf.py : (List PyData) → PyData) x))).bind fun x => (some (((PyOf.py : (List PyData) → PyData) ([((PyOf.py : Str → PyData) (Str.ofString "great")), (PyData.bool true)])))).bind fun y => dyNe x y).bind fun b => cond b ((some (false)).bind fun x => some (.rt x)) (some (.nx ()))) xs ()).bind fun o2 => Sum.elim (fun z2 => (ixO ([17, 34, -19, 1105, 0, 1073741824]) ((law_other_ / 32) % 6)).bind fun law_c_ => (((Mir.law_asked_ law_row_here_ law_c_ 1).bind fun x => some (((PyOf.py : (List PyData) → PyData) x))).bind fun x => (some (((PyOf.py : (List PyData) → PyData) ([((PyOf.py : Str → PyData) (Str.ofString "great")), (PyData.bool true)])))).bind fun y => dyNe x y).bind fun b => cond b ((some (false)).bind fun x => some (.rt x)) ((Mir.law_no_row_ law_row_here_ law_other_).bind fun law_bad_ => (some ([0, 1])).bind fun law_ways_ => ((some ((decide ((law_bad_.length : Int) = 2)) || (decide ((law_bad_.length : Int) = 3)))).bind fun b => cond b ((some ([0, 1, 2])).bind fun law_ways_ => some law_ways_) (some law_ways_)).bind fun s3 => (some (s3)).bind fun xs => (forR (fun (s4 : Unit) (i4 : Int) => (((Mir.law_asked__2 law_bad_ 1 i4).bind fun x => some (((PyOf.py : (List PyData) → PyData) x))).bind fun x => (some (((PyOf.py : (List PyData) → PyData) ([((PyOf.py : Str → PyData) (Str.ofString "row")), (PyData.bool true)])))).bind fun y => dyNe x y).bind fun b => cond b ((some (false)).bind fun x => some (.rt x)) (some (.nx ()))) xs ()).bind fun o4 => Sum.elim (fun z4 => ((Mir.law_doors_ law_bad_).bind fun b => some (!b)).bind fun b => cond b ((some (false)).bind fun x => some (.rt x)) (some (.nx ()))) (fun x => some (.rt x)) o4)) (fun x => some (.rt x)) o2) xs ()).bind fun o1 => Sum.elim (fun z1 => some (true)) (fun x => some x) o1
end Mir
/-- the plain texts look at no tables -/
instance (priority := low) tbsP : Tbs := ⟨[]⟩
end Mi
/-! primes: what the two searches tell -/
namespace Mi
/-- a prime, by its divisors -/
def Pr (k : Int) : Prop := 2 ≤ k ∧ ∀ e, 2 ≤ e → e < k → ¬ e ∣ k
/-- .. it is enough to look up to the root -/
theorem pr_of {k d : Int} (h2 : 2 ≤ k) (hd : 0 ≤ d) (h : k < d * d) (hn : ∀ e, 2 ≤ e → e < d → ¬ e ∣ k) : Pr k := by
  refine ⟨h2, fun e h3 h4 hdv => ?_⟩
  by_cases he : e < d
  · exact hn e h3 he hdv
  · obtain ⟨f, rfl⟩ := hdv
    have hf : 0 < f := by
      refine Int.lt_of_mul_lt_mul_left (a := e) ?_ (by omega)
      rw [Int.mul_zero]
      omega
    have hf2 : f ≠ 1 := by
      intro h
      subst h
      omega
    refine hn f (by omega) ?_ ⟨e, Int.mul_comm _ _⟩
    refine Int.not_le.mp fun h5 => ?_
    have : d * d ≤ e * f := Int.mul_le_mul (by omega) h5 hd (by omega)
    omega
theorem sq_mono {a b : Int} (h : 0 ≤ a) (l : a ≤ b) : a * a ≤ b * b := Int.mul_le_mul l l h (by omega)
end Mi

/-! the law's own primes -/
namespace Mi
/-- a check by trying, for the kernel -/
def prB (k : Nat) : Nat → Nat → Bool
  | 0, _ => false
  | f + 1, d => if k < d * d then true else if k % d = 0 then false else prB k f (d + 2)
theorem prB_ok {k : Nat} (h2 : 2 ≤ k) (ho : k % 2 = 1) : ∀ (f d : Nat), 3 ≤ d → d % 2 = 1 → (∀ e : Int, 2 ≤ e → e < d → ¬ e ∣ k) → prB k f d = true → Pr k
  | 0, d, _, _, _, h => by cases h
  | f + 1, d, h3, hd, hn, h => by
    unfold prB at h
    by_cases h4 : k < d * d
    · exact pr_of (d := d) (by omega) (by omega) (by exact_mod_cast h4) hn
    · rw [if_neg h4] at h
      by_cases h5 : k % d = 0
      · rw [if_pos h5] at h
        cases h
      · rw [if_neg h5] at h
        refine prB_ok h2 ho f (d + 2) (by omega) (by omega) (fun e he1 he2 hdv => ?_) h
        by_cases he : e < d
        · exact hn e he1 he hdv
        · by_cases he3 : e = d
          · subst he3
            exact h5 (Nat.mod_eq_zero_of_dvd (by exact_mod_cast hdv))
          · have h6 : (2 : Int) ∣ e := by omega
            have h7 := Int.dvd_trans h6 hdv
            omega
theorem pr_by {k : Nat} (f : Nat) (h : (decide (2 ≤ k) && (decide (k % 2 = 1) && prB k f 3)) = true) : Pr k := by
  simp only [Bool.and_eq_true, decide_eq_true_eq] at h
  exact prB_ok h.1 h.2.1 f 3 (by decide) (by decide) (fun e he1 he2 hdv => by
    have : e = 2 := by omega
    subst this
    have := h.2.1
    omega) h.2.2
end Mi

/-! dividing by all below 32768 -/
namespace Mi
def pf : List (Int × Int) → Int
  | [] => 1
  | x :: r => x.1 ^ x.2.toNat * pf r
theorem pf_append (f g : List (Int × Int)) : pf (f ++ g) = pf f * pf g := by
  induction f with
  | nil => exact (Int.one_mul _).symm
  | cons x r ih => show x.1 ^ x.2.toNat * pf (r ++ g) = x.1 ^ x.2.toNat * pf r * pf g; rw [ih, Int.mul_assoc]
/-- k in primes below 32768, rising, and what is left -/
structure Tr (k : Int) (f : List (Int × Int)) (l : Int) : Prop where
  pos : 1 ≤ l
  eq : pf f * l = k
  pr : ∀ x ∈ f, Pr x.1 ∧ 1 ≤ x.2 ∧ x.1 < 32768
  rise : f.Pairwise fun x y => x.1 < y.1
  out : ∀ e, 2 ≤ e → e < 32768 → ¬ e ∣ l
structure TrI (k : Int) (f : List (Int × Int)) (l d : Int) : Prop where
  d2 : 2 ≤ d
  dm : d ≤ 32769
  odd : d = 2 ∨ d % 2 = 1
  pos : 1 ≤ l
  eq : pf f * l = k
  pr : ∀ x ∈ f, Pr x.1 ∧ 1 ≤ x.2 ∧ x.1 < d
  rise : f.Pairwise fun x y => x.1 < y.1
  out : ∀ e, 2 ≤ e → e < d → ¬ e ∣ l
  len : (f.length : Int) < d
theorem TrI.start {k : Int} (hk : 1 ≤ k) : TrI k [] k 2 := ⟨by decide, by decide, .inl rfl, hk, Int.one_mul k, fun x hx => (nomatch hx), List.Pairwise.nil, fun e h1 h2 => by omega, by show (0 : Int) < 2; decide⟩
theorem TrI.next {k l d l' o : Int} {f : List (Int × Int)} (h : TrI k f l d) (hd : d < 32768) (h1 : 1 ≤ l') (ho : 0 ≤ o) (he : d ^ o.toNat * l' = l) (hn : ¬ d ∣ l') :
    TrI k (if 0 < o then f ++ [(d, o)] else f) l' (d + 1 + d % 2) := by
  have hd2 := h.d2
  have hl : l' ∣ l := ⟨d ^ o.toNat, by rw [Int.mul_comm]; exact he.symm⟩
  have hout : ∀ e, 2 ≤ e → e < d + 1 + d % 2 → ¬ e ∣ l' := by
    intro e h2 h3 h4
    by_cases h5 : e < d
    · exact h.out e h2 h5 (Int.dvd_trans h4 hl)
    · by_cases h6 : e = d
      · subst h6
        exact hn h4
      · have h7 := h.odd
        have h8 : (2 : Int) ∣ e := by omega
        exact h.out 2 (by decide) (by omega) (Int.dvd_trans (Int.dvd_trans h8 h4) hl)
  have hodd : d + 1 + d % 2 = 2 ∨ (d + 1 + d % 2) % 2 = 1 := by
    have := h.odd
    omega
  have hle : d + 1 + d % 2 ≤ 32769 := by
    have := h.odd
    omega
  have hgt : d < d + 1 + d % 2 := by omega
  by_cases h0 : 0 < o
  · rw [if_pos h0]
    have hdl : d ∣ l := by
      rw [← he]
      obtain ⟨n, hn2⟩ : ∃ n, o.toNat = n + 1 := ⟨o.toNat - 1, by omega⟩
      rw [hn2, Int.pow_succ, Int.mul_assoc]
      exact Int.dvd_trans (Int.dvd_mul_right d l') (Int.dvd_mul_left _ _)
    have hp : Pr d := ⟨hd2, fun e h2 h3 h4 => h.out e h2 h3 (Int.dvd_trans h4 hdl)⟩
    refine ⟨by omega, hle, hodd, h1, ?_, ?_, ?_, hout, ?_⟩
    · rw [pf_append]
      show pf f * (d ^ o.toNat * 1) * l' = k
      rw [Int.mul_one, Int.mul_assoc, he]
      exact h.eq
    · intro x hx
      rcases List.mem_append.mp hx with hx | hx
      · obtain ⟨a, b, c⟩ := h.pr x hx
        exact ⟨a, b, by omega⟩
      · rw [List.mem_singleton.mp hx]
        exact ⟨hp, by show 1 ≤ o; omega, hgt⟩
    · rw [List.pairwise_append]
      refine ⟨h.rise, List.pairwise_singleton _ _, fun x hx y hy => ?_⟩
      rw [List.mem_singleton.mp hy]
      exact (h.pr x hx).2.2
    · have := h.len
      rw [List.length_append]
      simp
      omega
  · rw [if_neg h0]
    have e0 : o.toNat = 0 := by omega
    rw [e0, Int.pow_zero, Int.one_mul] at he
    subst he
    exact ⟨by omega, hle, hodd, h1, h.eq, fun x hx => ⟨(h.pr x hx).1, (h.pr x hx).2.1, by have := (h.pr x hx).2.2; omega⟩, h.rise, hout, by have := h.len; omega⟩
theorem TrI.fin {k l d : Int} {f : List (Int × Int)} (h : TrI k f l d) (hx : 32768 ≤ d ∨ l < d * d) :
    (1 < l ∧ l < 32768 → Tr k (f ++ [(l, 1)]) 1) ∧ (¬(1 < l ∧ l < 32768) → Tr k f l) := by
  have hd2 := h.d2
  have hpos := h.pos
  have hm := h.dm
  constructor
  · rintro ⟨h1, h2⟩
    have hdd : l < d * d := by
      rcases hx with hx | hx
      · have := Int.mul_le_mul hx hx (by decide) (by omega)
        omega
      · exact hx
    have hp : Pr l := pr_of (by omega) (by omega) hdd h.out
    have hge : d ≤ l := Int.not_lt.mp fun h3 => h.out l (by omega) h3 (Int.dvd_refl l)
    refine ⟨by decide, ?_, ?_, ?_, ?_⟩
    · rw [pf_append]
      show pf f * (l ^ 1 * 1) * 1 = k
      rw [Int.mul_one, Int.mul_one, Int.pow_succ, Int.pow_zero, Int.one_mul]
      exact h.eq
    · intro x hx
      rcases List.mem_append.mp hx with hx | hx
      · obtain ⟨a, b, c⟩ := h.pr x hx
        exact ⟨a, b, by omega⟩
      · rw [List.mem_singleton.mp hx]
        exact ⟨hp, Int.le_refl 1, h2⟩
    · rw [List.pairwise_append]
      refine ⟨h.rise, List.pairwise_singleton _ _, fun x hx y hy => ?_⟩
      rw [List.mem_singleton.mp hy]
      have := (h.pr x hx).2.2
      show x.1 < l
      omega
    · intro e h3 h4 h5
      have := Int.le_of_dvd (by decide) h5
      omega
  · intro hn
    refine ⟨hpos, h.eq, fun x hx => ⟨(h.pr x hx).1, (h.pr x hx).2.1, ?_⟩, h.rise, ?_⟩
    · have h3 := (h.pr x hx).2.2
      by_cases h4 : d ≤ 32768
      · omega
      · have h5 := (h.pr x hx).1
        by_cases h6 : x.1 = 32768
        · exact absurd (show (2 : Int) ∣ x.1 by omega) (h5.2 2 (by decide) (by omega))
        · omega
    · intro e h3 h4 h5
      by_cases h6 : l = 1
      · subst h6
        have := Int.le_of_dvd (by decide) h5
        omega
      · by_cases h7 : 32768 ≤ d
        · exact h.out e h3 (by omega) h5
        · have hp : Pr l := pr_of (by omega) (by omega) (by omega) h.out
          exact hp.2 e h3 (by omega) h5
/-- how often d goes: the inner loop -/
theorem ediv_small {l d : Int} (hl : 1 ≤ l) (hd : 2 ≤ d) (hdv : d ∣ l) : 1 ≤ l / d ∧ l / d < l ∧ d * (l / d) = l := by
  have h := Int.mul_ediv_cancel' hdv
  have h1 : 0 < l / d := by
    refine Int.lt_of_mul_lt_mul_left (a := d) ?_ (by omega)
    rw [h, Int.mul_zero]
    omega
  have h2 : 2 * (l / d) ≤ d * (l / d) := Int.mul_le_mul_of_nonneg_right hd (by omega)
  omega
theorem tried_tot {k : Int} (hk : 1 ≤ k) : Tot (Mir.tried_ k) fun t => Tr k t.1 t.2 := by
  unfold Mir.tried_
  simp only [bS, bA]
  refine tot_bind (Q := fun s => TrI k s.1 s.2.1 s.2.2 ∧ (32768 ≤ s.2.2 ∨ s.2.1 < s.2.2 * s.2.2)) (tot_while (fun s => TrI k s.1 s.2.1 s.2.2) (fun s => (32770 - s.2.2).toNat) (TrI.start hk) fun s h => ?_) fun s ⟨h, hx⟩ => ?_
  · obtain ⟨f, l, d⟩ := s
    simp only at h ⊢
    have hd2 := h.d2
    have hdm := h.dm
    refine tot_if (fun h1 => ?_) fun h1 => tot_some ⟨fun e => (nomatch e), fun _ => ⟨h, .inl (by omega)⟩⟩
    rw [mulO_s (by omega) (by omega) (by omega) (by omega)]
    refine tot_some ⟨fun ht => ?_, fun hf => ⟨h, .inr (Int.not_le.mp (of_decide_eq_false hf))⟩⟩
    refine tot_bind (Q := fun z => 1 ≤ z.1 ∧ 0 ≤ z.2 ∧ d ^ z.2.toNat * z.1 = l ∧ ¬ d ∣ z.1) (tot_while (fun z => 1 ≤ z.1 ∧ 0 ≤ z.2 ∧ d ^ z.2.toNat * z.1 = l) (fun z => z.1.toNat) ⟨h.pos, Int.le_refl 0, by show d ^ 0 * l = l; rw [Int.pow_zero, Int.one_mul]⟩ fun z ⟨h2, h3, h4⟩ => ?_) fun z ⟨h2, h3, h4, h5⟩ => ?_
    · rw [modO_pos (by omega)]
      refine tot_some ⟨fun ht => ?_, fun hf => ⟨h2, h3, h4, fun hdv => of_decide_eq_false hf (Int.emod_eq_zero_of_dvd hdv)⟩⟩
      have hdv : d ∣ z.1 := Int.dvd_of_emod_eq_zero (of_decide_eq_true ht)
      obtain ⟨h5, h6, h7⟩ := ediv_small h2 hd2 hdv
      rw [divO_pos (n := 16) (by omega) (by unfold Sz; omega) (by decide)]
      refine tot_some ⟨⟨h5, by show 0 ≤ z.2 + 1; omega, ?_⟩, ?_⟩
      · show d ^ (z.2 + 1).toNat * (z.1 / d) = l
        have e : (z.2 + 1).toNat = z.2.toNat + 1 := by omega
        rw [e, Int.pow_succ, Int.mul_assoc, h7, h4]
      · show (z.1 / d).toNat < z.1.toNat
        omega
    · have hN := h.next h1 h2 h3 h4 h5
      have hm : (32770 - (d + 1 + d % 2)).toNat < (32770 - d).toNat := by omega
      by_cases h0 : 0 < z.2
      · rw [if_pos h0] at hN
        have := h.len
        rw [decide_eq_true h0]
        simp only [cond_true, bS]
        rw [show appO f (d, z.2) = some (f ++ [(d, z.2)]) from if_pos (by omega)]
        exact tot_some ⟨hN, hm⟩
      · rw [if_neg h0] at hN
        rw [decide_eq_false h0]
        exact tot_some ⟨hN, hm⟩
  · obtain ⟨f, l, d⟩ := s
    simp only at h hx ⊢
    have hF := h.fin hx
    by_cases h1 : 1 < l ∧ l < 32768
    · rw [decide_eq_true h1.1, decide_eq_true h1.2]
      have h2 := h.len
      have h3 := h.dm
      simp only [Bool.and_self, cond_true, bS]
      rw [show appO f (l, 1) = some (f ++ [(l, 1)]) from if_pos (by omega)]
      exact tot_some (hF.1 h1)
    · have e : (decide (1 < l) && decide (l < 32768)) = false := by
        rw [Bool.and_eq_false_iff, decide_eq_false_iff_not, decide_eq_false_iff_not]
        omega
      rw [e]
      exact tot_some (hF.2 h1)
/-- what is left hangs on the number alone -/
theorem pr_gcd {p l : Int} (hp : Pr p) (h : ¬ p ∣ l) : Int.gcd l p = 1 := by
  have h1 := Int.gcd_dvd_right l p
  have h2 := Int.gcd_dvd_left l p
  have hp2 := hp.1
  have h3 : Int.gcd l p ≠ 0 := fun e => by
    have := (Int.gcd_eq_zero_iff.mp e).2
    omega
  have h4 := Int.le_of_dvd (by omega) h1
  by_cases h5 : (Int.gcd l p : Int) = p
  · rw [h5] at h2
    exact absurd h2 h
  · by_cases h6 : 2 ≤ (Int.gcd l p : Int)
    · exact absurd h1 (hp.2 _ h6 (by omega))
    · omega
theorem gcd_pow_one {p l : Int} (h : Int.gcd l p = 1) : ∀ n : Nat, Int.gcd l (p ^ n) = 1
  | 0 => by rw [Int.pow_zero]; exact Int.gcd_one
  | n + 1 => by
    rw [Int.pow_succ, Int.gcd_mul_right_right_of_gcd_eq_one (gcd_pow_one h n)]
    exact h
theorem gcd_pf {l : Int} : ∀ {f : List (Int × Int)}, (∀ x ∈ f, Pr x.1 ∧ ¬ x.1 ∣ l) → Int.gcd l (pf f) = 1
  | [], _ => Int.gcd_one
  | x :: r, h => by
    show Int.gcd l (x.1 ^ x.2.toNat * pf r) = 1
    have hx := h x List.mem_cons_self
    rw [Int.gcd_mul_right_right_of_gcd_eq_one (gcd_pow_one (pr_gcd hx.1 hx.2) _)]
    exact gcd_pf fun y hy => h y (List.mem_cons_of_mem _ hy)
theorem Tr.uniq {k l l' : Int} {f f' : List (Int × Int)} (h : Tr k f l) (h' : Tr k f' l') : l = l' := by
  have half : ∀ {l l' : Int} {f f' : List (Int × Int)}, Tr k f l → Tr k f' l' → l ∣ l' := by
    intro l l' f f' h h'
    have h1 : Int.gcd l (pf f') = 1 := gcd_pf fun x hx => ⟨(h'.pr x hx).1, h.out x.1 (h'.pr x hx).1.1 (h'.pr x hx).2.2⟩
    have h2 : l ∣ pf f' * l' := by
      rw [h'.eq, ← h.eq]
      exact Int.dvd_mul_left _ _
    have h3 := Int.dvd_gcd_mul_iff_dvd_mul.mpr h2
    rw [h1] at h3
    simpa using h3
  have h1 := half h h'
  have h2 := half h' h
  have := h.pos
  have := h'.pos
  have := Int.le_of_dvd (by omega) h1
  have := Int.le_of_dvd (by omega) h2
  omega
end Mi

/-! whole roots by halving -/
namespace Mi
theorem bits_lt (k : Int) : k.natAbs < 2 ^ PySem.Builtin.Int.intBits k := by
  unfold PySem.Builtin.Int.intBits
  by_cases h : k = 0
  · subst h
    decide
  · rw [if_neg (by simpa using h)]
    exact (Nat.log2_lt (by omega)).mp (Nat.lt_succ_self _)
theorem bits_le {k : Int} {n : Nat} (h : Sz n k) : PySem.Builtin.Int.intBits k ≤ n := by
  unfold PySem.Builtin.Int.intBits
  by_cases h0 : k = 0
  · subst h0
    exact Nat.zero_le _
  · rw [if_neg (by simpa using h0)]
    exact (Nat.log2_lt (by omega)).mpr h
theorem pow_two_le (n : Nat) : 2 ^ n ≤ 2 ^ (n / 2 + 1) * 2 ^ (n / 2 + 1) := by
  rw [← Nat.pow_add]
  exact Nat.pow_le_pow_right (by decide) (by omega)
def IsRoot (k r : Int) : Prop := 0 ≤ r ∧ r * r ≤ k ∧ k < (r + 1) * (r + 1)
theorem IsRoot.uniq {k r s : Int} (h : IsRoot k r) (g : IsRoot k s) : r = s := by
  obtain ⟨h1, h2, h3⟩ := h
  obtain ⟨g1, g2, g3⟩ := g
  have a : r < s + 1 := Int.not_le.mp fun l => by
    have := sq_mono (by omega) l
    omega
  have b : s < r + 1 := Int.not_le.mp fun l => by
    have := sq_mono (by omega) l
    omega
  omega
theorem IsRoot.sq {k r : Int} (h : IsRoot k r) : r * r = k ↔ ∃ x : Int, x * x = k := by
  refine ⟨fun e => ⟨r, e⟩, fun ⟨x, hx⟩ => ?_⟩
  have h0 : IsRoot k (x.natAbs : Int) := by
    have e : (x.natAbs : Int) * (x.natAbs : Int) = k := by rw [← hx]; exact Int.natAbs_mul_self
    refine ⟨Int.natCast_nonneg _, by omega, ?_⟩
    rw [← e]
    have := Int.natCast_nonneg x.natAbs
    exact Int.mul_self_lt_mul_self this (by omega)
  rw [h.uniq h0, ← hx]
  exact Int.natAbs_mul_self
theorem IsRoot.size {k r : Int} {n : Nat} (h : IsRoot k r) (hk : Sz n k) : Sz n r := by
  refine hk.le ?_
  obtain ⟨h1, h2, h3⟩ := h
  by_cases h0 : r = 0
  · subst h0
    exact Nat.zero_le _
  · have : r * 1 ≤ r * r := Int.mul_le_mul_of_nonneg_left (by omega) h1
    omega
theorem whole_root_tot {k : Int} {n : Nat} (hk : 0 ≤ k) (sk : Sz n k) (hn : n ≤ 1900000) : Tot (Mir.whole_root_ k) (IsRoot k) := by
  unfold Mir.whole_root_
  simp only [bS, bA]
  have hb := bits_le sk
  have hlt := bits_lt k
  generalize PySem.Builtin.Int.intBits k = b at hb hlt
  have e : ((b : Int) / 2 + 1).toNat = b / 2 + 1 := by omega
  rw [show shlO 1 ((b : Int) / 2 + 1) = some (1 * 2 ^ ((b : Int) / 2 + 1).toNat) from if_pos ⟨by omega, by omega, by decide⟩, e, Int.one_mul]
  simp only [bS]
  have hh : k < (2 : Int) ^ (b / 2 + 1) * 2 ^ (b / 2 + 1) := by
    have h1 := Nat.lt_of_lt_of_le hlt (pow_two_le b)
    have h2 : ((k.natAbs : Nat) : Int) < ((2 ^ (b / 2 + 1) * 2 ^ (b / 2 + 1) : Nat) : Int) := by exact_mod_cast h1
    rw [Int.natCast_mul, Int.natCast_pow] at h2
    have h3 : ((k.natAbs : Nat) : Int) = k := by omega
    rw [h3] at h2
    exact h2
  have h0 : (0 : Int) < 2 ^ (b / 2 + 1) := Int.pow_pos (by decide)
  have hs : Sz (b / 2 + 2) ((2 : Int) ^ (b / 2 + 1)) := by
    unfold Sz
    rw [Int.natAbs_pow]
    exact Nat.pow_lt_pow_right (by decide) (by omega)
  generalize (2 : Int) ^ (b / 2 + 1) = top at hh h0 hs
  refine tot_bind (Q := fun s => IsRoot k s.1) (tot_while (fun s => 0 ≤ s.1 ∧ s.1 < s.2 ∧ s.2 ≤ top ∧ s.1 * s.1 ≤ k ∧ k < s.2 * s.2) (fun s => (s.2 - s.1).toNat) ⟨by omega, h0, Int.le_refl _, hk, hh⟩ fun s ⟨h1, h2, h3, h4, h5⟩ => tot_some ⟨fun ht => ?_, fun hf => ?_⟩) fun s hs => tot_some hs
  · have ht := of_decide_eq_true ht
    have sm : Sz (b / 2 + 2) ((s.1 + s.2) / 2) := hs.le (by omega)
    rw [mulO_sz sm sm (by omega)]
    simp only [bS]
    refine tot_if (fun hc => tot_some ?_) fun hc => tot_some ?_
    · exact ⟨⟨by show 0 ≤ (s.1 + s.2) / 2; omega, by show (s.1 + s.2) / 2 < s.2; omega, h3, hc, h5⟩, by show (s.2 - (s.1 + s.2) / 2).toNat < _; omega⟩
    · exact ⟨⟨h1, by show s.1 < (s.1 + s.2) / 2; omega, by show (s.1 + s.2) / 2 ≤ top; omega, h4, Int.not_le.mp hc⟩, by show ((s.1 + s.2) / 2 - s.1).toNat < _; omega⟩
  · have hf := of_decide_eq_false hf
    have e : s.2 = s.1 + 1 := by omega
    rw [e] at h5
    exact ⟨h1, h4, h5⟩
open Classical in
theorem is_square_eq {k : Int} {n : Nat} (hk : 0 ≤ k) (sk : Sz n k) (hn : n ≤ 1900000) : Mir.is_square_ k = some (decide (∃ x : Int, x * x = k)) := by
  obtain ⟨r, e, hr⟩ := whole_root_tot hk sk hn
  unfold Mir.is_square_
  rw [e]
  simp only [bS]
  rw [mulO_sz (hr.size sk) (hr.size sk) (by omega)]
  simp only [bS]
  exact congrArg some (decide_eq_decide.mpr hr.sq)
end Mi
namespace Mi
end Mi

/-! numbers by a prime: powers, Fermat, the sign of a rest -/
namespace Mi
/-- alike by m -/
def Cg (m a b : Int) : Prop := m ∣ a - b
section
variable {m a b c d p k : Int}
theorem Cg.refl (a : Int) : Cg m a a := ⟨0, by rw [Int.sub_self, Int.mul_zero]⟩
theorem Cg.symm (h : Cg m a b) : Cg m b a := by
  obtain ⟨t, h⟩ := h
  exact ⟨-t, by rw [Int.mul_neg, ← h]; omega⟩
theorem Cg.trans (h : Cg m a b) (g : Cg m b c) : Cg m a c := by
  have := Int.dvd_add h g
  unfold Cg
  rwa [show a - b + (b - c) = a - c by omega] at this
theorem Cg.add (h : Cg m a b) (g : Cg m c d) : Cg m (a + c) (b + d) := by
  have := Int.dvd_add h g
  unfold Cg
  rwa [show a - b + (c - d) = a + c - (b + d) by omega] at this
theorem Cg.neg (h : Cg m a b) : Cg m (-a) (-b) := by
  obtain ⟨t, h⟩ := h
  exact ⟨-t, by rw [Int.mul_neg, ← h]; omega⟩
theorem Cg.mul (h : Cg m a b) (g : Cg m c d) : Cg m (a * c) (b * d) := by
  obtain ⟨s, h⟩ := h
  obtain ⟨t, g⟩ := g
  refine ⟨s * c + b * t, ?_⟩
  have e1 : a = b + m * s := by omega
  have e2 : c = d + m * t := by omega
  subst e1 e2
  grind
theorem Cg.of_eq (h : a = b) : Cg m a b := h ▸ Cg.refl a
theorem cg_mod (a : Int) : Cg m (a % m) a := ⟨-(a / m), by rw [Int.mul_neg]; have := Int.mul_ediv_add_emod a m; omega⟩
theorem cg_iff : Cg m a b ↔ a % m = b % m := by
  constructor
  · intro h
    exact Int.emod_eq_emod_iff_emod_sub_eq_zero.mpr (Int.emod_eq_zero_of_dvd h)
  · intro h
    exact Int.dvd_of_emod_eq_zero (Int.emod_eq_emod_iff_emod_sub_eq_zero.mp h)
theorem cg_zero : Cg m a 0 ↔ m ∣ a := by
  unfold Cg
  rw [Int.sub_zero]
theorem Cg.dvd (h : Cg m a b) : m ∣ a ↔ m ∣ b := by
  rw [← cg_zero, ← cg_zero]
  exact ⟨fun g => h.symm.trans g, fun g => h.trans g⟩
/-- what is alike and small is the same -/
theorem Cg.small (h : Cg m a b) (ha : 0 ≤ a) (ha2 : a < m) (hb : 0 ≤ b) (hb2 : b < m) : a = b := by
  have := cg_iff.mp h
  rwa [Int.emod_eq_of_lt ha ha2, Int.emod_eq_of_lt hb hb2] at this
theorem Pr.dvd_mul (hp : Pr p) (h : p ∣ a * b) : p ∣ a ∨ p ∣ b := by
  by_cases h1 : p ∣ a
  · exact .inl h1
  · have h2 := Int.dvd_gcd_mul_iff_dvd_mul.mpr h
    have h3 : Int.gcd p a = 1 := by rw [Int.gcd_comm]; exact pr_gcd hp h1
    rw [h3, Int.natCast_one, Int.one_mul] at h2
    exact .inr h2
theorem Pr.eq_of_dvd' {p q : Int} (hp : Pr p) (hq : Pr q) (h : p ∣ q) : p = q := by
  have h1 := hp.1
  have h2 := hq.1
  have h3 := Int.le_of_dvd (by omega) h
  by_cases e : p = q
  · exact e
  · exact absurd h (hq.2 p h1 (by omega))
theorem Pr.cancel (hp : Pr p) (hk : ¬ p ∣ k) (h : Cg p (k * a) (k * b)) : Cg p a b := by
  unfold Cg at h ⊢
  rw [← Int.mul_sub] at h
  exact (hp.dvd_mul h).resolve_left hk
end
/-! ### products over lists -/
def pd : List Int → Int
  | [] => 1
  | x :: r => x * pd r
theorem pd_perm {l r : List Int} (h : l.Perm r) : pd l = pd r := by
  induction h with
  | nil => rfl
  | cons x _ ih => show x * _ = x * _; rw [ih]
  | swap x y l => show y * (x * _) = x * (y * _); rw [← Int.mul_assoc, ← Int.mul_assoc, Int.mul_comm y x]
  | trans _ _ h1 h2 => exact h1.trans h2
theorem pd_map (k : Int) : ∀ l : List Int, pd (l.map fun x => k * x) = k ^ l.length * pd l
  | [] => by simp [pd]
  | x :: r => by
    show k * x * pd (r.map _) = k ^ (r.length + 1) * (x * pd r)
    rw [pd_map k r, Int.pow_succ]
    grind
theorem pd_cg {m : Int} {f g : Int → Int} : ∀ {l : List Int}, (∀ x ∈ l, Cg m (f x) (g x)) → Cg m (pd (l.map f)) (pd (l.map g))
  | [], _ => Cg.refl _
  | x :: r, h => (h x List.mem_cons_self).mul (pd_cg fun y hy => h y (List.mem_cons_of_mem _ hy))
theorem pd_ndvd {p : Int} (hp : Pr p) : ∀ {l : List Int}, (∀ x ∈ l, ¬ p ∣ x) → ¬ p ∣ pd l
  | [], _, h => by
    have h : p ∣ 1 := h
    have := Int.le_of_dvd (by decide) h
    have := hp.1
    omega
  | x :: r, h, g => (hp.dvd_mul g).elim (h x List.mem_cons_self) (pd_ndvd hp fun y hy => h y (List.mem_cons_of_mem _ hy))
/-- no more than that many: then all of them -/
theorem perm_of_sub {α : Type} [BEq α] [LawfulBEq α] {l r : List α} (hl : l.Nodup) (hr : r.Nodup) (hs : ∀ x ∈ l, x ∈ r) (hn : r.length ≤ l.length) : l.Perm r := by
  refine (List.perm_ext_iff_of_nodup hl hr).mpr fun a => ⟨hs a, fun ha => ?_⟩
  refine Classical.byContradiction fun h => ?_
  have h1 : l.length ≤ (r.erase a).length := by
    refine List.Nodup.length_le_of_subset hl fun x hx => ?_
    refine (List.Nodup.mem_erase_iff hr).mpr ⟨fun e => h (e ▸ hx), hs x hx⟩
  have h2 : (r.erase a).length = r.length - 1 := by rw [List.length_erase, if_pos (by simpa using ha)]
  have h3 : 0 < r.length := List.length_pos_of_mem ha
  omega
theorem rangeL_nodup (lo hi : Int) : (rangeL lo hi).Nodup := by
  unfold rangeL
  refine List.Pairwise.map _ (fun a b h => ?_) List.nodup_range
  omega
theorem fermat {p k : Int} (hp : Pr p) (hk : ¬ p ∣ k) : Cg p (k ^ (p - 1).toNat) 1 := by
  have hp2 := hp.1
  have hmod : ∀ x, 1 ≤ x → x < p → ¬ p ∣ x := fun x h1 h2 h3 => by
    have := Int.le_of_dvd (by omega) h3
    omega
  have hin : ∀ x ∈ rangeL 1 p, ¬ p ∣ x := fun x hx => hmod x (mem_rangeL.mp hx).1 (mem_rangeL.mp hx).2
  have hP : ((rangeL 1 p).map fun x => k * x % p).Perm (rangeL 1 p) := by
    refine perm_of_sub ?_ (rangeL_nodup 1 p) (fun y hy => ?_) (by rw [List.length_map]; exact Nat.le_refl _)
    · refine List.pairwise_map.mpr ?_
      refine List.Pairwise.imp_of_mem (fun {a b} ha hb hab => ?_) (rangeL_nodup 1 p)
      intro e
      have ha := mem_rangeL.mp ha
      have hb := mem_rangeL.mp hb
      exact hab ((hp.cancel hk (cg_iff.mpr e)).small (by omega) ha.2 (by omega) hb.2)
    · obtain ⟨x, hx, rfl⟩ := List.mem_map.mp hy
      have h1 : ¬ p ∣ k * x := fun h => (hp.dvd_mul h).elim hk (hin x hx)
      have h2 := Int.emod_nonneg (k * x) (show p ≠ 0 by omega)
      have h3 := Int.emod_lt_of_pos (k * x) (show 0 < p by omega)
      have h4 : k * x % p ≠ 0 := fun e => h1 (Int.dvd_of_emod_eq_zero e)
      exact mem_rangeL.mpr ⟨by omega, h3⟩
  have h1 : Cg p (pd ((rangeL 1 p).map fun x => k * x % p)) (pd ((rangeL 1 p).map fun x => k * x)) := pd_cg fun x _ => cg_mod _
  rw [pd_perm hP, pd_map, rangeL_length] at h1
  have h2 : Cg p (pd (rangeL 1 p) * 1) (pd (rangeL 1 p) * k ^ (p - 1).toNat) := by
    rw [Int.mul_one, Int.mul_comm]
    exact h1
  exact (hp.cancel (pd_ndvd hp hin) h2).symm
/-! ### the sign of a rest -/
open Classical in
noncomputable def leg (p k : Int) : Int := if p ∣ k then 0 else if p = 2 then 1 else if k ^ ((p - 1) / 2).toNat % p = 1 then 1 else -1
section
variable {p a b k : Int}
theorem Pr.odd (hp : Pr p) (h2 : p ≠ 2) : p % 2 = 1 := by
  have h1 := hp.1
  have : ¬ (2 : Int) ∣ p := hp.2 2 (by decide) (by omega)
  omega
theorem half_pow (hp : Pr p) (h2 : p ≠ 2) (hk : ¬ p ∣ k) : Cg p (k ^ ((p - 1) / 2).toNat) 1 ∨ Cg p (k ^ ((p - 1) / 2).toNat) (-1) := by
  have hodd := hp.odd h2
  have hp2 := hp.1
  have h := fermat hp hk
  rw [show (p - 1).toNat = ((p - 1) / 2).toNat + ((p - 1) / 2).toNat by omega, Int.pow_add] at h
  generalize k ^ ((p - 1) / 2).toNat = x at h ⊢
  have h3 : p ∣ (x - 1) * (x - -1) := by
    have e : (x - 1) * (x - -1) = x * x - 1 := by grind
    rw [e]
    exact h
  exact hp.dvd_mul h3
theorem leg_zero (h : p ∣ k) : leg p k = 0 := if_pos h
theorem leg_two (h : ¬ (2 : Int) ∣ k) : leg 2 k = 1 := by
  unfold leg
  rw [if_neg h, if_pos rfl]
theorem nd_one' (hp : Pr p) : ¬ p ∣ (1 : Int) := fun h => by
  have := Int.le_of_dvd (by decide) h
  have := hp.1
  omega
theorem one_mod (hp : Pr p) : (1 : Int) % p = 1 := Int.emod_eq_of_lt (by decide) (by have := hp.1; omega)
/-- the sign is the half power -/
theorem leg_cg (hp : Pr p) (h2 : p ≠ 2) : Cg p (leg p k) (k ^ ((p - 1) / 2).toNat) := by
  have hp2 := hp.1
  have hodd := hp.odd h2
  unfold leg
  by_cases hk : p ∣ k
  · rw [if_pos hk]
    refine (cg_zero.mpr ?_).symm
    rw [show ((p - 1) / 2).toNat = ((p - 1) / 2).toNat - 1 + 1 by omega, Int.pow_succ]
    exact Int.dvd_trans hk (Int.dvd_mul_left _ _)
  · rw [if_neg hk, if_neg h2]
    by_cases h : k ^ ((p - 1) / 2).toNat % p = 1
    · rw [if_pos h]
      exact cg_iff.mpr (by rw [h, one_mod hp])
    · rw [if_neg h]
      refine ((half_pow hp h2 hk).resolve_left fun g => h ?_).symm
      rw [cg_iff.mp g, one_mod hp]
theorem leg_vals (p k : Int) : leg p k = 0 ∧ p ∣ k ∨ (leg p k = 1 ∨ leg p k = -1) ∧ ¬ p ∣ k := by
  unfold leg
  by_cases hk : p ∣ k
  · rw [if_pos hk]
    exact .inl ⟨rfl, hk⟩
  · rw [if_neg hk]
    refine .inr ⟨?_, hk⟩
    split
    · exact .inl rfl
    · split
      · exact .inl rfl
      · exact .inr rfl
theorem leg_uniq (hp : Pr p) (h2 : p ≠ 2) {x y : Int} (hx : x = 0 ∨ x = 1 ∨ x = -1) (hy : y = 0 ∨ y = 1 ∨ y = -1) (h : Cg p x y) : x = y := by
  have hp2 := hp.1
  have hodd := hp.odd h2
  unfold Cg at h
  by_cases h0 : x - y = 0
  · omega
  · have h1 := Int.natAbs_dvd_natAbs.mpr h
    have h3 := Nat.le_of_dvd (by omega) h1
    omega
theorem leg_mul (hp : Pr p) (a b : Int) : leg p (a * b) = leg p a * leg p b := by
  by_cases h2 : p = 2
  · subst h2
    by_cases ha : (2 : Int) ∣ a
    · rw [leg_zero ha, leg_zero (Int.dvd_trans ha (Int.dvd_mul_right _ _)), Int.zero_mul]
    · by_cases hb : (2 : Int) ∣ b
      · rw [leg_zero hb, leg_zero (Int.dvd_trans hb (Int.dvd_mul_left _ _)), Int.mul_zero]
      · rw [leg_two ha, leg_two hb, leg_two fun h => (hp.dvd_mul h).elim ha hb]
        rfl
  · have h : Cg p (leg p (a * b)) (leg p a * leg p b) := by
      refine (leg_cg hp h2).trans ?_
      rw [Int.mul_pow]
      exact ((leg_cg hp h2).mul (leg_cg hp h2)).symm
    refine leg_uniq hp h2 ?_ ?_ h
    · rcases leg_vals p (a * b) with h | h <;> omega
    · rcases leg_vals p a with ⟨h, _⟩ | ⟨h | h, _⟩ <;> rcases leg_vals p b with ⟨g, _⟩ | ⟨g | g, _⟩ <;> rw [h, g] <;> decide
end
/-! ### powers by halving -/
end Mi

/-! the parts of a number -/
namespace Mi
/-- primes, rising, each with how often, that come to k -/
structure Parts (k : Int) (f : List (Int × Int)) : Prop where
  eq : pf f = k
  pr : ∀ x ∈ f, Pr x.1 ∧ 1 ≤ x.2
  rise : f.Pairwise fun x y => x.1 < y.1
/-- what is left of a number below 2 to the 30 is 1 or a prime -/
theorem Tr.left {k l : Int} {f : List (Int × Int)} (h : Tr k f l) (hl : l < 1073741824) : l = 1 ∨ Pr l ∧ 32768 ≤ l := by
  have hp := h.pos
  by_cases h1 : l = 1
  · exact .inl h1
  · refine .inr ⟨pr_of (d := 32768) (by omega) (by decide) hl h.out, Int.not_lt.mp fun h2 => h.out l (by omega) h2 (Int.dvd_refl l)⟩
theorem Parts.len {k : Int} {f : List (Int × Int)} (h : Parts k f) (hk : k < 2 ^ 31) : f.length < 16000000 := by
  have h2 : ∀ (g : List (Int × Int)), (∀ x ∈ g, Pr x.1 ∧ 1 ≤ x.2) → (2 : Int) ^ g.length ≤ pf g := by
    intro g
    induction g with
    | nil => intro _; exact Int.le_refl 1
    | cons x r ih =>
      intro hx
      have h3 := ih fun y hy => hx y (List.mem_cons_of_mem _ hy)
      have h4 := hx x List.mem_cons_self
      have h5 := h4.1.1
      rw [List.length_cons, Int.pow_succ]
      show _ ≤ x.1 ^ x.2.toNat * pf r
      rw [show x.2.toNat = (x.2.toNat - 1) + 1 by omega, Int.pow_succ]
      have h6 : (0 : Int) < x.1 ^ (x.2.toNat - 1) := Int.pow_pos (by omega)
      have h7 := Int.mul_le_mul (show (1 : Int) ≤ x.1 ^ (x.2.toNat - 1) by omega) h5 (by decide) (by omega)
      have h8 : (0 : Int) < 2 ^ r.length := Int.pow_pos (by decide)
      have h9 := Int.mul_le_mul h7 h3 (by omega) (by omega)
      omega
  have h3 := h2 f h.pr
  rw [h.eq] at h3
  refine Nat.lt_of_not_le fun h4 => ?_
  have h5 : (2 ^ 31 : Nat) ≤ 2 ^ f.length := Nat.pow_le_pow_right (by decide) (by omega)
  have h6 : ((2 ^ 31 : Nat) : Int) ≤ ((2 ^ f.length : Nat) : Int) := by exact_mod_cast h5
  rw [Int.natCast_pow, Int.natCast_pow] at h6
  have h7 : ((2 : Nat) : Int) ^ 31 = 2147483648 := by decide
  have h8 : ((2 : Nat) : Int) ^ f.length = 2 ^ f.length := rfl
  rw [h7, h8] at h6
  omega
theorem Pr.eq_of_dvd {p q : Int} (hp : Pr p) (hq : Pr q) (h : p ∣ q) : p = q := by
  have h1 := hp.1
  have h2 := hq.1
  have h3 := Int.le_of_dvd (by omega) h
  by_cases e : p = q
  · exact e
  · exact absurd h (hq.2 p h1 (by omega))
def rf (m : Int) : Nat → Int
  | 0 => 1
  | n + 1 => m * rf (m + 1) n
end Mi

/-! the sign of two numbers at a place -/
namespace Mi
/-- odd, as a Bool -/
def od (n : Int) : Bool := decide (n % 2 = 1)
theorem od_add (a b : Int) : od (a + b) = (od a ^^ od b) := by
  unfold od
  by_cases h : a % 2 = 1 <;> by_cases g : b % 2 = 1
  · rw [decide_eq_true h, decide_eq_true g, decide_eq_false (by omega)]; rfl
  · rw [decide_eq_true h, decide_eq_false g, decide_eq_true (by omega)]; rfl
  · rw [decide_eq_false h, decide_eq_true g, decide_eq_true (by omega)]; rfl
  · rw [decide_eq_false h, decide_eq_false g, decide_eq_false (by omega)]; rfl
/-- a is p so often times u -/
structure Spl (p a e u : Int) : Prop where
  e0 : 0 ≤ e
  eq : p ^ e.toNat * u = a
  nd : ¬ p ∣ u
section
variable {p a b e u f v : Int}
theorem Spl.uniq (hp : p ≠ 0) (h : Spl p a e u) (g : Spl p a f v) : e = f ∧ u = v := by
  have key : ∀ (m n : Nat) (u v : Int), p ^ m * u = p ^ n * v → ¬ p ∣ u → ¬ p ∣ v → m = n ∧ u = v := by
    intro m
    induction m with
    | zero =>
      intro n u v he h1 h2
      cases n with
      | zero =>
        rw [Int.pow_zero, Int.one_mul, Int.one_mul] at he
        exact ⟨rfl, he⟩
      | succ n =>
        exfalso
        rw [Int.pow_zero, Int.one_mul, Int.pow_succ, Int.mul_comm (p ^ n), Int.mul_assoc] at he
        exact h1 ⟨_, he⟩
    | succ m ih =>
      intro n u v he h1 h2
      cases n with
      | zero =>
        exfalso
        rw [Int.pow_zero, Int.one_mul, Int.pow_succ, Int.mul_comm (p ^ m), Int.mul_assoc] at he
        exact h2 ⟨_, he.symm⟩
      | succ n =>
        rw [Int.pow_succ, Int.pow_succ, Int.mul_comm (p ^ m), Int.mul_comm (p ^ n), Int.mul_assoc, Int.mul_assoc] at he
        have := ih n u v (Int.eq_of_mul_eq_mul_left hp he) h1 h2
        omega
  have := key _ _ _ _ (h.eq.trans g.eq.symm) h.nd g.nd
  have h1 := h.e0
  have h2 := g.e0
  omega
theorem Spl.unit (h : ¬ p ∣ a) : Spl p a 0 a := ⟨Int.le_refl 0, by show p ^ 0 * a = a; rw [Int.pow_zero, Int.one_mul], h⟩
theorem Spl.mul (hp : Pr p) (h : Spl p a e u) (g : Spl p b f v) : Spl p (a * b) (e + f) (u * v) := by
  have h1 := h.e0
  have h2 := g.e0
  refine ⟨by omega, ?_, fun h3 => (hp.dvd_mul h3).elim h.nd g.nd⟩
  rw [show (e + f).toNat = e.toNat + f.toNat by omega, Int.pow_add, ← h.eq, ← g.eq]
  grind
theorem Spl.neg (h : Spl p a e u) : Spl p (-a) e (-u) := ⟨h.e0, by rw [Int.mul_neg, h.eq], fun g => h.nd ((Int.dvd_neg).mp g)⟩
end
theorem spl_ex {p a : Int} (hp : 2 ≤ p) (ha : a ≠ 0) : ∃ e u, Spl p a e u := by
  have key : ∀ (n : Nat) (a : Int), a.natAbs ≤ n → a ≠ 0 → ∃ (e : Nat) (u : Int), p ^ e * u = a ∧ ¬ p ∣ u := by
    intro n
    induction n with
    | zero => intro a h1 h2; omega
    | succ n ih =>
      intro a h1 h2
      by_cases hd : p ∣ a
      · obtain ⟨t, rfl⟩ := hd
        have ht : t ≠ 0 := fun e => h2 (by rw [e, Int.mul_zero])
        have h3 : t.natAbs < (p * t).natAbs := by
          rw [Int.natAbs_mul]
          have := Nat.mul_le_mul_right t.natAbs (show 2 ≤ p.natAbs by omega)
          omega
        obtain ⟨e, u, h4, h5⟩ := ih t (by omega) ht
        exact ⟨e + 1, u, by rw [Int.pow_succ, Int.mul_comm (p ^ e), Int.mul_assoc, h4], h5⟩
      · exact ⟨0, a, by rw [Int.pow_zero, Int.one_mul], hd⟩
  obtain ⟨e, u, h1, h2⟩ := key _ a (Nat.le_refl _) ha
  exact ⟨e, u, by omega, by rw [Int.toNat_natCast]; exact h1, h2⟩
open Classical in
noncomputable def spl (p a : Int) : Int × Int := if h : ∃ e u, Spl p a e u then (choose h, choose (choose_spec h)) else (0, 0)
theorem spl_eq {p a e u : Int} (hp : p ≠ 0) (h : Spl p a e u) : spl p a = (e, u) := by
  have hx : ∃ e u, Spl p a e u := ⟨e, u, h⟩
  unfold spl
  rw [dif_pos hx]
  have := (Classical.choose_spec (Classical.choose_spec hx)).uniq hp h
  exact Prod.ext this.1 this.2
theorem spl_is {p a : Int} (hp : 2 ≤ p) (ha : a ≠ 0) : Spl p a (spl p a).1 (spl p a).2 := by
  obtain ⟨e, u, h⟩ := spl_ex hp ha
  rw [spl_eq (by omega) h]
  exact h
/-! ### classes -/
noncomputable def nr (p u : Int) : Bool := decide (leg p u = -1)
theorem nr_mul {p a b : Int} (hp : Pr p) (ha : ¬ p ∣ a) (hb : ¬ p ∣ b) : nr p (a * b) = (nr p a ^^ nr p b) := by
  unfold nr
  rw [leg_mul hp]
  rcases leg_vals p a with ⟨_, h⟩ | ⟨h | h, _⟩
  · exact absurd h ha
  · rcases leg_vals p b with ⟨_, g⟩ | ⟨g | g, _⟩
    · exact absurd g hb
    · rw [h, g]; decide
    · rw [h, g]; decide
  · rcases leg_vals p b with ⟨_, g⟩ | ⟨g | g, _⟩
    · exact absurd g hb
    · rw [h, g]; decide
    · rw [h, g]; decide
/-- by an odd prime -/
noncomputable def clo (p a : Int) : Bool × Bool := (od (spl p a).1, nr p (spl p a).2)
def fo (t : Bool) (x y : Bool × Bool) : Bool := !((x.1 && y.1 && t) ^^ (y.1 && x.2) ^^ (x.1 && y.2))
/-- by two -/
def e2 (u : Int) : Bool := od ((u - 1) / 2)
def w2 (u : Int) : Bool := od ((u * u - 1) / 8)
noncomputable def cl2 (a : Int) : Bool × Bool × Bool := (od (spl 2 a).1, e2 (spl 2 a).2, w2 (spl 2 a).2)
def f2 (x y : Bool × Bool × Bool) : Bool := !((x.2.1 && y.2.1) ^^ (x.1 && y.2.2) ^^ (y.1 && x.2.2))
theorem pr_two : Pr 2 := ⟨by decide, fun e _ _ => by omega⟩
def xo (x y : Bool × Bool) : Bool × Bool := (x.1 ^^ y.1, x.2 ^^ y.2)
def x2 (x y : Bool × Bool × Bool) : Bool × Bool × Bool := (x.1 ^^ y.1, x.2.1 ^^ y.2.1, x.2.2 ^^ y.2.2)
theorem clo_of {p a e u : Int} (hp : Pr p) (h : Spl p a e u) : clo p a = (od e, nr p u) := by
  unfold clo
  rw [spl_eq (by have := hp.1; omega) h]
theorem clo_mul {p a b : Int} (hp : Pr p) (ha : a ≠ 0) (hb : b ≠ 0) : clo p (a * b) = xo (clo p a) (clo p b) := by
  have h := spl_is hp.1 ha
  have g := spl_is hp.1 hb
  rw [clo_of hp (h.mul hp g), od_add, nr_mul hp h.nd g.nd]
  rfl
theorem xo_self (x : Bool × Bool) : xo x x = (false, false) := by obtain ⟨a, b⟩ := x; cases a <;> cases b <;> rfl
/-- the sign at a place: yes or no -/
noncomputable def hil (p a b : Int) : Bool := if p = 0 then decide (0 < a) || decide (0 < b) else if p = 2 then f2 (cl2 a) (cl2 b) else fo (od ((p - 1) / 2)) (clo p a) (clo p b)
def Pl (p : Int) : Prop := p = 0 ∨ Pr p
section
variable {p a b c : Int}
end
end Mi

/-! free of squares -/
namespace Mi
theorem ex_prime : ∀ (n : Nat) (k : Int), k.natAbs ≤ n → 2 ≤ k.natAbs → ∃ q, Pr q ∧ q ∣ k
  | 0, k, h1, h2 => by omega
  | n + 1, k, h1, h2 => by
    by_cases hp : Pr (k.natAbs : Int)
    · exact ⟨_, hp, Int.natAbs_dvd.mpr (Int.dvd_refl k)⟩
    · have hx : ∃ e, 2 ≤ e ∧ e < (k.natAbs : Int) ∧ e ∣ (k.natAbs : Int) := by
        refine Classical.byContradiction fun hno => hp ⟨by omega, fun e h3 h4 h5 => hno ⟨e, h3, h4, h5⟩⟩
      obtain ⟨e, h3, h4, h5⟩ := hx
      obtain ⟨q, h6, h7⟩ := ex_prime n e (by omega) (by omega)
      exact ⟨q, h6, Int.dvd_trans h7 (Int.dvd_natAbs.mp h5)⟩
theorem msq (x : Int) : 0 ≤ x * x := by
  rw [← Int.natAbs_mul_self]
  exact Int.mul_nonneg (Int.natCast_nonneg _) (Int.natCast_nonneg _)
structure Sqf (s : Int) : Prop where
  ne : s ≠ 0
  nd : ∀ q, Pr q → ¬ q * q ∣ s
theorem sqf_one : Sqf 1 := ⟨by decide, fun q hq h => nd_one' hq (Int.dvd_trans (Int.dvd_mul_right q q) h)⟩
theorem Sqf.neg {s : Int} (h : Sqf s) : Sqf (-s) := ⟨by have := h.ne; omega, fun q hq g => h.nd q hq ((Int.dvd_neg).mp g)⟩
theorem Sqf.mulp {s q : Int} (h : Sqf s) (hq : Pr q) (hn : ¬ q ∣ s) : Sqf (s * q) := by
  have hq1 := hq.1
  refine ⟨Int.mul_ne_zero h.ne (by omega), fun r hr hd => ?_⟩
  by_cases e : r = q
  · subst e
    obtain ⟨t, ht⟩ := hd
    refine hn ⟨t, ?_⟩
    refine Int.eq_of_mul_eq_mul_right (show r ≠ 0 by omega) ?_
    rw [ht]
    grind
  · have h1 : ¬ r ∣ q := fun g => e (by
      have h2 := hr.1
      have h3 := Int.le_of_dvd (by omega) g
      by_cases h4 : r < q
      · exact absurd g (hq.2 r h2 h4)
      · omega)
    have h2 : Int.gcd (r * r) q = 1 := by
      have h3 : Int.gcd q r = 1 := by rw [Int.gcd_comm]; exact (by
        have := pr_gcd hq (l := r) fun g => h1 (by
          have h5 := Int.le_of_dvd (by have := hr.1; omega) g
          by_cases h6 : q < r
          · exact absurd g (hr.2 q hq1 h6)
          · have : q = r := by omega
            rw [this]
            exact Int.dvd_refl r)
        exact this)
      rw [Int.gcd_comm, Int.gcd_mul_right_right_of_gcd_eq_one h3]
      exact h3
    rw [Int.mul_comm s q] at hd
    have h4 := Int.dvd_gcd_mul_iff_dvd_mul.mpr hd
    rw [h2, Int.natCast_one, Int.one_mul] at h4
    exact h.nd r hr h4
theorem Sqf.dvd {s t : Int} (h : Sqf s) (hd : ∀ q, Pr q → q ∣ s → q ∣ t) : s ∣ t := by
  obtain ⟨u, hu⟩ := Int.gcd_dvd_left s t
  have hg : (Int.gcd s t : Int) ≠ 0 := fun e => h.ne (by rw [e, Int.zero_mul] at hu; exact hu)
  have hu0 : u ≠ 0 := fun e => h.ne (by rw [e, Int.mul_zero] at hu; exact hu)
  by_cases h1 : 2 ≤ u.natAbs
  · exfalso
    obtain ⟨q, hq, hqu⟩ := ex_prime _ u (Nat.le_refl _) h1
    have h2 : q ∣ s := by rw [hu]; exact Int.dvd_trans hqu (Int.dvd_mul_left _ _)
    have h3 : q ∣ (Int.gcd s t : Int) := Int.dvd_coe_gcd h2 (hd q hq h2)
    exact h.nd q hq (by rw [hu]; exact Int.mul_dvd_mul h3 hqu)
  · have h2 : u = 1 ∨ u = -1 := by omega
    have h3 := Int.gcd_dvd_right s t
    rcases h2 with rfl | rfl
    · rw [Int.mul_one] at hu
      rw [hu]
      exact h3
    · rw [Int.mul_neg, Int.mul_one] at hu
      rw [hu]
      exact (Int.neg_dvd).mpr h3
theorem sqf_val {s q : Int} (h : Sqf s) (hq : Pr q) : (spl q s).1 = if q ∣ s then 1 else 0 := by
  have hs := spl_is hq.1 h.ne
  by_cases hd : q ∣ s
  · rw [if_pos hd]
    have h0 := hs.e0
    have h1 : (spl q s).1 ≠ 0 := fun e => by
      have := hs.eq
      rw [e] at this
      have h2 : q ^ 0 * (spl q s).2 = s := this
      rw [Int.pow_zero, Int.one_mul] at h2
      exact hs.nd (by rw [h2]; exact hd)
    have h2 : ¬ 2 ≤ (spl q s).1 := fun h2 => h.nd q hq (by
      rw [← hs.eq, show (spl q s).1.toNat = (((spl q s).1.toNat - 2) + 1) + 1 by omega, Int.pow_succ, Int.pow_succ]
      exact ⟨q ^ ((spl q s).1.toNat - 2) * (spl q s).2, by grind⟩)
    omega
  · rw [if_neg hd, spl_eq (by have := hq.1; omega) (Spl.unit hd)]
/-- the part free of squares is one alone -/
theorem sqf_half {s t m n : Int} (hs : Sqf s) (ht : Sqf t) (hm : m ≠ 0) (hn : n ≠ 0) (e : s * (m * m) = t * (n * n)) : s ∣ t := by
  refine hs.dvd fun q hq hd => ?_
  have h1 : (clo q (s * (m * m))).1 = (clo q s).1 := by
    rw [clo_mul hq hs.ne (Int.mul_ne_zero hm hm), clo_mul hq hm hm, xo_self]
    show ((clo q s).1 ^^ false) = _
    simp
  have h2 : (clo q (t * (n * n))).1 = (clo q t).1 := by
    rw [clo_mul hq ht.ne (Int.mul_ne_zero hn hn), clo_mul hq hn hn, xo_self]
    show ((clo q t).1 ^^ false) = _
    simp
  rw [← e, h1] at h2
  have h3 : od (spl q s).1 = od (spl q t).1 := h2
  rw [sqf_val hs hq, sqf_val ht hq, if_pos hd] at h3
  refine Classical.byContradiction fun hno => ?_
  rw [if_neg hno] at h3
  exact absurd h3 (by decide)
theorem sqf_uniq {s t m n : Int} (hs : Sqf s) (ht : Sqf t) (hm : m ≠ 0) (hn : n ≠ 0) (e : s * (m * m) = t * (n * n)) : s = t := by
  have h1 := sqf_half hs ht hm hn e
  have h2 := sqf_half ht hs hn hm e.symm
  have h3 := Nat.dvd_antisymm (Int.natAbs_dvd_natAbs.mpr h1) (Int.natAbs_dvd_natAbs.mpr h2)
  have hmm : 0 < m * m := by
    rcases Int.lt_or_lt_of_ne hm with h | h
    · exact Int.mul_pos_of_neg_of_neg h h
    · exact Int.mul_pos h h
  have hnn : 0 < n * n := by
    rcases Int.lt_or_lt_of_ne hn with h | h
    · exact Int.mul_pos_of_neg_of_neg h h
    · exact Int.mul_pos h h
  have a1 := hs.ne
  have a2 := ht.ne
  by_cases h4 : 0 < s <;> by_cases h5 : 0 < t
  · omega
  · have := Int.mul_pos h4 hmm
    have := Int.mul_neg_of_neg_of_pos (show t < 0 by omega) hnn
    omega
  · have := Int.mul_neg_of_neg_of_pos (show s < 0 by omega) hmm
    have := Int.mul_pos h5 hnn
    omega
  · omega
/-- of the parts, the odd ones once, and the halves -/
def wf : List (Int × Int) → Int
  | [] => 1
  | x :: r => (if x.2 % 2 = 1 then x.1 else 1) * wf r
def vf : List (Int × Int) → Int
  | [] => 1
  | x :: r => x.1 ^ (x.2.toNat / 2) * vf r
theorem pf_wv : ∀ {f : List (Int × Int)}, (∀ x ∈ f, 1 ≤ x.2) → pf f = wf f * (vf f * vf f)
  | [], _ => rfl
  | x :: r, h => by
    show x.1 ^ x.2.toNat * pf r = (if x.2 % 2 = 1 then x.1 else 1) * wf r * (x.1 ^ (x.2.toNat / 2) * vf r * (x.1 ^ (x.2.toNat / 2) * vf r))
    rw [pf_wv fun y hy => h y (List.mem_cons_of_mem _ hy)]
    have h1 := h x List.mem_cons_self
    have e : x.1 ^ x.2.toNat = (if x.2 % 2 = 1 then x.1 else 1) * (x.1 ^ (x.2.toNat / 2) * x.1 ^ (x.2.toNat / 2)) := by
      rw [← Int.pow_add]
      by_cases h2 : x.2 % 2 = 1
      · rw [if_pos h2]
        conv => lhs; rw [show x.2.toNat = (x.2.toNat / 2 + x.2.toNat / 2) + 1 by omega, Int.pow_succ]
        exact Int.mul_comm _ _
      · rw [if_neg h2, Int.one_mul]
        congr 1
        omega
    rw [e]
    grind
theorem vf_ne {f : List (Int × Int)} (h : ∀ x ∈ f, Pr x.1) : vf f ≠ 0 := by
  induction f with
  | nil => decide
  | cons x r ih =>
    have := (h x List.mem_cons_self).1
    exact Int.mul_ne_zero (by
      have : (0 : Int) < x.1 ^ (x.2.toNat / 2) := Int.pow_pos (by omega)
      omega) (ih fun y hy => h y (List.mem_cons_of_mem _ hy))
theorem wf_nd {q : Int} (hq : Pr q) {f : List (Int × Int)} (h : ∀ x ∈ f, Pr x.1) (hn : ∀ x ∈ f, q ≠ x.1) : ¬ q ∣ wf f := by
  induction f with
  | nil => exact nd_one' hq
  | cons x r ih =>
    intro hd
    have hd : q ∣ (if x.2 % 2 = 1 then x.1 else 1) * wf r := hd
    rcases hq.dvd_mul hd with hd | hd
    · split at hd
      · have h1 := hq.1
        have h2 := h x List.mem_cons_self
        have h3 := Int.le_of_dvd (by have := h2.1; omega) hd
        by_cases h4 : q < x.1
        · exact h2.2 q h1 h4 hd
        · exact hn x List.mem_cons_self (by omega)
      · exact nd_one' hq hd
    · exact ih (fun y hy => h y (List.mem_cons_of_mem _ hy)) (fun y hy => hn y (List.mem_cons_of_mem _ hy)) hd
theorem wf_sqf {f : List (Int × Int)} (h : ∀ x ∈ f, Pr x.1) (hd : f.Pairwise fun x y => x.1 < y.1) : Sqf (wf f) := by
  induction f with
  | nil => exact sqf_one
  | cons x r ih =>
    rw [List.pairwise_cons] at hd
    have h1 := ih (fun y hy => h y (List.mem_cons_of_mem _ hy)) hd.2
    show Sqf ((if x.2 % 2 = 1 then x.1 else 1) * wf r)
    split
    · rw [Int.mul_comm]
      exact h1.mulp (h x List.mem_cons_self) (wf_nd (h x List.mem_cons_self) (fun y hy => h y (List.mem_cons_of_mem _ hy)) fun y hy e => by
        have := hd.1 y hy
        omega)
    · rw [Int.one_mul]
      exact h1
open Classical in
theorem free_of_eq {k s m : Int} {n : Nat} (hs : Sqf s) (hm : m ≠ 0) (e : k = s * (m * m)) (sk : Sz n k) (hn : n ≤ 1900000) (hl : ∀ f l, Tr (k.natAbs : Int) f l → (∃ x : Int, x * x = l) ∨ l < 1073741824) : Mir.free_of_ k = some s := by
  have hmm : 0 < m * m := by
    rcases Int.lt_or_lt_of_ne hm with h | h
    · exact Int.mul_pos_of_neg_of_neg h h
    · exact Int.mul_pos h h
  have hs0 := hs.ne
  have hk : k ≠ 0 := by rw [e]; exact Int.mul_ne_zero hs0 (by omega)
  refine Tot.is ?_
  unfold Mir.free_of_
  obtain ⟨⟨f, l⟩, e1, h⟩ := tried_tot (k := (k.natAbs : Int)) (by omega)
  rw [e1]
  simp only [bS, bA, bI]
  have hp : ∀ x ∈ f, Pr x.1 := fun x hx => (h.pr x hx).1
  have hpos := h.pos
  have sl : Sz n l := sk.le (by
    have := dvd_le (⟨pf f, by rw [Int.mul_comm]; exact h.eq.symm⟩ : l ∣ (k.natAbs : Int)) (by omega)
    omega)
  simp only at h hpos sl hp ⊢
  rw [is_square_eq (by omega) sl hn]
  simp only [bS]
  have hwv := pf_wv fun x hx => (h.pr x hx).2.1
  have hv := vf_ne hp
  have hw := wf_sqf hp h.rise
  -- what the loop starts with
  have hstart : ∃ a r : Int, Tot (cond (decide (∃ x : Int, x * x = l)) (some (1 : Int)) (some l)) (· = a) ∧ a < 1073741824 ∧ 1 ≤ a ∧ r ≠ 0 ∧ l = a * (r * r) ∧ Sqf (a * wf f) := by
    by_cases hsq : ∃ x : Int, x * x = l
    · obtain ⟨x, hx⟩ := hsq
      refine ⟨1, x, tot_is (by rw [decide_eq_true ⟨x, hx⟩]; rfl), by decide, by decide, fun h0 => ?_, by rw [Int.one_mul]; exact hx.symm, by rw [Int.one_mul]; exact hw⟩
      rw [h0] at hx
      omega
    · have hlt := (hl f l h).resolve_left hsq
      refine ⟨l, 1, tot_is (by rw [decide_eq_false hsq]; rfl), hlt, hpos, by decide, by omega, ?_⟩
      rcases h.left hlt with h1 | ⟨h1, h2⟩
      · exact absurd ⟨1, by rw [h1]; decide⟩ hsq
      · rw [Int.mul_comm]
        exact hw.mulp h1 (wf_nd h1 hp fun x hx g => by
          have := (h.pr x hx).2.2
          omega)
  obtain ⟨a, r, hT, ha1, ha2, hr, hlr, hsq⟩ := hstart
  refine tot_bind hT fun a' ea => ?_
  rw [show a' = a from ea]
  rw [decide_eq_false (by omega)]
  simp only [cond_false]
  have hkk : (k.natAbs : Int) = a * wf f * ((vf f * r) * (vf f * r)) := by
    rw [← h.eq, hwv, hlr]
    grind
  have hdv : a * wf f ∣ (k.natAbs : Int) := ⟨_, hkk⟩
  refine tot_bind (Q := fun z => z = a * wf f) (tot_for (fun rest s => s ≠ 0 ∧ s * wf rest = a * wf f ∧ ∀ x ∈ rest, x ∈ f) ⟨by omega, rfl, fun x hx => hx⟩ (fun x rest s ⟨h0, h1, h2⟩ => ?_) fun s ⟨_, h1, _⟩ => by rw [← h1]; exact (Int.mul_one s).symm) fun z hz => ?_
  · have hx := h.pr x (h2 x List.mem_cons_self)
    have hx2 := hx.1.1
    have hs1 : s ∣ (k.natAbs : Int) := Int.dvd_trans ⟨_, h1.symm⟩ hdv
    have ss : Sz n s := sk.le (by have := dvd_le hs1 (by omega); omega)
    have sx : Sz 16 x.1 := by unfold Sz; omega
    have h1 : s * ((if x.2 % 2 = 1 then x.1 else 1) * wf rest) = a * wf f := h1
    refine tot_if (fun ho => ?_) fun ho => tot_some ⟨h0, ?_, fun y hy => h2 y (List.mem_cons_of_mem _ hy)⟩
    · rw [if_pos ho] at h1
      rw [mulO_sz ss sx (by omega)]
      exact tot_some ⟨Int.mul_ne_zero h0 (by omega), by rw [Int.mul_assoc]; exact h1, fun y hy => h2 y (List.mem_cons_of_mem _ hy)⟩
    · rw [if_neg ho, Int.one_mul] at h1
      exact h1
  · subst hz
    have hvr : vf f * r ≠ 0 := Int.mul_ne_zero hv hr
    refine tot_if (fun hneg => tot_some ?_) fun hneg => tot_some ?_
    · rw [Int.zero_sub]
      refine sqf_uniq hsq.neg hs hvr hm ?_
      rw [← e, Int.neg_mul, ← hkk]
      omega
    · refine sqf_uniq hsq hs hvr hm ?_
      rw [← e, ← hkk]
      omega
end Mi

/-! numbers alike but for squares -/
namespace Mi
def SameSq (x y : Int) : Prop := ∃ m n : Int, m ≠ 0 ∧ n ≠ 0 ∧ x * (m * m) = y * (n * n)
section
variable {x y z a b c d s t p : Int}
theorem SameSq.refl (x : Int) : SameSq x x := ⟨1, 1, by decide, by decide, rfl⟩
theorem SameSq.symm (h : SameSq x y) : SameSq y x := by
  obtain ⟨m, n, hm, hn, e⟩ := h
  exact ⟨n, m, hn, hm, e.symm⟩
theorem SameSq.trans (h : SameSq x y) (g : SameSq y z) : SameSq x z := by
  obtain ⟨m, n, hm, hn, e⟩ := h
  obtain ⟨m', n', hm', hn', e'⟩ := g
  refine ⟨m * m', n * n', Int.mul_ne_zero hm hm', Int.mul_ne_zero hn hn', ?_⟩
  calc x * (m * m' * (m * m')) = x * (m * m) * (m' * m') := by grind
    _ = y * (n * n) * (m' * m') := by rw [e]
    _ = y * (m' * m') * (n * n) := by grind
    _ = z * (n' * n') * (n * n) := by rw [e']
    _ = z * (n * n' * (n * n')) := by grind
theorem SameSq.mul (h : SameSq a b) (g : SameSq c d) : SameSq (a * c) (b * d) := by
  obtain ⟨m, n, hm, hn, e⟩ := h
  obtain ⟨m', n', hm', hn', e'⟩ := g
  refine ⟨m * m', n * n', Int.mul_ne_zero hm hm', Int.mul_ne_zero hn hn', ?_⟩
  calc a * c * (m * m' * (m * m')) = a * (m * m) * (c * (m' * m')) := by grind
    _ = b * (n * n) * (d * (n' * n')) := by rw [e, e']
    _ = b * d * (n * n' * (n * n')) := by grind
theorem SameSq.of_eq (e : x = y) : SameSq x y := e ▸ SameSq.refl x
theorem SameSq.sq (hc : c ≠ 0) (x : Int) : SameSq (c * (c * x)) x := ⟨1, c, by decide, hc, by grind⟩
theorem SameSq.uniq (hs : Sqf s) (ht : Sqf t) (h : SameSq s t) : s = t := by
  obtain ⟨m, n, hm, hn, e⟩ := h
  exact sqf_uniq hs ht hm hn e
theorem sq_pos {m : Int} (hm : m ≠ 0) : 0 < m * m := by
  rcases Int.lt_or_lt_of_ne hm with h | h
  · exact Int.mul_pos_of_neg_of_neg h h
  · exact Int.mul_pos h h
theorem mul_pos_iff {x k : Int} (hk : 0 < k) : 0 < x * k ↔ 0 < x := by
  constructor
  · intro h
    refine Classical.byContradiction fun g => ?_
    have := Int.mul_nonpos_of_nonpos_of_nonneg (show x ≤ 0 by omega) (show 0 ≤ k by omega)
    omega
  · exact fun h => Int.mul_pos h hk
theorem SameSq.sign (h : SameSq x y) : 0 < x ↔ 0 < y := by
  obtain ⟨m, n, hm, hn, e⟩ := h
  rw [← mul_pos_iff (x := x) (sq_pos hm), ← mul_pos_iff (x := y) (sq_pos hn), e]
/-! ### free of squares -/
theorem Sqf.of_dvd (h : Sqf t) (hd : s ∣ t) : Sqf s := ⟨fun e => h.ne (by obtain ⟨u, hu⟩ := hd; rw [hu, e, Int.zero_mul]), fun q hq g => h.nd q hq (Int.dvd_trans g hd)⟩
/-! ### products over a row -/
end
end Mi

/-! conditions that are settled, not by rfl: the kernel is not to unfold what stands in their branches -/
namespace Mi
theorem cF {α : Type} {a b : α} : cond false a b = b := by
  have h : ∀ c : Bool, c = false → cond c a b = b := fun c e => by subst e; rfl
  exact h false rfl
theorem cT {α : Type} {a b : α} : cond true a b = a := by
  have h : ∀ c : Bool, c = true → cond c a b = a := fun c e => by subst e; rfl
  exact h true rfl
end Mi

/-! the begin and the rest of a list -/
namespace Mi
end Mi
namespace Mi
end Mi

/-! the great drawn number of laws k37 on -/
namespace Mi
theorem cell_at_tot (l : List Int) (k : Int) (h : 0 ≤ k) (hb : ∀ z ∈ l, Sz 1048576 z) : Tot (Mir.law_cell_at_ ⟨l⟩ k) fun c => Sz 1048576 c := by
  unfold Mir.law_cell_at_
  simp only [bS, bA, bI]
  refine tot_if (fun h1 => ?_) fun _ => tot_some (Sz.mono (m := 1) (by decide) (by decide))
  obtain ⟨x, e, hx⟩ := ixO_in h h1
  exact tot_eq e (hb x hx)
theorem big_tot {c k : Int} (h : 0 ≤ k) (hk : k ≤ 1000) (sc : Sz 1048576 c) : Tot (Mir.law_big_ c k) fun n => Sz 1048576 n := by
  unfold Mir.law_big_
  simp only [bS, bA, bI]
  refine tot_if (fun _ => tot_some sc) fun h1 => ?_
  rw [rangeO_s (by decide) (by decide) (by decide) (by decide)]
  simp only [bS]
  refine tot_forI2 (fun i s => Sz (33 * i.toNat + 33) s) (by decide) (by show Sz 33 0; decide) (fun i s h3 h4 hs => ?_) fun s h => h.mono (by decide)
  have hm : 0 ≤ (c.natAbs : Int) % 2147483647 ∧ (c.natAbs : Int) % 2147483647 < 2147483647 := ⟨Int.emod_nonneg _ (by decide), Int.emod_lt_of_pos _ (by decide)⟩
  generalize (c.natAbs : Int) % 2147483647 = m at hm
  rw [mulO_s (by omega) (by omega) (by omega) (by omega), mulO_s (by omega) (by omega) (by omega) (by omega)]
  simp only [bS]
  rw [mulO_s (by omega) (by omega) (by omega) (by omega)]
  simp only [bS]
  have hii : 0 ≤ i * i ∧ i * i ≤ 9 * 9 := ⟨Int.mul_nonneg h3 h3, Int.mul_le_mul (by omega) (by omega) h3 (by decide)⟩
  rw [mulO_s (by omega) (by omega) (by omega) (by omega)]
  simp only [bS]
  generalize (m + 97 * k + 131 * i + 13) * (16807 + i * i + k) = z
  have hz : 0 ≤ z % 2147483647 ∧ z % 2147483647 < 2147483647 := ⟨Int.emod_nonneg _ (by decide), Int.emod_lt_of_pos _ (by decide)⟩
  rw [mulO_sz hs (n := 32) (by decide) (by omega), mulO_s (by omega) (by omega) (by omega) (by omega)]
  simp only [bS]
  refine tot_some ?_
  have e : 33 * (i + 1).toNat + 33 = 33 * i.toNat + 33 + 32 + 1 := by omega
  rw [e]
  have hA : Sz (33 * i.toNat + 33 + 32) (s * 2147483659) := hs.mul (n := 32) (by decide)
  refine Sz.add hA (Sz.mono (m := 32) ?_ (by omega))
  have := Int.emod_nonneg (z % 2147483647 * 48271) (show (2147483647 : Int) ≠ 0 by decide)
  have := Int.emod_lt_of_pos (z % 2147483647 * 48271) (show (0 : Int) < 2147483647 by decide)
  unfold Sz
  omega
end Mi

/-! rows, and whether they have a zero at a place -/
namespace Mi
def Row (r : List Int) : Prop := 1 ≤ r.length ∧ r.length ≤ 8 ∧ ∀ k ∈ r, k ≠ 0 ∧ k.natAbs < 1073741824
def Szs (n : Nat) (r : List Int) : Prop := ∀ k ∈ r, k ≠ 0 ∧ Sz n k
theorem is_row_eq {r : List Int} (h : Row r) : Mir.is_row_ r = some true := by
  refine Tot.is ?_
  unfold Mir.is_row_
  simp only [bS, bA, bI]
  rw [decide_eq_false (show ¬ (r.length : Int) < 1 by have := h.1; omega), decide_eq_false (show ¬ 8 < (r.length : Int) by have := h.2.1; omega)]
  simp only [bS, Bool.or_false, cond_false]
  refine tot_bind (Q := fun o => o = .inl ()) (tot_forRI (fun _ => True) trivial (fun i s hi _ => ?_) fun _ _ => rfl) fun o ho => by subst ho; exact tot_some rfl
  obtain ⟨h1, h2⟩ := h.2.2 i hi
  rw [decide_eq_false h1, decide_eq_false (show ¬ 1073741824 ≤ (i.natAbs : Int) by omega)]
  exact tot_some trivial
end Mi

/-! values of any kind: what is no deeper than told, == of such, lists of whole numbers -/
namespace Mi
open PySem
/-- writable, not deep -/
def Low (k : Nat) (d : PyData) : Prop := d.canLay0 = true ∧ d.depth ≤ k
section
variable {k : Nat} {d : PyData} {xs : List PyData}
theorem Low.mono {j : Nat} (h : Low j d) (l : j ≤ k) : Low k d := ⟨h.1, Nat.le_trans h.2 l⟩
theorem low_int (n : Int) : Low k (.int n) := ⟨rfl, Nat.zero_le _⟩
theorem low_bool (b : Bool) : Low k (.bool b) := ⟨rfl, Nat.zero_le _⟩
theorem low_none : Low k .none := ⟨rfl, Nat.zero_le _⟩
theorem low_all : ∀ {xs : List PyData}, (∀ x ∈ xs, Low k x) → PyData.canLayAll0 xs = true ∧ PyData.depthAll xs ≤ k
  | [], _ => ⟨rfl, Nat.zero_le _⟩
  | x :: xs, h => by
    obtain ⟨h1, h2⟩ := low_all (xs := xs) fun y hy => h y (List.mem_cons_of_mem _ hy)
    obtain ⟨h3, h4⟩ := h x List.mem_cons_self
    refine ⟨?_, ?_⟩
    · show (x.canLay0 && PyData.canLayAll0 xs) = true
      rw [h1, h3]
      rfl
    · show max x.depth (PyData.depthAll xs) ≤ k
      exact Nat.max_le.mpr ⟨h4, h2⟩
theorem low_list (h : ∀ x ∈ xs, Low k x) : Low (k + 1) (.list xs) := ⟨(low_all h).1, Nat.succ_le_succ (low_all h).2⟩
theorem Low.sh (h : Low 64 d) : SeqAt.shaped d = true := by
  unfold SeqAt.shaped
  rw [h.1, decide_eq_true h.2]
  rfl
theorem dyEq_low {a b : PyData} (ha : Low 64 a) (hb : Low 64 b) : dyEq a b = some (PyData.eqv a b) := by
  unfold dyEq
  rw [ha.sh, hb.sh]
  rfl
theorem dyNe_low {a b : PyData} (ha : Low 64 a) (hb : Low 64 b) : dyNe a b = some (!PyData.eqv a b) := by
  unfold dyNe
  rw [ha.sh, hb.sh]
  rfl
theorem dyNe_self (h : Low 64 d) : dyNe d d = some false := by rw [dyNe_low h h, SeqAt.eqv_refl d h.1]; rfl
theorem dyEq_self (h : Low 64 d) : dyEq d d = some true := by rw [dyEq_low h h, SeqAt.eqv_refl d h.1]
theorem eqv_int (a b : Int) : PyData.eqv (.int a) (.int b) = decide (a = b) := by
  show (a == b) = _
  rw [Bool.eq_iff_iff]
  simp
theorem dyEq_int (a b : Int) : dyEq (.int a) (.int b) = some (decide (a = b)) := by rw [dyEq_low (low_int a) (low_int b), eqv_int]
/-- a whole number, no truth -/
def wh (d : PyData) : Bool := (dyK false true true false false false false d) && !(dyK false true false false false false false d)
def isL (d : PyData) : Bool := dyK false false false false true false false d
theorem py_dys (xs : List PyData) : PyOf.py xs = PyData.list xs := congrArg PyData.list (List.map_id xs)
end
end Mi

/-! what is no row: rows of any kinds -/
namespace Mi
open PySem
section
variable {l : List PyData} {row : List Int}
theorem forR_nx9 {S R α : Type} {b : S → α → Option (Fl S R)} {x : α} {xs : List α} {s s' : S} (h : b s x = some (.nx s')) : forR b (x :: xs) s = forR b xs s' := by
  show (b s x).bind _ = _
  rw [h]
  rfl
theorem forR_rt9 {S R α : Type} {b : S → α → Option (Fl S R)} {x : α} {xs : List α} {s : S} {r : R} (h : b s x = some (.rt r)) : forR b (x :: xs) s = some (.inr r) := by
  show (b s x).bind _ = _
  rw [h]
  rfl
theorem filO_pure9 {α : Type} (b : α → Bool) : ∀ xs : List α, filO (fun x => some (b x)) (fun x => some x) xs = some (xs.filter b)
  | [] => rfl
  | x :: xs => by
    show cond (b x) ((some x).bind fun y => (filO _ _ xs).bind fun ys => some (y :: ys)) (filO _ _ xs) = _
    rw [filO_pure9 b xs, List.filter_cons]
    cases b x <;> rfl
theorem row_len0 : Mir.is_row__2 [] = some false := rfl
theorem row_long (h : 8 < l.length) : Mir.is_row__2 l = some false := by
  unfold Mir.is_row__2
  simp only [bS]
  rw [decide_eq_true (show 8 < (l.length : Int) by omega), Bool.or_true, cT]
/-- an entry that is no number of a row -/
def bad1 (d : PyData) : Prop := (((some (!(dyK false true true false false false false d))).bind fun b => cond b (some true) ((some (dyK false true false false false false false d)).bind fun b => cond b (some true) ((dyEq d (PyData.int 0)).bind fun b => cond b (some true) (((dyI d).bind fun x => some ((x.natAbs : Int))).bind fun x => (some (1073741824)).bind fun y => some (decide (y ≤ x)))))) = some true)
theorem bad_int {n : Int} (h : n = 0 ∨ 1073741824 ≤ n.natAbs) : bad1 (.int n) := by
  unfold bad1
  rw [dyEq_int]
  show ((some (!true)).bind fun b => cond b (some true) ((some false).bind fun b => cond b (some true) ((some (decide (n = 0))).bind fun b => cond b (some true) (((some n).bind fun x => some ((x.natAbs : Int))).bind fun x => (some (1073741824)).bind fun y => some (decide (y ≤ x)))))) = some true
  simp only [bS, Bool.not_true, cF]
  by_cases e : n = 0
  · rw [decide_eq_true e, cT]
  · rw [decide_eq_false e, cF, decide_eq_true (by omega)]
theorem row_bad : ∀ {a : List Int} {d : PyData} {r : List PyData}, (∀ k ∈ a, k ≠ 0 ∧ k.natAbs < 1073741824) → bad1 d → (a.map PyData.int ++ d :: r).length ≤ 8 → Mir.is_row__2 (a.map PyData.int ++ d :: r) = some false := fun {a d r} ha hd hl => by
  unfold Mir.is_row__2
  simp only [bS]
  have h1 : 1 ≤ (a.map PyData.int ++ d :: r).length := by rw [List.length_append, List.length_cons]; omega
  rw [decide_eq_false (show ¬ (((a.map PyData.int ++ d :: r).length : Nat) : Int) < 1 by omega), decide_eq_false (show ¬ 8 < (((a.map PyData.int ++ d :: r).length : Nat) : Int) by omega), Bool.or_false, cF]
  have k : ∀ {a : List Int}, (∀ k ∈ a, k ≠ 0 ∧ k.natAbs < 1073741824) → forR (fun (s1 : Unit) (i1 : PyData) => ((some (!(dyK false true true false false false false i1))).bind fun b => cond b (some true) ((some (dyK false true false false false false false i1)).bind fun b => cond b (some true) ((dyEq i1 (PyData.int 0)).bind fun b => cond b (some true) (((dyI i1).bind fun x => some ((x.natAbs : Int))).bind fun x => (some (1073741824)).bind fun y => some (decide (y ≤ x)))))).bind fun b => cond b ((some (false)).bind fun x => some (.rt x)) (some (.nx ()))) (a.map PyData.int ++ d :: r) () = some (.inr false) := fun {a} => by
    induction a with
    | nil =>
      intro _
      unfold bad1 at hd
      refine forR_rt9 ?_
      rw [hd]
      rfl
    | cons n a ih =>
      intro ha
      have hn := ha n List.mem_cons_self
      have ih := ih fun k hk => ha k (List.mem_cons_of_mem _ hk)
      refine (forR_nx9 (s' := ()) ?_).trans ih
      show Option.bind (Option.bind (some (!true)) fun b => cond b (some true) ((some false).bind fun b => cond b (some true) ((dyEq (PyData.int n) (PyData.int 0)).bind fun b => cond b (some true) (((some n).bind fun x => some ((x.natAbs : Int))).bind fun x => (some (1073741824)).bind fun y => some (decide (y ≤ x)))))) _ = _
      rw [dyEq_int]
      simp only [bS, Bool.not_true, cF]
      rw [decide_eq_false hn.1, cF, decide_eq_false (show ¬ (1073741824 : Int) ≤ n.natAbs by omega)]
      simp only [bS, cF]
  simp only [bS, bA] at k ⊢
  rw [k ha]
  rfl
end
theorem cut_mem {α : Type} {xs : List α} {lo hi : Option Int} {x : α} (h : x ∈ cutL xs lo hi) : x ∈ xs := List.mem_of_mem_drop (List.mem_of_mem_take h)
theorem cut_takeL {α : Type} {xs : List α} {k : Int} (h0 : 0 ≤ k) (h : k ≤ xs.length) : (cutL xs none (some k)).length = k.toNat := by
  unfold cutL cutIx
  simp only
  rw [if_neg (by omega), List.length_take, List.length_drop]
  omega
theorem cut_dropL {α : Type} {xs : List α} {k : Int} (h0 : 0 ≤ k) (h : k ≤ xs.length) : (cutL xs (some k) none).length = xs.length - k.toNat := by
  unfold cutL cutIx
  simp only
  rw [if_neg (by omega), List.length_take, List.length_drop]
  omega
theorem catO_le {α : Type} {xs ys : List α} (h1 : xs.length ≤ 1000) (h2 : ys.length ≤ 1000) : catO xs ys = some (xs ++ ys) := if_pos (by omega)
theorem low_pys (a : List Int) : ∀ x ∈ a.map (PyOf.py : Int → PyData), Low 3 x := fun x hx => by
  obtain ⟨n, _, e⟩ := List.mem_map.mp hx
  rw [← e]
  exact low_int n
end Mi

/-! the small primes alone (out of smp) -/
namespace Mi
def prd : List Int → Int
  | [] => 1
  | k :: r => k * prd r
theorem pr2 : Pr 2 := ⟨by decide, fun e _ _ => by omega⟩
theorem pr3 : Pr 3 := pr_by (k := 3) 9 (by decide +kernel)
theorem pr5 : Pr 5 := pr_by (k := 5) 9 (by decide +kernel)
theorem pr7 : Pr 7 := pr_by (k := 7) 9 (by decide +kernel)
theorem pr11 : Pr 11 := pr_by (k := 11) 9 (by decide +kernel)
theorem pr13 : Pr 13 := pr_by (k := 13) 9 (by decide +kernel)
theorem pr_odd {p : Int} (h : p ∈ [(3 : Int), 5, 7, 11, 13]) : Pr p ∧ p ≠ 2 ∧ p ≤ 13 := by
  simp only [List.mem_cons, List.not_mem_nil, or_false] at h
  rcases h with rfl | rfl | rfl | rfl | rfl
  · exact ⟨pr3, by decide, by decide⟩
  · exact ⟨pr5, by decide, by decide⟩
  · exact ⟨pr7, by decide, by decide⟩
  · exact ⟨pr11, by decide, by decide⟩
  · exact ⟨pr13, by decide, by decide⟩
theorem pr_all {p : Int} (h : p ∈ [(2 : Int), 3, 5, 7, 11, 13]) : Pr p ∧ p ≤ 13 := by
  rcases List.mem_cons.mp h with rfl | h
  · exact ⟨pr2, by decide⟩
  · exact ⟨(pr_odd h).1, (pr_odd h).2.2⟩
section
/-! ### the small primes -/
def SM : List Int := [2, 3, 5, 7, 11, 13]
def P7 : List Int := [0, 2, 3, 5, 7, 11, 13]
theorem sm_pr {p : Int} (h : p ∈ SM) : Pr p ∧ p ≤ 13 := pr_all h
theorem all_sm {q : Int} (hq : Pr q) (h : q ∣ 30030) : q ∈ SM := by
  have e : (30030 : Int) = 2 * (3 * (5 * (7 * (11 * 13)))) := by decide
  rw [e] at h
  have one : ∀ {r : Int}, Pr r → q ∣ r → q = r := fun hr g => hq.eq_of_dvd' hr g
  unfold SM
  simp only [List.mem_cons, List.not_mem_nil, or_false]
  rcases hq.dvd_mul h with h | h
  · exact .inl (one pr2 h)
  rcases hq.dvd_mul h with h | h
  · exact .inr (.inl (one pr3 h))
  rcases hq.dvd_mul h with h | h
  · exact .inr (.inr (.inl (one pr5 h)))
  rcases hq.dvd_mul h with h | h
  · exact .inr (.inr (.inr (.inl (one pr7 h))))
  rcases hq.dvd_mul h with h | h
  · exact .inr (.inr (.inr (.inr (.inl (one pr11 h)))))
  · exact .inr (.inr (.inr (.inr (.inr (one pr13 h)))))
theorem sqf_all : Sqf 30030 := by
  have h := (((((sqf_one.mulp pr2 (by decide)).mulp pr3 (by decide)).mulp pr5 (by decide)).mulp pr7 (by decide)).mulp pr11 (by decide)).mulp pr13 (by decide)
  have e : (1 * 2 * 3 * 5 * 7 * 11 * 13 : Int) = 30030 := by decide
  rwa [e] at h
/-- what divides 30030 -/
theorem dv_ok {x : Int} (h : x ∣ 30030) : Sqf x ∧ (∀ q, Pr q → q ∣ x → q ∈ SM) ∧ x ≠ 0 ∧ x.natAbs ≤ 30030 :=
  ⟨sqf_all.of_dvd h, fun q hq g => all_sm hq (Int.dvd_trans g h), (sqf_all.of_dvd h).ne, by have := dvd_le h (by decide); omega⟩
end
end Mi

/-! the law's small number divides 30030 -/
namespace Mi
theorem law_small_tot (c : Int) : Tot (Mir.law_small_ c) fun n => n ∣ 30030 := by
  unfold Mir.law_small_
  simp only [bS, bA, bI]
  rw [mulO_s (by omega) (by omega) (by omega) (by omega)]
  simp only [bS]
  have hs : 1 - 2 * (c % 2) = 1 ∨ 1 - 2 * (c % 2) = -1 := by omega
  generalize 1 - 2 * (c % 2) = g at hs
  refine tot_bind (Q := fun s : Int × Int => s.1 ∣ 30030) (tot_for (fun rest s => s.1 * prd rest ∣ 30030 ∧ ∀ p ∈ rest, 1 ≤ p ∧ p ≤ 13) ⟨by show g * 30030 ∣ 30030; rcases hs with e | e <;> rw [e] <;> decide, by decide⟩ (fun p rest s ⟨h1, h2⟩ => ?_) fun s ⟨h1, _⟩ => Int.dvd_trans (Int.dvd_mul_right _ _) h1) fun s hs => tot_some hs
  have h3 : s.1 * (p * prd rest) ∣ 30030 := h1
  have h4 := (dv_ok (Int.dvd_trans (Int.dvd_mul_right _ _) h3)).2.2.2
  have hp := h2 p List.mem_cons_self
  refine tot_bind (Q := fun n => n * prd rest ∣ 30030) (tot_if (fun _ => ?_) fun _ => tot_some (Int.dvd_trans ⟨p, by grind⟩ h3)) fun n hn => tot_some ⟨hn, fun x hx => h2 x (List.mem_cons_of_mem _ hx)⟩
  rw [mulO_s (by omega) (by omega) (by omega) (by omega)]
  exact tot_some (by rw [Int.mul_assoc]; exact h3)
end Mi

/-! the laws' rows of small numbers times squares up to 144 -/
namespace Mi
/-- numbers up to 4324320 with small primes alone -/
def RowS (r : List Int) : Prop := ∀ k ∈ r, (k ≠ 0 ∧ k.natAbs ≤ 4324320) ∧ ∀ q, Pr q → q ∣ k → q ∈ SM
theorem law_rowS_tot (c : Int) {n : Int} (h1 : 1 ≤ n) (h8 : n ≤ 8) : Tot (Mir.law_row_ c n) fun r => (r.length : Int) = n ∧ RowS r := by
  unfold Mir.law_row_
  simp only [bS, bA, bI]
  rw [rangeO_s (by omega) (by omega) (by omega) (by omega)]
  simp only [bS]
  refine tot_bind (Q := fun s : List Int × Int => (s.1.length : Int) = n ∧ ∀ k ∈ s.1, (k ≠ 0 ∧ k.natAbs ≤ 4324320) ∧ ∀ q, Pr q → q ∣ k → q ∈ SM) (tot_forI2 (fun i (s : List Int × Int) => (s.1.length : Int) = i ∧ ∀ k ∈ s.1, (k ≠ 0 ∧ k.natAbs ≤ 4324320) ∧ ∀ q, Pr q → q ∣ k → q ∈ SM) (by omega) ⟨rfl, (by intro k hk; exact absurd hk List.not_mem_nil)⟩ (fun i s i0 i1 ⟨g1, g2⟩ => ?_) fun s h => h) fun s ⟨g1, g2⟩ => tot_some ⟨g1, g2⟩
  refine tot_bind (Q := fun m => 1 ≤ m ∧ m ≤ 12) (tot_if (fun _ => tot_some ⟨by omega, by omega⟩) fun _ => tot_some ⟨by decide, by decide⟩) fun m ⟨m1, m2⟩ => ?_
  refine tot_bind (law_small_tot s.2) fun x hx => ?_
  obtain ⟨x1, x2, x3, x4⟩ := dv_ok hx
  rw [mulO_sz (m := 20) (n := 10) (by unfold Sz; omega) (by unfold Sz; omega) (by decide)]
  simp only [bS]
  rw [mulO_sz (m := 40) (n := 10) (Sz.mul (m := 20) (n := 20) (by unfold Sz; omega) (by unfold Sz; omega)) (by unfold Sz; omega) (by decide)]
  simp only [bS]
  rw [show appO s.1 (x * m * m) = some (s.1 ++ [x * m * m]) from if_pos (by omega)]
  have hm : m * m ≤ 12 * 12 := Int.mul_le_mul m2 m2 (by omega) (by omega)
  have hm1 : 0 < m * m := sq_pos (by omega)
  have hk : (x * m * m).natAbs = x.natAbs * (m * m).natAbs := by rw [Int.mul_assoc, Int.natAbs_mul]
  have hk2 : x * m * m ≠ 0 ∧ (x * m * m).natAbs ≤ 4324320 := by
    have := Nat.mul_le_mul x4 (show (m * m).natAbs ≤ 144 by omega)
    exact ⟨Int.mul_ne_zero (Int.mul_ne_zero x3 (by omega)) (by omega), by omega⟩
  have hms : ∀ q, Pr q → q ∣ m → q ∈ SM := fun q hq g => by
    have h1 := Int.le_of_dvd (by omega) g
    have h2 := hq.1
    have : q ∈ SM ∨ q = 4 ∨ q = 6 ∨ q = 8 ∨ q = 9 ∨ q = 10 ∨ q = 12 := by
      unfold SM
      simp only [List.mem_cons, List.not_mem_nil, or_false]
      omega
    rcases this with h | h | h | h | h | h | h
    · exact h
    all_goals (subst h; exfalso)
    · exact hq.2 2 (by decide) (by decide) (by decide)
    · exact hq.2 2 (by decide) (by decide) (by decide)
    · exact hq.2 2 (by decide) (by decide) (by decide)
    · exact hq.2 3 (by decide) (by decide) (by decide)
    · exact hq.2 2 (by decide) (by decide) (by decide)
    · exact hq.2 2 (by decide) (by decide) (by decide)
  have hpr : ∀ q, Pr q → q ∣ x * m * m → q ∈ SM := fun q hq g => by
    rcases hq.dvd_mul g with g | g
    · exact (hq.dvd_mul g).elim (x2 q hq) (hms q hq)
    · exact hms q hq g
  refine tot_some ⟨?_, fun k hk => ?_⟩
  · show ((s.1 ++ [x * m * m]).length : Int) = i + 1
    rw [List.length_append, List.length_singleton]
    omega
  · rcases List.mem_append.mp hk with hk | hk
    · exact g2 k hk
    · rw [List.mem_singleton.mp hk]; exact ⟨hk2, hpr⟩
end Mi

/-! whether a number is small (out of k44) -/
namespace Mi
def Sm6 (q : Int) : Prop := q ∈ [(2 : Int), 3, 5, 7, 11, 13]
theorem sm6_pr : ∀ p ∈ [(2 : Int), 3, 5, 7, 11, 13], Pr p ∧ p ≤ 13 := by
  intro p hp
  simp only [List.mem_cons, List.not_mem_nil, or_false] at hp
  rcases hp with rfl | rfl | rfl | rfl | rfl | rfl
  · exact ⟨pr_two, by decide⟩
  · exact ⟨pr_by (k := 3) 9 (by decide +kernel), by decide⟩
  · exact ⟨pr_by (k := 5) 9 (by decide +kernel), by decide⟩
  · exact ⟨pr_by (k := 7) 9 (by decide +kernel), by decide⟩
  · exact ⟨pr_by (k := 11) 9 (by decide +kernel), by decide⟩
  · exact ⟨pr_by (k := 13) 9 (by decide +kernel), by decide⟩
/-- each number is one free of squares times a square -/
theorem ex_sqf : ∀ (n : Nat) (k : Int), k.natAbs ≤ n → k ≠ 0 → ∃ s m, Sqf s ∧ 1 ≤ m ∧ k = s * (m * m)
  | 0, k, h1, h2 => by omega
  | n + 1, k, h1, h2 => by
    by_cases h : Sqf k
    · exact ⟨k, 1, h, by decide, by omega⟩
    · have hx : ∃ q, Pr q ∧ q * q ∣ k := by
        refine Classical.byContradiction fun hno => h ⟨h2, fun q hq hd => hno ⟨q, hq, hd⟩⟩
      obtain ⟨q, hq, t, ht⟩ := hx
      have hq1 := hq.1
      have ht0 : t ≠ 0 := fun e => h2 (by rw [ht, e, Int.mul_zero])
      have h4 : 4 ≤ q * q := Int.mul_le_mul hq1 hq1 (by decide) (by omega)
      have h3 : t.natAbs < k.natAbs := by
        rw [ht, Int.natAbs_mul]
        have := Nat.mul_le_mul_right t.natAbs (show 4 ≤ (q * q).natAbs by omega)
        omega
      obtain ⟨s, m, a, b, c⟩ := ex_sqf n t (by omega) ht0
      refine ⟨s, q * m, a, ?_, by rw [ht, c]; grind⟩
      have := Int.mul_pos (show 0 < q by omega) (show 0 < m by omega)
      omega
theorem is_small_eq {k : Int} (h0 : k ≠ 0) (h1 : (k.natAbs : Int) < 1073741824) : ∃ s m b, Sqf s ∧ 1 ≤ m ∧ (k.natAbs : Int) = (s.natAbs : Int) * (m * m) ∧ Mir.is_small_ k = some b ∧ (b = true ↔ ∀ q, Pr q → q ∣ s → Sm6 q) := by
  obtain ⟨s, m, hs, hm, e⟩ := ex_sqf _ k (Nat.le_refl _) h0
  have sk : Sz 31 k := by unfold Sz; omega
  have hf : Mir.free_of_ k = some s := free_of_eq hs (by omega) e sk (by decide) fun f l h => .inr (by
    have := Int.le_of_dvd (by omega) (⟨pf f, by rw [Int.mul_comm]; exact h.eq.symm⟩ : l ∣ (k.natAbs : Int))
    omega)
  have hk : (k.natAbs : Int) = (s.natAbs : Int) * (m * m) := by
    rw [e, Int.natAbs_mul, Int.natCast_mul, Int.natAbs_of_nonneg (msq m)]
  have hs0 := hs.ne
  have hsa : Sqf (s.natAbs : Int) := by
    by_cases h0 : 0 ≤ s
    · rw [Int.natAbs_of_nonneg h0]; exact hs
    · rw [show (s.natAbs : Int) = -s by omega]; exact hs.neg
  have hT : Tot (Mir.is_small_ k) fun b => b = true ↔ ∀ q, Pr q → q ∣ s → Sm6 q := by
    unfold Mir.is_small_
    rw [hf]
    simp only [bS, bA, bI]
    rw [decide_eq_false h0, decide_eq_false (by omega)]
    simp only [Bool.or_self, cond_false]
    show Tot ((forN _ [2, 3, 5, 7, 11, 13] _).bind _) _
    refine tot_bind (Q := fun z => 1 ≤ z ∧ z ∣ (s.natAbs : Int) ∧ (∀ q, Pr q → ¬ Sm6 q → q ∣ s → q ∣ z) ∧ ∀ q, Sm6 q → ¬ q ∣ z) (tot_forN (fun pre z => 1 ≤ z ∧ z ∣ (s.natAbs : Int) ∧ (∀ q, Pr q → ¬ Sm6 q → q ∣ s → q ∣ z) ∧ ∀ q ∈ pre, Sm6 q → ¬ q ∣ z) (pre := []) ⟨by omega, Int.dvd_refl _, fun q _ _ h => Int.dvd_natAbs.mpr h, by simp⟩ (fun pre p z hp ⟨g1, g2, g3, g4⟩ => ?_) fun z ⟨g1, g2, g3, g4⟩ => ⟨g1, g2, g3, fun q hq => g4 q hq hq⟩) fun z ⟨g1, g2, g3, g4⟩ => tot_some ?_
    · have hp6 := sm6_pr p hp
      have hp1 := hp6.1.1
      rw [modO_pos (by omega)]
      simp only [bS]
      refine tot_if (fun hd => ?_) fun hd => tot_some ⟨g1, g2, g3, fun q hq h6 => ?_⟩
      · rw [divO_pos (n := 4) (by omega) (by unfold Sz; omega) (by decide)]
        obtain ⟨c1, c2, c3⟩ := ediv_small g1 hp1 (Int.dvd_of_emod_eq_zero hd)
        refine tot_some ⟨c1, Int.dvd_trans ⟨p, by rw [Int.mul_comm]; exact c3.symm⟩ g2, fun q hq hn hqs => ?_, fun q hq h6 hqz => ?_⟩
        · have h7 := g3 q hq hn hqs
          rw [← c3] at h7
          refine (hq.dvd_mul h7).resolve_left fun h8 => hn ?_
          rw [hq.eq_of_dvd hp6.1 h8]
          exact hp
        · rcases List.mem_append.mp hq with hq | hq
          · exact g4 q hq h6 (Int.dvd_trans hqz ⟨p, by rw [Int.mul_comm]; exact c3.symm⟩)
          · rw [List.mem_singleton.mp hq] at hqz
            refine hsa.nd p hp6.1 (Int.dvd_trans ?_ g2)
            rw [← c3]
            exact Int.mul_dvd_mul (Int.dvd_refl p) hqz
      · rcases List.mem_append.mp hq with hq | hq
        · exact g4 q hq h6
        · rw [List.mem_singleton.mp hq]
          exact fun g => hd (Int.emod_eq_zero_of_dvd g)
    · rw [decide_eq_true_eq]
      constructor
      · rintro rfl q hq hd
        refine Classical.byContradiction fun hn => ?_
        exact nd_one' hq (g3 q hq hn hd)
      · intro h
        refine Classical.byContradiction fun hne => ?_
        obtain ⟨q, hq, hd⟩ := ex_prime _ z (Nat.le_refl _) (by omega)
        exact g4 q (h q hq (Int.dvd_natAbs.mp (Int.dvd_trans hd g2))) hd
  obtain ⟨b, eb, hb⟩ := hT
  exact ⟨s, m, b, hs, hm, hk, eb, hb⟩
end Mi

/-! law k50 -/
namespace Mi
open PySem
section
variable {l : List PyData} {row : List Int} {k : Int}
theorem errE_er9 {α : Type} (j : Err) : errE (some (.er j) : Option (Rz α)) = some (some j) := rfl
theorem errE_ok9 {α : Type} (x : α) : errE (some (.ok x) : Option (Rz α)) = some none := rfl
theorem valE_ok9 {α : Type} (x : α) : valE (some (.ok x) : Option (Rz α)) = some x := rfl
/-! ### what is no row -/
theorem no_row_X2 (h : Mir.is_row__2 l = some false) : Mir.must_be_row_X_2 l = some (.er .noRow) := by
  unfold Mir.must_be_row_X_2
  rw [h]
  rfl
theorem row_X (h : Row row) : Mir.must_be_row_X row = some (.ok ()) := by
  unfold Mir.must_be_row_X
  rw [is_row_eq h]
  rfl
theorem small_X2 (h : Mir.is_row__2 l = some false) : Mir.must_be_small_X_2 l = some (.er .noRow) := by
  unfold Mir.must_be_small_X_2
  rw [no_row_X2 h, errE_er9]
  simp only [bS, Option.elim]
theorem noes_X (h : Mir.is_row__2 l = some false) : Mir.noes_of_X l = some (.er .noRow) := by
  unfold Mir.noes_of_X
  rw [no_row_X2 h, errE_er9]
  simp only [bS, Option.elim]
theorem row1 : Row [1] := ⟨by decide, by decide, fun k hk => by rw [List.mem_singleton.mp hk]; decide⟩
theorem tried1 : Mir.tried_ 1 = some ([], 1) := by
  refine Tot.is ?_
  unfold Mir.tried_
  simp only [bS, bA, bI]
  refine tot_bind (Q := fun s : List (Int × Int) × Int × Int => s = ([], 1, 2)) (tot_while (fun s => s = ([], 1, 2)) (fun _ => 0) rfl fun s e => ?_) fun s e => ?_
  · subst e
    rw [decide_eq_true (show (2 : Int) < 32768 by decide), cT, mulO_s (by decide) (by decide) (by decide) (by decide)]
    simp only [bS]
    refine tot_some ⟨fun ht => absurd (of_decide_eq_true ht) (by decide), fun _ => trivial⟩
  · subst e
    exact tot_some rfl
theorem noes1 : ∃ x, Mir.noes_of_X_2 [1] = some (.ok x) := by
  have hp : Mir.parts_ 1 = some [] := by
    unfold Mir.parts_
    rw [tried1]
    rfl
  have hl : Tot (Mir.places_of__2 [1]) fun _ => True := by
    unfold Mir.places_of__2
    simp only [bS, bA, bI]
    refine tot_bind (Q := fun d => d = dmk [(0, true), (2, true)]) (tot_forN (fun _ z => z = dmk [(0, true), (2, true)]) (pre := []) rfl (fun pre i z hi hz => ?_) fun z h => h) fun z hz => ?_
    · rw [List.mem_singleton.mp hi, show (((1 : Int).natAbs : Nat) : Int) = 1 from rfl, hp]
      exact tot_some hz
    · subst hz
      exact ⟨_, rfl, trivial⟩
  obtain ⟨x, hx, -⟩ := hl
  have ho : ∀ p, Mir.is_odd_at__2 [1] p = some false := fun p => by
    refine Tot.is ?_
    unfold Mir.is_odd_at__2
    rw [show rangeO 0 (([1] : List Int).length : Int) = some [0] from by decide +kernel]
    simp only [bS, bA, bI]
    refine tot_bind (Q := fun d : Int => d = 0) (tot_forN (fun _ z => z = 0) (pre := []) rfl (fun pre i z hi hz => ?_) fun z h => h) fun z hz => ?_
    · rw [List.mem_singleton.mp hi, show rangeO (0 + 1) (([1] : List Int).length : Int) = some [] from by decide +kernel]
      exact tot_some hz
    · subst hz
      exact tot_some rfl
  unfold Mir.noes_of_X_2
  rw [row_X row1, errE_ok9, valE_ok9, hx]
  simp only [bS, Option.elim, ho]
  rw [filO_pure9 (fun _ => false)]
  exact ⟨_, rfl⟩
theorem word_row : Mir.law_word_ .noRow = some (Str.ofString "row") := by decide +kernel
theorem word_great : Mir.law_word_ .tooGreat = some (Str.ofString "great") := by decide +kernel
theorem low_str (s : String) (h : (PyData.str (Str.ofString s)).canLay0 = true) : Low 3 (.str (Str.ofString s)) := ⟨h, Nat.zero_le _⟩
theorem zero_of_bad (h : Mir.is_row__2 l = some false) : Mir.zero_of_X_2 l = some (.er .noRow) := by
  unfold Mir.zero_of_X_2
  rw [small_X2 h, errE_er9]
  simp only [bS, Option.elim]
theorem values_bad (h : Mir.is_row__2 l = some false) : Mir.values_for_X_2 l 1 = some (.er .noRow) := by
  unfold Mir.values_for_X_2
  rw [small_X2 h, errE_er9]
  simp only [bS, Option.elim]
theorem two_bad (h : Mir.is_row__2 l = some false) : Mir.zero_of_two_X_2 l = some (.er .noRow) := by
  unfold Mir.zero_of_two_X_2
  rw [no_row_X2 h, errE_er9]
  simp only [bS, Option.elim]
theorem three_bad (h : Mir.is_row__2 l = some false) : Mir.zero_of_three_X_2 l = some (.er .noRow) := by
  unfold Mir.zero_of_three_X_2
  rw [no_row_X2 h, errE_er9]
  simp only [bS, Option.elim]
theorem asked_bad (h : Mir.is_row__2 l = some false) (hl : Low 64 (PyOf.py l)) (w : Int) : Mir.law_asked__2 l 1 w = some [.str (Str.ofString "row"), .bool true] := by
  unfold Mir.law_asked__2
  simp only [bS, bA, bI]
  rw [zero_of_bad h, values_bad h, two_bad h, three_bad h]
  simp only [errE_er9, bS, Option.elim]
  rw [dyEq_self hl]
  refine Tot.is ?_
  refine tot_bind (Q := fun t => t = .er .noRow) ?_ fun t e => ?_
  · refine tot_if (fun _ => tot_some rfl) fun _ => tot_if (fun _ => tot_some rfl) fun _ => tot_if (fun _ => tot_some rfl) fun _ => tot_some rfl
  · subst e
    simp only [tryE]
    rw [show Err.isa .noRow .formError = true from rfl, cT, word_row]
    simp only [bS]
    exact tot_some rfl
theorem door_bad (h : Mir.is_row__2 l = some false) {d : Int} (h0 : 0 ≤ d) (h1 : d < 11) : Mir.law_door_X l d = some (.er .noRow) := by
  have m := no_row_X2 h
  have e0 : Mir.stepped_X l (T4.mk 0 1 (1, 1) (0, 1)) = some (.er .noRow) := by unfold Mir.stepped_X; rw [m, errE_er9]; simp only [bS, Option.elim]
  have e1 : Mir.change_of_X l (T4.mk 0 1 (1, 1) (0, 1)) = some (.er .noRow) := by unfold Mir.change_of_X; rw [m, errE_er9]; simp only [bS, Option.elim]
  have e2 : Mir.all_stepped_X l [] = some (.er .noRow) := by unfold Mir.all_stepped_X; rw [m, errE_er9]; simp only [bS, Option.elim]
  have e3 : Mir.how_many_pairs_X l = some (.er .noRow) := by unfold Mir.how_many_pairs_X; rw [noes_X h, errE_er9]; simp only [bS, Option.elim]
  have ef : Mir.must_be_free_X l 4 = some (.er .noRow) := by unfold Mir.must_be_free_X; rw [small_X2 h, errE_er9]; simp only [bS, Option.elim]
  have e4 : Mir.parted_X l = some (.er .noRow) := by unfold Mir.parted_X; rw [ef, errE_er9]; simp only [bS, Option.elim]
  have e5 : Mir.leading_X l [1] = some (.er .noRow) := by unfold Mir.leading_X; rw [m, errE_er9]; simp only [bS, Option.elim]
  have e6 : ∀ r, Row r → Mir.leading_X_2 r l = some (.er .noRow) := fun r hr => by
    unfold Mir.leading_X_2
    rw [row_X hr, errE_ok9, valE_ok9, m, errE_er9]
    simp only [bS, Option.elim]
  have e7 : Mir.parting_X l [1] = some (.er .noRow) := by unfold Mir.parting_X; rw [noes_X h, errE_er9]; simp only [bS, Option.elim]
  have e8 : Mir.parting_X_2 [1] l = some (.er .noRow) := by
    obtain ⟨x, hx⟩ := noes1
    unfold Mir.parting_X_2
    rw [hx, errE_ok9, valE_ok9, noes_X h, errE_er9]
    simp only [bS, Option.elim]
  have e9 : Mir.point_of_X l [1, 1, 0] (1, 0) = some (.er .noRow) := by unfold Mir.point_of_X; rw [m, errE_er9]; simp only [bS, Option.elim]
  have e10 : Mir.line_of_X l [1, 1, 0] [1, 1, 0] = some (.er .noRow) := by unfold Mir.line_of_X; rw [m, errE_er9]; simp only [bS, Option.elim]
  have r6 : ∃ r, ixO ([[1], [17], [4], [1, 1, 1, 2]] : List (List Int)) ((l.length : Int) % 4) = some r ∧ Row r := by
    have hc : (l.length : Int) % 4 = 0 ∨ (l.length : Int) % 4 = 1 ∨ (l.length : Int) % 4 = 2 ∨ (l.length : Int) % 4 = 3 := by omega
    rcases hc with e | e | e | e <;> rw [e]
    · exact ⟨_, rfl, row1⟩
    · exact ⟨_, rfl, by decide, by decide, fun k hk => by rw [List.mem_singleton.mp hk]; decide⟩
    · exact ⟨_, rfl, by decide, by decide, fun k hk => by rw [List.mem_singleton.mp hk]; decide⟩
    · exact ⟨_, rfl, by decide, by decide, fun k hk => by simp only [List.mem_cons, List.not_mem_nil, or_false] at hk; omega⟩
  obtain ⟨r, er, hr⟩ := r6
  unfold Mir.law_door_X
  simp only [bS, bA, bI]
  rw [e0, e1, e2, e3, e4, e5, er, e7, e8, e9, e10]
  simp only [bS, errE_er9, e6 r hr, Option.elim]
  have hc : d = 0 ∨ d = 1 ∨ d = 2 ∨ d = 3 ∨ d = 4 ∨ d = 5 ∨ d = 6 ∨ d = 7 ∨ d = 8 ∨ d = 9 ∨ d = 10 := by omega
  rcases hc with e | e | e | e | e | e | e | e | e | e | e <;> subst e <;> rfl
theorem doors_bad (h : Mir.is_row__2 l = some false) : Mir.law_doors_ l = some true := by
  refine Tot.is ?_
  unfold Mir.law_doors_
  simp only [bS, bA, bI]
  rw [rangeO_s (by decide) (by decide) (by decide) (by decide)]
  simp only [bS]
  refine tot_bind (Q := fun o => o = .inl ()) (tot_forRI (fun _ => True) trivial (fun d s hd _ => ?_) fun _ _ => rfl) fun o ho => by subst ho; exact tot_some rfl
  have hd := mem_rangeL.mp hd
  refine tot_cond (fun _ => ?_) fun _ => tot_some trivial
  rw [door_bad h hd.1 hd.2]
  simp only [errE_er9, bS, Option.elim, tryE]
  rw [show Err.isa .noRow .formError = true from rfl, cT, word_row]
  simp only [bS, flE, decide_true, Bool.not_true, cF]
  exact tot_some trivial
/-! ### what is not small -/
theorem small_yes (h0 : k ≠ 0) (h1 : k.natAbs < 1073741824) (hp : ∀ q, Pr q → q ∣ k → q ∈ SM) : Mir.is_small_ k = some true := by
  obtain ⟨s, m, b, hs, hm, e, eb, hb⟩ := is_small_eq h0 (by omega)
  rw [eb]
  have : b = true := hb.mpr fun q hq hd => hp q hq (Int.dvd_natAbs.mp (by rw [e]; exact Int.dvd_trans (Int.dvd_natAbs.mpr hd) (Int.dvd_mul_right _ _)))
  rw [this]
theorem small_no {p : Int} (h0 : k ≠ 0) (h1 : k.natAbs < 1073741824) (hp : Pr p) (h13 : 13 < p) (hd : p ∣ k) (hn : ¬ p * p ∣ k) : Mir.is_small_ k = some false := by
  obtain ⟨s, m, b, hs, hm, e, eb, hb⟩ := is_small_eq h0 (by omega)
  rw [eb]
  have hds : p ∣ s := by
    have h2 : p ∣ (s.natAbs : Int) * (m * m) := by rw [← e]; exact Int.dvd_natAbs.mpr hd
    rcases hp.dvd_mul h2 with h | h
    · exact Int.dvd_natAbs.mp h
    · have hm2 := (hp.dvd_mul h).elim id id
      exact absurd (Int.dvd_natAbs.mp (by rw [e]; exact Int.dvd_trans (Int.mul_dvd_mul hm2 hm2) (Int.dvd_mul_left _ _))) hn
  have : b = false := by
    cases b with
    | false => rfl
    | true =>
      have := hb.mp rfl p hp hds
      have := (sm6_pr p this).2
      omega
  rw [this]
theorem small_X (hR : Row row) (h : ∃ x ∈ row, Mir.is_small_ x = some false) : Mir.must_be_small_X row = some (.er .tooGreat) := by
  unfold Mir.must_be_small_X
  rw [row_X hR, errE_ok9, valE_ok9]
  simp only [bS, Option.elim, bA]
  have k : ∀ {r : List Int}, (∀ x ∈ r, x ≠ 0 ∧ x.natAbs < 1073741824) → (∃ x ∈ r, Mir.is_small_ x = some false) → forR (fun (s2 : Unit) (i2 : Int) => (Mir.is_small_ i2).bind fun x => cond (!x) (some (.rt (.er .tooGreat) : Fl Unit (Rz Unit))) (some (.nx ()))) r () = some (.inr (.er .tooGreat)) := fun {r} => by
    induction r with
    | nil => exact fun _ ⟨x, hx, _⟩ => nomatch hx
    | cons y r ih =>
      intro hr ⟨x, hx, hf⟩
      obtain ⟨s, m, b, _, _, _, eb, _⟩ := is_small_eq (hr y List.mem_cons_self).1 (by have := (hr y List.mem_cons_self).2; omega)
      cases b with
      | false =>
        refine forR_rt9 ?_
        rw [eb]
        rfl
      | true =>
        have hne : x ≠ y := fun e => by rw [e, eb] at hf; cases hf
        refine (forR_nx9 (s' := ()) ?_).trans (ih (fun z hz => hr z (List.mem_cons_of_mem _ hz)) ⟨x, (List.mem_cons.mp hx).resolve_left hne, hf⟩)
        rw [eb]
        rfl
  rw [k hR.2.2 h]
  rfl
theorem small_X_ok (hR : Row row) (h : ∀ x ∈ row, Mir.is_small_ x = some true) : Mir.must_be_small_X row = some (.ok ()) := by
  unfold Mir.must_be_small_X
  rw [row_X hR, errE_ok9, valE_ok9]
  simp only [bS, Option.elim, bA]
  have k : ∀ {r : List Int}, (∀ x ∈ r, Mir.is_small_ x = some true) → forR (fun (s2 : Unit) (i2 : Int) => (Mir.is_small_ i2).bind fun x => cond (!x) (some (.rt (.er .tooGreat) : Fl Unit (Rz Unit))) (some (.nx ()))) r () = some (.inl ()) := fun {r} => by
    induction r with
    | nil => exact fun _ => rfl
    | cons y r ih =>
      intro hr
      refine (forR_nx9 (s' := ()) ?_).trans (ih fun z hz => hr z (List.mem_cons_of_mem _ hz))
      rw [hr y List.mem_cons_self]
      rfl
  rw [k h]
  rfl
/-- asked, and told great -/
theorem asked_great {c w : Int} (hw : w = 0 ∧ Mir.zero_of_X row = some (.er .tooGreat) ∨ w = 1 ∧ Mir.values_for_X row c = some (.er .tooGreat)) : Mir.law_asked_ row c w = some [.str (Str.ofString "great"), .bool true] := by
  unfold Mir.law_asked_
  simp only [bS, bA, bI]
  refine Tot.is ?_
  refine tot_bind (Q := fun t => t = .er .tooGreat) ?_ fun t e => ?_
  · rcases hw with ⟨e, h⟩ | ⟨e, h⟩
    · rw [decide_eq_true e, cT, h]
      simp only [errE_er9, bS, Option.elim]
      exact tot_some rfl
    · rw [decide_eq_false (show ¬ w = 0 by omega), cF, decide_eq_true e, cT, h]
      simp only [errE_er9, bS, Option.elim]
      exact tot_some rfl
  · subst e
    simp only [tryE]
    rw [show Err.isa .tooGreat .formError = true from rfl, cT, word_great]
    simp only [bS, decide_true]
    exact tot_some rfl
theorem zero_great (hR : Row row) (h : ∃ x ∈ row, Mir.is_small_ x = some false) : Mir.zero_of_X row = some (.er .tooGreat) := by
  unfold Mir.zero_of_X
  rw [small_X hR h, errE_er9]
  simp only [bS, Option.elim]
theorem values_great {c : Int} (hR : Row row) (h : ∃ x ∈ row, Mir.is_small_ x = some false) : Mir.values_for_X row c = some (.er .tooGreat) := by
  unfold Mir.values_for_X
  rw [small_X hR h, errE_er9]
  simp only [bS, Option.elim]
theorem values_c {c : Int} (hR : Row row) (h : ∀ x ∈ row, Mir.is_small_ x = some true) (hc : Mir.is_small_ c = some false) : Mir.values_for_X row c = some (.er .tooGreat) := by
  unfold Mir.values_for_X
  rw [small_X_ok hR h, errE_ok9, valE_ok9, hc]
  simp only [bS, Option.elim, Bool.not_false, cT]
end
/-! ### what is drawn -/
theorem great_tot {row : List Int} (h1 : 1 ≤ row.length) (h8 : row.length ≤ 8) (hr : RowS row) (c : Int) : Tot (Mir.law_great_ row c) fun g => Row g ∧ ∃ x ∈ g, Mir.is_small_ x = some false := by
  unfold Mir.law_great_
  simp only [bS, bA, bI]
  rw [modO_pos (by omega)]
  simp only [bS]
  have k0 := Int.emod_nonneg c (show (row.length : Int) ≠ 0 by omega)
  have k1 := Int.emod_lt_of_pos c (show (0 : Int) < row.length by omega)
  generalize c % (row.length : Int) = k at k0 k1
  refine tot_bind (Q := fun p : Int => Pr p ∧ 13 < p ∧ p ≤ 97) (by
    have hc : c / 8 % 4 = 0 ∨ c / 8 % 4 = 1 ∨ c / 8 % 4 = 2 ∨ c / 8 % 4 = 3 := by omega
    rcases hc with e | e | e | e <;> rw [e]
    · exact ⟨17, rfl, pr_by (k := 17) 9 (by decide +kernel), by decide, by decide⟩
    · exact ⟨19, rfl, pr_by (k := 19) 9 (by decide +kernel), by decide, by decide⟩
    · exact ⟨23, rfl, pr_by (k := 23) 9 (by decide +kernel), by decide, by decide⟩
    · exact ⟨97, rfl, pr_by (k := 97) 12 (by decide +kernel), by decide, by decide⟩) fun p ⟨hp, p13, p97⟩ => ?_
  obtain ⟨x, ex, mx⟩ := ixO_in k0 k1
  obtain ⟨⟨x0, x1⟩, x2⟩ := hr x mx
  rw [ex]
  simp only [bS]
  rw [mulO_s (by omega) (by omega) (by omega) (by omega)]
  simp only [bS]
  have hz : (x * p).natAbs ≤ 4324320 * 97 := by rw [Int.natAbs_mul]; exact Nat.mul_le_mul x1 (by omega)
  have hz0 : x * p ≠ 0 := Int.mul_ne_zero x0 (by omega)
  have hset : setO row k (x * p) = some (row.set k.toNat (x * p)) := if_pos ⟨k0, k1⟩
  rw [hset]
  simp only [bS]
  have hl : (row.set k.toNat (x * p)).length = row.length := List.length_set
  have hix : ixO (row.set k.toNat (x * p)) k = some (x * p) := by
    unfold ixO
    rw [if_pos k0, List.getElem?_set_self (by omega)]
  rw [hix]
  simp only [bS]
  rw [decide_eq_false (show ¬ (1073741824 : Int) ≤ (x * p).natAbs by omega), cF]
  refine tot_some ⟨⟨by omega, by omega, fun y hy => ?_⟩, x * p, ?_, ?_⟩
  · rcases List.mem_or_eq_of_mem_set hy with h | h
    · have := hr y h
      exact ⟨this.1.1, by have := this.1.2; omega⟩
    · rw [h]
      exact ⟨hz0, by omega⟩
  · exact List.mem_iff_getElem.mpr ⟨k.toNat, by omega, List.getElem_set_self ..⟩
  · refine small_no hz0 (by omega) hp p13 (Int.dvd_mul_left _ _) fun hd => ?_
    have hpx : p ∣ x := by
      obtain ⟨w, hw⟩ := hd
      refine ⟨w, ?_⟩
      have : p * x = p * (p * w) := by rw [← Int.mul_assoc, ← hw, Int.mul_comm]
      exact Int.eq_of_mul_eq_mul_left (by omega) this
    have := (sm_pr (x2 p hp hpx)).2
    omega
theorem no_row_tot {row : List Int} (h1 : 1 ≤ row.length) (h8 : row.length ≤ 8) (hr : RowS row) (c : Int) : Tot (Mir.law_no_row_ row c) fun l => Mir.is_row__2 l = some false ∧ ∀ x ∈ l, Low 3 x := by
  unfold Mir.law_no_row_
  simp only [bS, bA, bI]
  rw [modO_pos (by omega)]
  simp only [bS]
  have k0 := Int.emod_nonneg c (show (row.length : Int) ≠ 0 by omega)
  have k1 := Int.emod_lt_of_pos c (show (0 : Int) < row.length by omega)
  generalize c % (row.length : Int) = k at k0 k1
  have y0 := Int.emod_nonneg (c / 64) (show (100000000000000000000 : Int) ≠ 0 by decide)
  generalize c / 64 % 100000000000000000000 = y at y0
  refine tot_bind (Q := fun d => Low 3 d ∧ bad1 d) ?_ fun d ⟨hd, hw⟩ => ?_
  · have hc : c / 8 % 8 = 0 ∨ c / 8 % 8 = 1 ∨ c / 8 % 8 = 2 ∨ c / 8 % 8 = 3 ∨ c / 8 % 8 = 4 ∨ c / 8 % 8 = 5 ∨ c / 8 % 8 = 6 ∨ c / 8 % 8 = 7 := by omega
    rcases hc with e | e | e | e | e | e | e | e <;> rw [e]
    · exact ⟨_, rfl, low_int 0, bad_int (.inl rfl)⟩
    · exact ⟨_, rfl, low_int _, bad_int (.inr (by decide))⟩
    · exact ⟨_, rfl, low_int _, bad_int (.inr (by omega))⟩
    · exact ⟨_, rfl, low_int _, bad_int (.inr (by omega))⟩
    · exact ⟨_, rfl, low_bool true, rfl⟩
    · exact ⟨_, rfl, low_bool false, rfl⟩
    · exact ⟨_, rfl, low_none, rfl⟩
    · exact ⟨_, rfl, low_str "1" (by decide +kernel), rfl⟩
  refine tot_if (fun _ => tot_some ⟨row_len0, by simp⟩) fun _ => ?_
  refine tot_if (fun _ => tot_some ⟨row_long (by decide), low_pys _⟩) fun _ => ?_
  have l1 := cut_takeL (xs := row) (k := k) k0 (by omega)
  have l2 := cut_dropL (xs := row) (k := k + 1) (by omega) (by omega)
  rw [catO_le (by rw [List.length_map]; omega) (by simp)]
  simp only [bS]
  rw [catO_le (by rw [List.length_append, List.length_map, List.length_singleton]; omega) (by rw [List.length_map]; omega)]
  refine tot_some ⟨?_, fun x hx => ?_⟩
  · rw [List.append_assoc, List.singleton_append]
    exact row_bad (fun n hn => by have := hr n (cut_mem hn); exact ⟨this.1.1, by have := this.1.2; omega⟩) hw (by rw [List.length_append, List.length_cons, List.length_map, List.length_map]; omega)
  · rcases List.mem_append.mp hx with hx | hx
    · rcases List.mem_append.mp hx with hx | hx
      · exact low_pys _ x hx
      · rw [List.mem_singleton.mp hx]; exact hd
    · exact low_pys _ x hx
theorem low_told (s : String) (h : (PyData.str (Str.ofString s)).canLay0 = true) : Low 64 (PyOf.py [PyData.str (Str.ofString s), PyData.bool true]) := by
  rw [py_dys]
  refine (low_list (k := 3) fun x hx => ?_).mono (by decide)
  rcases List.mem_cons.mp hx with e | hx
  · rw [e]; exact low_str s h
  · rw [List.mem_singleton.mp hx]; exact low_bool true
theorem law_true (ns : List Int) (hl : ns.length ≤ 63) (hb : ∀ z ∈ ns, Sz 1048576 z) : Mir.law_ ⟨ns⟩ = some true := by
  refine Tot.is ?_
  unfold Mir.law_
  simp only [bS, bA, bI]
  obtain ⟨xs, hxs, hx⟩ := rangeS_in (lo := 0) (hi := min 16 (ns.length : Int) + 1) (c := 2) (by decide) (by omega) (by omega)
  rw [hxs]
  simp only [bS]
  refine tot_bind (Q := fun o => o = .inl ()) (tot_forRI (fun _ => True) trivial (fun i s hi _ => ?_) fun _ _ => rfl) fun o ho => by subst ho; exact tot_some rfl
  have hi := hx i hi
  refine tot_bind (cell_at_tot ns i (by omega) hb) fun c1 s1 => tot_bind (big_tot (by omega) (by omega) s1) fun c _ => ?_
  refine tot_bind (cell_at_tot ns (i + 1) (by omega) hb) fun c2 s2 => tot_bind (big_tot (by omega) (by omega) s2) fun o _ => ?_
  refine tot_bind (law_rowS_tot (c / 7) (n := 1 + c % 7) (by omega) (by omega)) fun row ⟨ln, hr⟩ => ?_
  have hR : Row row := ⟨by omega, by omega, fun k hk => ⟨(hr k hk).1.1, by have := (hr k hk).1.2; omega⟩⟩
  have hsm : ∀ x ∈ row, Mir.is_small_ x = some true := fun x hx => small_yes (hr x hx).1.1 (by have := (hr x hx).1.2; omega) (hr x hx).2
  refine tot_bind (great_tot (by omega) (by omega) hr o) fun g ⟨hg, hno⟩ => ?_
  have lg := low_told "great" (by decide +kernel)
  have lr := low_told "row" (by decide +kernel)
  rw [rangeO_s (by decide) (by decide) (by decide) (by decide)]
  simp only [bS]
  refine tot_bind (Q := fun o => o = .inl ()) (tot_forRI (fun _ => True) trivial (fun w s hw _ => ?_) fun _ _ => rfl) fun o' ho => ?_
  · have hw := mem_rangeL.mp hw
    rw [asked_great (c := 1) (w := w) (by
      have hc : w = 0 ∨ w = 1 := by omega
      rcases hc with e | e
      · exact .inl ⟨e, zero_great hg hno⟩
      · exact .inr ⟨e, values_great hg hno⟩)]
    simp only [bS]
    rw [show ((PyOf.py : Str → PyData) (Str.ofString "great")) = PyData.str (Str.ofString "great") from rfl, dyNe_self lg]
    exact tot_some trivial
  subst ho
  simp only [Sum.elim_inl]
  refine tot_bind (Q := fun c => Mir.is_small_ c = some false) ?_ fun cc hcc => ?_
  · have pz := fun (p : Int) (h : Pr p) => h
    have hc : o / 32 % 6 = 0 ∨ o / 32 % 6 = 1 ∨ o / 32 % 6 = 2 ∨ o / 32 % 6 = 3 ∨ o / 32 % 6 = 4 ∨ o / 32 % 6 = 5 := by omega
    have p17 : Pr 17 := pr_by (k := 17) 9 (by decide +kernel)
    have p19 : Pr 19 := pr_by (k := 19) 9 (by decide +kernel)
    have big : ∀ k : Int, k = 0 ∨ 1073741824 ≤ k.natAbs → Mir.is_small_ k = some false := fun k hk => by
      unfold Mir.is_small_
      have e : (decide (k = 0) || decide (1073741824 ≤ (k.natAbs : Int))) = true := by
        rcases hk with e | e
        · rw [decide_eq_true e, Bool.true_or]
        · rw [decide_eq_true (show (1073741824 : Int) ≤ k.natAbs by omega), Bool.or_true]
      simp only [bS, e, cT]
    rcases hc with e | e | e | e | e | e <;> rw [e]
    · exact ⟨17, rfl, small_no (p := 17) (by decide) (by decide) p17 (by decide) (by decide) (by decide)⟩
    · exact ⟨34, rfl, small_no (p := 17) (by decide) (by decide) p17 (by decide) (by decide) (by decide)⟩
    · exact ⟨-19, rfl, small_no (p := 19) (by decide) (by decide) p19 (by decide) (by decide) (by decide)⟩
    · exact ⟨1105, rfl, small_no (p := 17) (by decide) (by decide) p17 (by decide) (by decide) (by decide)⟩
    · exact ⟨0, rfl, big 0 (.inl rfl)⟩
    · exact ⟨1073741824, rfl, big _ (.inr (by decide))⟩
  rw [asked_great (c := cc) (w := 1) (.inr ⟨rfl, values_c hR hsm hcc⟩)]
  simp only [bS]
  rw [show ((PyOf.py : Str → PyData) (Str.ofString "great")) = PyData.str (Str.ofString "great") from rfl, dyNe_self lg]
  simp only [bS, cF]
  refine tot_bind (no_row_tot (by omega) (by omega) hr o) fun l ⟨h1, h2⟩ => ?_
  have ll : Low 64 (PyOf.py l) := by rw [py_dys]; exact (low_list h2).mono (by decide)
  refine tot_bind (Q := fun _ => True) (tot_cond (fun _ => tot_some trivial) fun _ => tot_some trivial) fun ws _ => ?_
  refine tot_bind (Q := fun o => o = .inl ()) (tot_forRI (fun _ => True) trivial (fun w s hw _ => ?_) fun _ _ => rfl) fun o' ho => ?_
  · rw [asked_bad h1 ll]
    simp only [bS]
    rw [show ((PyOf.py : Str → PyData) (Str.ofString "row")) = PyData.str (Str.ofString "row") from rfl, dyNe_self lr]
    exact tot_some trivial
  subst ho
  simp only [Sum.elim_inl]
  rw [doors_bad h1]
  exact tot_some trivial
end Mi

namespace Mi
instance tbs0 : Tbs := ⟨[]⟩
open PySem L2
open Rp (rep)
set_option simprocs false
def topS (i : Nat) : Stmt := PySem.Challenge.pw_everyplace_k50_what_is_not_small.main.body.getD i (.Pass ⟨0, 0, 0, 0⟩)
abbrev s_law_cell_at_ : Stmt := topS 134
abbrev N_law_cell_at_ : List Str := ["_law_script", "_law_k"]
theorem sc_law_cell_at_ : FnScope N_law_cell_at_ ["_law_script", "_law_k"] (defScope s_law_cell_at_) := ⟨rfl, rfl, rfl, by decide +kernel, rfl, by decide +kernel, by decide +kernel⟩
abbrev s_law_big_ : Stmt := topS 135
abbrev N_law_big_ : List Str := ["_law_cell", "_law_k", "_law_number", "_law_j", "_law_part"]
theorem sc_law_big_ : FnScope N_law_big_ ["_law_cell", "_law_k"] (defScope s_law_big_) := ⟨rfl, rfl, rfl, by decide +kernel, rfl, by decide +kernel, by decide +kernel⟩
abbrev s_law_small_ : Stmt := topS 136
abbrev N_law_small_ : List Str := ["_law_cell", "_law_number", "_law_bits", "_law_p"]
theorem sc_law_small_ : FnScope N_law_small_ ["_law_cell"] (defScope s_law_small_) := ⟨rfl, rfl, rfl, by decide +kernel, rfl, by decide +kernel, by decide +kernel⟩
abbrev s_law_row_ : Stmt := topS 137
abbrev N_law_row_ : List Str := ["_law_cell", "_law_size", "_law_row_here", "_law_rest", "_law_k", "_law_root"]
theorem sc_law_row_ : FnScope N_law_row_ ["_law_cell", "_law_size"] (defScope s_law_row_) := ⟨rfl, rfl, rfl, by decide +kernel, rfl, by decide +kernel, by decide +kernel⟩
abbrev s_law_great_ : Stmt := topS 142
abbrev N_law_great_ : List Str := ["_law_row_here", "_law_cell", "_law_k", "_law_prime", "_law_great_here"]
theorem sc_law_great_ : FnScope N_law_great_ ["_law_row_here", "_law_cell"] (defScope s_law_great_) := ⟨rfl, rfl, rfl, by decide +kernel, rfl, by decide +kernel, by decide +kernel⟩
abbrev s_is_row_ : Stmt := topS 41
abbrev N_is_row_ : List Str := ["row", "k"]
theorem sc_is_row_ : FnScope N_is_row_ ["row"] (defScope s_is_row_) := ⟨rfl, rfl, rfl, by decide +kernel, rfl, by decide +kernel, by decide +kernel⟩
abbrev s_must_be_row_ : Stmt := topS 42
abbrev N_must_be_row_ : List Str := ["row"]
theorem sc_must_be_row_ : FnScope N_must_be_row_ ["row"] (defScope s_must_be_row_) := ⟨rfl, rfl, rfl, by decide +kernel, rfl, by decide +kernel, by decide +kernel⟩
abbrev s_tried_ : Stmt := topS 16
abbrev N_tried_ : List Str := ["k", "found", "left", "d", "often"]
theorem sc_tried_ : FnScope N_tried_ ["k"] (defScope s_tried_) := ⟨rfl, rfl, rfl, by decide +kernel, rfl, by decide +kernel, by decide +kernel⟩
abbrev s_whole_root_ : Stmt := topS 18
abbrev N_whole_root_ : List Str := ["k", "low", "high", "middle"]
theorem sc_whole_root_ : FnScope N_whole_root_ ["k"] (defScope s_whole_root_) := ⟨rfl, rfl, rfl, by decide +kernel, rfl, by decide +kernel, by decide +kernel⟩
abbrev s_is_square_ : Stmt := topS 19
abbrev N_is_square_ : List Str := ["k"]
theorem sc_is_square_ : FnScope N_is_square_ ["k"] (defScope s_is_square_) := ⟨rfl, rfl, rfl, by decide +kernel, rfl, by decide +kernel, by decide +kernel⟩
abbrev s_free_of_ : Stmt := topS 20
abbrev N_free_of_ : List Str := ["k", "found", "left", "prime", "often"]
theorem sc_free_of_ : FnScope N_free_of_ ["k"] (defScope s_free_of_) := ⟨rfl, rfl, rfl, by decide +kernel, rfl, by decide +kernel, by decide +kernel⟩
abbrev s_is_small_ : Stmt := topS 75
abbrev N_is_small_ : List Str := ["k", "free", "p"]
theorem sc_is_small_ : FnScope N_is_small_ ["k"] (defScope s_is_small_) := ⟨rfl, rfl, rfl, by decide +kernel, rfl, by decide +kernel, by decide +kernel⟩
abbrev s_must_be_small_ : Stmt := topS 83
abbrev N_must_be_small_ : List Str := ["row", "number"]
theorem sc_must_be_small_ : FnScope N_must_be_small_ ["row"] (defScope s_must_be_small_) := ⟨rfl, rfl, rfl, by decide +kernel, rfl, by decide +kernel, by decide +kernel⟩
abbrev s_zero_of_ : Stmt := topS 94
abbrev N_zero_of_ : List Str := ["row", "free", "found", "whole", "roots", "root", "number", "part"]
theorem sc_zero_of_ : FnScope N_zero_of_ ["row"] (defScope s_zero_of_) := ⟨rfl, rfl, rfl, by decide +kernel, rfl, by decide +kernel, by decide +kernel⟩
abbrev s_values_for_ : Stmt := topS 95
abbrev N_values_for_ : List Str := ["row", "c", "zero", "last", "k", "bottom", "values", "number", "place"]
theorem sc_values_for_ : FnScope N_values_for_ ["row", "c"] (defScope s_values_for_) := ⟨rfl, rfl, rfl, by decide +kernel, rfl, by decide +kernel, by decide +kernel⟩
abbrev s_zero_of_two_ : Stmt := topS 60
abbrev N_zero_of_two_ : List Str := ["row", "a", "b", "root"]
theorem sc_zero_of_two_ : FnScope N_zero_of_two_ ["row"] (defScope s_zero_of_two_) := ⟨rfl, rfl, rfl, by decide +kernel, rfl, by decide +kernel, by decide +kernel⟩
abbrev s_zero_of_three_ : Stmt := topS 67
abbrev N_zero_of_three_ : List Str := ["row", "a", "b", "c", "one", "other", "x", "y", "z", "s", "u"]
theorem sc_zero_of_three_ : FnScope N_zero_of_three_ ["row"] (defScope s_zero_of_three_) := ⟨rfl, rfl, rfl, by decide +kernel, rfl, by decide +kernel, by decide +kernel⟩
abbrev s_law_word_ : Stmt := topS 138
abbrev N_law_word_ : List Str := ["_law_e", "_law_words"]
theorem sc_law_word_ : FnScope N_law_word_ ["_law_e"] (defScope s_law_word_) := ⟨rfl, rfl, rfl, by decide +kernel, rfl, by decide +kernel, by decide +kernel⟩
abbrev s_law_asked_ : Stmt := topS 139
abbrev N_law_asked_ : List Str := ["_law_row_here", "_law_c", "_law_way", "_law_handed", "_law_e"]
theorem sc_law_asked_ : FnScope N_law_asked_ ["_law_row_here", "_law_c", "_law_way"] (defScope s_law_asked_) := ⟨rfl, rfl, rfl, by decide +kernel, rfl, by decide +kernel, by decide +kernel⟩
abbrev s_law_no_row_ : Stmt := topS 143
abbrev N_law_no_row_ : List Str := ["_law_row_here", "_law_cell", "_law_k", "_law_far", "_law_thing"]
theorem sc_law_no_row_ : FnScope N_law_no_row_ ["_law_row_here", "_law_cell"] (defScope s_law_no_row_) := ⟨rfl, rfl, rfl, by decide +kernel, rfl, by decide +kernel, by decide +kernel⟩
abbrev s_stepped_ : Stmt := topS 108
abbrev N_stepped_ : List Str := ["row", "step", "c", "d", "n", "new"]
theorem sc_stepped_ : FnScope N_stepped_ ["row", "step"] (defScope s_stepped_) := ⟨rfl, rfl, rfl, by decide +kernel, rfl, by decide +kernel, by decide +kernel⟩
abbrev s_change_of_ : Stmt := topS 109
abbrev N_change_of_ : List Str := ["row", "step", "c", "d", "n", "i", "j", "x", "y", "table"]
theorem sc_change_of_ : FnScope N_change_of_ ["row", "step"] (defScope s_change_of_) := ⟨rfl, rfl, rfl, by decide +kernel, rfl, by decide +kernel, by decide +kernel⟩
abbrev s_all_stepped_ : Stmt := topS 110
abbrev N_all_stepped_ : List Str := ["row", "steps", "table", "new", "step"]
theorem sc_all_stepped_ : FnScope N_all_stepped_ ["row", "steps"] (defScope s_all_stepped_) := ⟨rfl, rfl, rfl, by decide +kernel, rfl, by decide +kernel, by decide +kernel⟩
abbrev s_parts_ : Stmt := topS 17
abbrev N_parts_ : List Str := ["k", "found", "left"]
theorem sc_parts_ : FnScope N_parts_ ["k"] (defScope s_parts_) := ⟨rfl, rfl, rfl, by decide +kernel, rfl, by decide +kernel, by decide +kernel⟩
abbrev s_places_of_ : Stmt := topS 36
abbrev N_places_of_ : List Str := ["numbers", "found", "k", "prime", "often"]
theorem sc_places_of_ : FnScope N_places_of_ ["numbers"] (defScope s_places_of_) := ⟨rfl, rfl, rfl, by decide +kernel, rfl, by decide +kernel, by decide +kernel⟩
abbrev s_split_at_ : Stmt := topS 32
abbrev N_split_at_ : List Str := ["k", "p", "often"]
theorem sc_split_at_ : FnScope N_split_at_ ["k", "p"] (defScope s_split_at_) := ⟨rfl, rfl, rfl, by decide +kernel, rfl, by decide +kernel, by decide +kernel⟩
abbrev s_turns_at_two_ : Stmt := topS 33
abbrev N_turns_at_two_ : List Str := ["a", "b", "alpha", "u", "beta", "v", "turns"]
theorem sc_turns_at_two_ : FnScope N_turns_at_two_ ["a", "b"] (defScope s_turns_at_two_) := ⟨rfl, rfl, rfl, by decide +kernel, rfl, by decide +kernel, by decide +kernel⟩
abbrev s_power_by_ : Stmt := topS 22
abbrev N_power_by_ : List Str := ["k", "often", "m", "found", "base"]
theorem sc_power_by_ : FnScope N_power_by_ ["k", "often", "m"] (defScope s_power_by_) := ⟨rfl, rfl, rfl, by decide +kernel, rfl, by decide +kernel, by decide +kernel⟩
abbrev s_square_by_ : Stmt := topS 23
abbrev N_square_by_ : List Str := ["k", "p"]
theorem sc_square_by_ : FnScope N_square_by_ ["k", "p"] (defScope s_square_by_) := ⟨rfl, rfl, rfl, by decide +kernel, rfl, by decide +kernel, by decide +kernel⟩
abbrev s_turns_at_odd_ : Stmt := topS 34
abbrev N_turns_at_odd_ : List Str := ["a", "b", "p", "alpha", "u", "beta", "v", "turns"]
theorem sc_turns_at_odd_ : FnScope N_turns_at_odd_ ["a", "b", "p"] (defScope s_turns_at_odd_) := ⟨rfl, rfl, rfl, by decide +kernel, rfl, by decide +kernel, by decide +kernel⟩
abbrev s_says_ : Stmt := topS 35
abbrev N_says_ : List Str := ["a", "b", "p"]
theorem sc_says_ : FnScope N_says_ ["a", "b", "p"] (defScope s_says_) := ⟨rfl, rfl, rfl, by decide +kernel, rfl, by decide +kernel, by decide +kernel⟩
abbrev s_is_odd_at_ : Stmt := topS 47
abbrev N_is_odd_at_ : List Str := ["row", "p", "noes", "i", "j"]
theorem sc_is_odd_at_ : FnScope N_is_odd_at_ ["row", "p"] (defScope s_is_odd_at_) := ⟨rfl, rfl, rfl, by decide +kernel, rfl, by decide +kernel, by decide +kernel⟩
abbrev s_noes_of_ : Stmt := topS 48
abbrev N_noes_of_ : List Str := ["row", "p"]
theorem sc_noes_of_ : FnScope N_noes_of_ ["row"] (defScope s_noes_of_) := ⟨rfl, rfl, rfl, by decide +kernel, rfl, by decide +kernel, by decide +kernel⟩
abbrev s_how_many_pairs_ : Stmt := topS 127
abbrev N_how_many_pairs_ : List Str := ["row", "noes", "above", "number", "places", "size", "pairs"]
theorem sc_how_many_pairs_ : FnScope N_how_many_pairs_ ["row"] (defScope s_how_many_pairs_) := ⟨rfl, rfl, rfl, by decide +kernel, rfl, by decide +kernel, by decide +kernel⟩
abbrev s_must_be_free_ : Stmt := topS 114
abbrev N_must_be_free_ : List Str := ["row", "most", "number"]
theorem sc_must_be_free_ : FnScope N_must_be_free_ ["row", "most"] (defScope s_must_be_free_) := ⟨rfl, rfl, rfl, by decide +kernel, rfl, by decide +kernel, by decide +kernel⟩
abbrev s_parted_ : Stmt := topS 132
abbrev N_parted_ : List Str := ["row", "steps", "new"]
theorem sc_parted_ : FnScope N_parted_ ["row"] (defScope s_parted_) := ⟨rfl, rfl, rfl, by decide +kernel, rfl, by decide +kernel, by decide +kernel⟩
abbrev s_leading_ : Stmt := topS 122
abbrev N_leading_ : List Str := ["one", "other", "steps", "order", "table"]
theorem sc_leading_ : FnScope N_leading_ ["one", "other"] (defScope s_leading_) := ⟨rfl, rfl, rfl, by decide +kernel, rfl, by decide +kernel, by decide +kernel⟩
abbrev s_parting_ : Stmt := topS 113
abbrev N_parting_ : List Str := ["one", "other", "noes", "others", "unlike", "p"]
theorem sc_parting_ : FnScope N_parting_ ["one", "other"] (defScope s_parting_) := ⟨rfl, rfl, rfl, by decide +kernel, rfl, by decide +kernel, by decide +kernel⟩
abbrev s_point_of_ : Stmt := topS 70
abbrev N_point_of_ : List Str := ["row", "zero", "line", "h", "i", "j", "way", "made", "both", "k"]
theorem sc_point_of_ : FnScope N_point_of_ ["row", "zero", "line"] (defScope s_point_of_) := ⟨rfl, rfl, rfl, by decide +kernel, rfl, by decide +kernel, by decide +kernel⟩
abbrev s_line_of_ : Stmt := topS 71
abbrev N_line_of_ : List Str := ["row", "zero", "point", "h", "i", "j", "s", "t"]
theorem sc_line_of_ : FnScope N_line_of_ ["row", "zero", "point"] (defScope s_line_of_) := ⟨rfl, rfl, rfl, by decide +kernel, rfl, by decide +kernel, by decide +kernel⟩
abbrev s_law_door_ : Stmt := topS 140
abbrev N_law_door_ : List Str := ["_law_bad", "_law_door_here", "_law_step"]
theorem sc_law_door_ : FnScope N_law_door_ ["_law_bad", "_law_door_here"] (defScope s_law_door_) := ⟨rfl, rfl, rfl, by decide +kernel, rfl, by decide +kernel, by decide +kernel⟩
abbrev s_law_doors_ : Stmt := topS 141
abbrev N_law_doors_ : List Str := ["_law_bad", "_law_door_here", "_law_word_here", "_law_e"]
theorem sc_law_doors_ : FnScope N_law_doors_ ["_law_bad"] (defScope s_law_doors_) := ⟨rfl, rfl, rfl, by decide +kernel, rfl, by decide +kernel, by decide +kernel⟩
abbrev s_law_ : Stmt := topS 144
abbrev N_law_ : List Str := ["_law_script", "_law_j", "_law_cell", "_law_other", "_law_row_here", "_law_great_here", "_law_way", "_law_c", "_law_bad", "_law_ways"]
theorem sc_law_ : FnScope N_law_ ["_law_script"] (defScope s_law_) := ⟨rfl, rfl, rfl, by decide +kernel, rfl, by decide +kernel, by decide +kernel⟩
/-! ### where all stands -/
structure Txt (K : PySem.W.Frag) (mg : Str → Option Value) where
  a_law_cell_at_ : Addr
  d_law_cell_at_ : FuncData
  F_law_cell_at_ : Fun K "_law_cell_at" "_law_cell_at" s_law_cell_at_ a_law_cell_at_ d_law_cell_at_
  g_law_cell_at_ : mg "_law_cell_at" = some (.ref a_law_cell_at_)
  a_law_big_ : Addr
  d_law_big_ : FuncData
  F_law_big_ : Fun K "_law_big" "_law_big" s_law_big_ a_law_big_ d_law_big_
  g_law_big_ : mg "_law_big" = some (.ref a_law_big_)
  a_law_small_ : Addr
  d_law_small_ : FuncData
  F_law_small_ : Fun K "_law_small" "_law_small" s_law_small_ a_law_small_ d_law_small_
  g_law_small_ : mg "_law_small" = some (.ref a_law_small_)
  a_law_row_ : Addr
  d_law_row_ : FuncData
  F_law_row_ : Fun K "_law_row" "_law_row" s_law_row_ a_law_row_ d_law_row_
  g_law_row_ : mg "_law_row" = some (.ref a_law_row_)
  a_law_great_ : Addr
  d_law_great_ : FuncData
  F_law_great_ : Fun K "_law_great" "_law_great" s_law_great_ a_law_great_ d_law_great_
  g_law_great_ : mg "_law_great" = some (.ref a_law_great_)
  a_is_row_ : Addr
  d_is_row_ : FuncData
  F_is_row_ : Fun K "is_row" "is_row" s_is_row_ a_is_row_ d_is_row_
  g_is_row_ : mg "is_row" = some (.ref a_is_row_)
  a_must_be_row_ : Addr
  d_must_be_row_ : FuncData
  F_must_be_row_ : Fun K "must_be_row" "must_be_row" s_must_be_row_ a_must_be_row_ d_must_be_row_
  g_must_be_row_ : mg "must_be_row" = some (.ref a_must_be_row_)
  a_tried_ : Addr
  d_tried_ : FuncData
  F_tried_ : Fun K "tried" "tried" s_tried_ a_tried_ d_tried_
  g_tried_ : mg "tried" = some (.ref a_tried_)
  a_whole_root_ : Addr
  d_whole_root_ : FuncData
  F_whole_root_ : Fun K "whole_root" "whole_root" s_whole_root_ a_whole_root_ d_whole_root_
  g_whole_root_ : mg "whole_root" = some (.ref a_whole_root_)
  a_is_square_ : Addr
  d_is_square_ : FuncData
  F_is_square_ : Fun K "is_square" "is_square" s_is_square_ a_is_square_ d_is_square_
  g_is_square_ : mg "is_square" = some (.ref a_is_square_)
  a_free_of_ : Addr
  d_free_of_ : FuncData
  F_free_of_ : Fun K "free_of" "free_of" s_free_of_ a_free_of_ d_free_of_
  g_free_of_ : mg "free_of" = some (.ref a_free_of_)
  a_is_small_ : Addr
  d_is_small_ : FuncData
  F_is_small_ : Fun K "is_small" "is_small" s_is_small_ a_is_small_ d_is_small_
  g_is_small_ : mg "is_small" = some (.ref a_is_small_)
  a_must_be_small_ : Addr
  d_must_be_small_ : FuncData
  F_must_be_small_ : Fun K "must_be_small" "must_be_small" s_must_be_small_ a_must_be_small_ d_must_be_small_
  g_must_be_small_ : mg "must_be_small" = some (.ref a_must_be_small_)
  a_zero_of_ : Addr
  d_zero_of_ : FuncData
  F_zero_of_ : Fun K "zero_of" "zero_of" s_zero_of_ a_zero_of_ d_zero_of_
  g_zero_of_ : mg "zero_of" = some (.ref a_zero_of_)
  a_values_for_ : Addr
  d_values_for_ : FuncData
  F_values_for_ : Fun K "values_for" "values_for" s_values_for_ a_values_for_ d_values_for_
  g_values_for_ : mg "values_for" = some (.ref a_values_for_)
  a_zero_of_two_ : Addr
  d_zero_of_two_ : FuncData
  F_zero_of_two_ : Fun K "zero_of_two" "zero_of_two" s_zero_of_two_ a_zero_of_two_ d_zero_of_two_
  g_zero_of_two_ : mg "zero_of_two" = some (.ref a_zero_of_two_)
  a_zero_of_three_ : Addr
  d_zero_of_three_ : FuncData
  F_zero_of_three_ : Fun K "zero_of_three" "zero_of_three" s_zero_of_three_ a_zero_of_three_ d_zero_of_three_
  g_zero_of_three_ : mg "zero_of_three" = some (.ref a_zero_of_three_)
  a_law_word_ : Addr
  d_law_word_ : FuncData
  F_law_word_ : Fun K "_law_word" "_law_word" s_law_word_ a_law_word_ d_law_word_
  g_law_word_ : mg "_law_word" = some (.ref a_law_word_)
  a_law_asked_ : Addr
  d_law_asked_ : FuncData
  F_law_asked_ : Fun K "_law_asked" "_law_asked" s_law_asked_ a_law_asked_ d_law_asked_
  g_law_asked_ : mg "_law_asked" = some (.ref a_law_asked_)
  a_law_no_row_ : Addr
  d_law_no_row_ : FuncData
  F_law_no_row_ : Fun K "_law_no_row" "_law_no_row" s_law_no_row_ a_law_no_row_ d_law_no_row_
  g_law_no_row_ : mg "_law_no_row" = some (.ref a_law_no_row_)
  a_stepped_ : Addr
  d_stepped_ : FuncData
  F_stepped_ : Fun K "stepped" "stepped" s_stepped_ a_stepped_ d_stepped_
  g_stepped_ : mg "stepped" = some (.ref a_stepped_)
  a_change_of_ : Addr
  d_change_of_ : FuncData
  F_change_of_ : Fun K "change_of" "change_of" s_change_of_ a_change_of_ d_change_of_
  g_change_of_ : mg "change_of" = some (.ref a_change_of_)
  a_all_stepped_ : Addr
  d_all_stepped_ : FuncData
  F_all_stepped_ : Fun K "all_stepped" "all_stepped" s_all_stepped_ a_all_stepped_ d_all_stepped_
  g_all_stepped_ : mg "all_stepped" = some (.ref a_all_stepped_)
  a_parts_ : Addr
  d_parts_ : FuncData
  F_parts_ : Fun K "parts" "parts" s_parts_ a_parts_ d_parts_
  g_parts_ : mg "parts" = some (.ref a_parts_)
  a_places_of_ : Addr
  d_places_of_ : FuncData
  F_places_of_ : Fun K "places_of" "places_of" s_places_of_ a_places_of_ d_places_of_
  g_places_of_ : mg "places_of" = some (.ref a_places_of_)
  a_split_at_ : Addr
  d_split_at_ : FuncData
  F_split_at_ : Fun K "split_at" "split_at" s_split_at_ a_split_at_ d_split_at_
  g_split_at_ : mg "split_at" = some (.ref a_split_at_)
  a_turns_at_two_ : Addr
  d_turns_at_two_ : FuncData
  F_turns_at_two_ : Fun K "turns_at_two" "turns_at_two" s_turns_at_two_ a_turns_at_two_ d_turns_at_two_
  g_turns_at_two_ : mg "turns_at_two" = some (.ref a_turns_at_two_)
  a_power_by_ : Addr
  d_power_by_ : FuncData
  F_power_by_ : Fun K "power_by" "power_by" s_power_by_ a_power_by_ d_power_by_
  g_power_by_ : mg "power_by" = some (.ref a_power_by_)
  a_square_by_ : Addr
  d_square_by_ : FuncData
  F_square_by_ : Fun K "square_by" "square_by" s_square_by_ a_square_by_ d_square_by_
  g_square_by_ : mg "square_by" = some (.ref a_square_by_)
  a_turns_at_odd_ : Addr
  d_turns_at_odd_ : FuncData
  F_turns_at_odd_ : Fun K "turns_at_odd" "turns_at_odd" s_turns_at_odd_ a_turns_at_odd_ d_turns_at_odd_
  g_turns_at_odd_ : mg "turns_at_odd" = some (.ref a_turns_at_odd_)
  a_says_ : Addr
  d_says_ : FuncData
  F_says_ : Fun K "says" "says" s_says_ a_says_ d_says_
  g_says_ : mg "says" = some (.ref a_says_)
  a_is_odd_at_ : Addr
  d_is_odd_at_ : FuncData
  F_is_odd_at_ : Fun K "is_odd_at" "is_odd_at" s_is_odd_at_ a_is_odd_at_ d_is_odd_at_
  g_is_odd_at_ : mg "is_odd_at" = some (.ref a_is_odd_at_)
  a_noes_of_ : Addr
  d_noes_of_ : FuncData
  F_noes_of_ : Fun K "noes_of" "noes_of" s_noes_of_ a_noes_of_ d_noes_of_
  g_noes_of_ : mg "noes_of" = some (.ref a_noes_of_)
  a_how_many_pairs_ : Addr
  d_how_many_pairs_ : FuncData
  F_how_many_pairs_ : Fun K "how_many_pairs" "how_many_pairs" s_how_many_pairs_ a_how_many_pairs_ d_how_many_pairs_
  g_how_many_pairs_ : mg "how_many_pairs" = some (.ref a_how_many_pairs_)
  a_must_be_free_ : Addr
  d_must_be_free_ : FuncData
  F_must_be_free_ : Fun K "must_be_free" "must_be_free" s_must_be_free_ a_must_be_free_ d_must_be_free_
  g_must_be_free_ : mg "must_be_free" = some (.ref a_must_be_free_)
  a_parted_ : Addr
  d_parted_ : FuncData
  F_parted_ : Fun K "parted" "parted" s_parted_ a_parted_ d_parted_
  g_parted_ : mg "parted" = some (.ref a_parted_)
  a_leading_ : Addr
  d_leading_ : FuncData
  F_leading_ : Fun K "leading" "leading" s_leading_ a_leading_ d_leading_
  g_leading_ : mg "leading" = some (.ref a_leading_)
  a_parting_ : Addr
  d_parting_ : FuncData
  F_parting_ : Fun K "parting" "parting" s_parting_ a_parting_ d_parting_
  g_parting_ : mg "parting" = some (.ref a_parting_)
  a_point_of_ : Addr
  d_point_of_ : FuncData
  F_point_of_ : Fun K "point_of" "point_of" s_point_of_ a_point_of_ d_point_of_
  g_point_of_ : mg "point_of" = some (.ref a_point_of_)
  a_line_of_ : Addr
  d_line_of_ : FuncData
  F_line_of_ : Fun K "line_of" "line_of" s_line_of_ a_line_of_ d_line_of_
  g_line_of_ : mg "line_of" = some (.ref a_line_of_)
  a_law_door_ : Addr
  d_law_door_ : FuncData
  F_law_door_ : Fun K "_law_door" "_law_door" s_law_door_ a_law_door_ d_law_door_
  g_law_door_ : mg "_law_door" = some (.ref a_law_door_)
  a_law_doors_ : Addr
  d_law_doors_ : FuncData
  F_law_doors_ : Fun K "_law_doors" "_law_doors" s_law_doors_ a_law_doors_ d_law_doors_
  g_law_doors_ : mg "_law_doors" = some (.ref a_law_doors_)
  a_law_ : Addr
  d_law_ : FuncData
  F_law_ : Fun K "law" "law" s_law_ a_law_ d_law_
  g_law_ : mg "law" = some (.ref a_law_)
  n_abs : mg "abs" = none
  n_bool : mg "bool" = none
  n_int : mg "int" = none
  n_isinstance : mg "isinstance" = none
  n_len : mg "len" = none
  n_list : mg "list" = none
  n_min : mg "min" = none
  n_range : mg "range" = none
  n_sorted : mg "sorted" = none
  adr : Err → Addr
  xN : ∀ j, PySem.W.excIn K (adr j) [.type "ValueError", .type "Exception", .type "BaseException", .type "object"] "ValueError.__new__" = true
  xk : ∀ j, PySem.W.keepIn K (.ref (adr j)) = true
  xs : ∀ j, PySem.W.subIn K (.ref (adr j)) (.type "BaseException") = some true
  xt : ∀ j, PySem.W.typeIn K (.ref (adr j)) = some (.type "type")
  xC : ∀ j, ExcC K (adr j)
  xoV : ∀ j, PySem.W.kitOne K (.ref (adr j)) (.type "ValueError") = some true
  g_TooGreat : mg "TooGreat" = some (.ref (adr .tooGreat))
  g_NoText : mg "NoText" = some (.ref (adr .noText))
  g_NoRow : mg "NoRow" = some (.ref (adr .noRow))
  g_NoStep : mg "NoStep" = some (.ref (adr .noStep))
  e_FormError : Addr
  h_FormError : mg "FormError" = some (.ref e_FormError)
  xm_FormError : ∀ j, PySem.W.exmOne K (.ref (adr j)) (.ref e_FormError) = some (Err.isa j .formError)
  xo_FormError : ∀ j, PySem.W.kitOne K (.ref (adr j)) (.ref e_FormError) = some (Err.isa j .formError)
  e_NoRow : Addr
  h_NoRow : mg "NoRow" = some (.ref e_NoRow)
  xm_NoRow : ∀ j, PySem.W.exmOne K (.ref (adr j)) (.ref e_NoRow) = some (Err.isa j .noRow)
  xo_NoRow : ∀ j, PySem.W.kitOne K (.ref (adr j)) (.ref e_NoRow) = some (Err.isa j .noRow)
  e_NoStep : Addr
  h_NoStep : mg "NoStep" = some (.ref e_NoStep)
  xm_NoStep : ∀ j, PySem.W.exmOne K (.ref (adr j)) (.ref e_NoStep) = some (Err.isa j .noStep)
  xo_NoStep : ∀ j, PySem.W.kitOne K (.ref (adr j)) (.ref e_NoStep) = some (Err.isa j .noStep)
  e_NoText : Addr
  h_NoText : mg "NoText" = some (.ref e_NoText)
  xm_NoText : ∀ j, PySem.W.exmOne K (.ref (adr j)) (.ref e_NoText) = some (Err.isa j .noText)
  xo_NoText : ∀ j, PySem.W.kitOne K (.ref (adr j)) (.ref e_NoText) = some (Err.isa j .noText)
  e_TooGreat : Addr
  h_TooGreat : mg "TooGreat" = some (.ref e_TooGreat)
  xm_TooGreat : ∀ j, PySem.W.exmOne K (.ref (adr j)) (.ref e_TooGreat) = some (Err.isa j .tooGreat)
  xo_TooGreat : ∀ j, PySem.W.kitOne K (.ref (adr j)) (.ref e_TooGreat) = some (Err.isa j .tooGreat)
  t_LONGEST_ : Tok
  c_LONGEST_ : mg "LONGEST" = some (.int 8 t_LONGEST_)
  t_MOST_ : Tok
  c_MOST_ : mg "MOST" = some (.int 1073741824 t_MOST_)
  t_TRIED_ : Tok
  c_TRIED_ : mg "TRIED" = some (.int 32768 t_TRIED_)
  b_SMALL_ : Addr
  c_SMALL_ : mg "SMALL" = some (.ref b_SMALL_)
  k_SMALL_ : ∀ G, rep K G (.ref b_SMALL_) Mir.c_SMALL_
section
variable {P : Program} {w : World} {K : PySem.W.Frag} {mg : Str → Option Value} {base : Heap}
theorem bind_law_cell_at_ (T : Txt K mg) : Binds K T.d_law_cell_at_ ["_law_script", "_law_k"] [] := T.F_law_cell_at_.binds (ps := ["_law_script", "_law_k"]) fun _ _ _ _ _ _ us hl => match us, hl with | [_, _], _ => rfl
theorem bind_law_big_ (T : Txt K mg) : Binds K T.d_law_big_ ["_law_cell", "_law_k"] [] := T.F_law_big_.binds (ps := ["_law_cell", "_law_k"]) fun _ _ _ _ _ _ us hl => match us, hl with | [_, _], _ => rfl
theorem bind_law_small_ (T : Txt K mg) : Binds K T.d_law_small_ ["_law_cell"] [] := T.F_law_small_.binds (ps := ["_law_cell"]) fun _ _ _ _ _ _ us hl => match us, hl with | [_], _ => rfl
theorem bind_law_row_ (T : Txt K mg) : Binds K T.d_law_row_ ["_law_cell", "_law_size"] [] := T.F_law_row_.binds (ps := ["_law_cell", "_law_size"]) fun _ _ _ _ _ _ us hl => match us, hl with | [_, _], _ => rfl
theorem bind_law_great_ (T : Txt K mg) : Binds K T.d_law_great_ ["_law_row_here", "_law_cell"] [] := T.F_law_great_.binds (ps := ["_law_row_here", "_law_cell"]) fun _ _ _ _ _ _ us hl => match us, hl with | [_, _], _ => rfl
theorem bind_is_row_ (T : Txt K mg) : Binds K T.d_is_row_ ["row"] [] := T.F_is_row_.binds (ps := ["row"]) fun _ _ _ _ _ _ us hl => match us, hl with | [_], _ => rfl
theorem bind_must_be_row_ (T : Txt K mg) : Binds K T.d_must_be_row_ ["row"] [] := T.F_must_be_row_.binds (ps := ["row"]) fun _ _ _ _ _ _ us hl => match us, hl with | [_], _ => rfl
theorem bind_tried_ (T : Txt K mg) : Binds K T.d_tried_ ["k"] [] := T.F_tried_.binds (ps := ["k"]) fun _ _ _ _ _ _ us hl => match us, hl with | [_], _ => rfl
theorem bind_whole_root_ (T : Txt K mg) : Binds K T.d_whole_root_ ["k"] [] := T.F_whole_root_.binds (ps := ["k"]) fun _ _ _ _ _ _ us hl => match us, hl with | [_], _ => rfl
theorem bind_is_square_ (T : Txt K mg) : Binds K T.d_is_square_ ["k"] [] := T.F_is_square_.binds (ps := ["k"]) fun _ _ _ _ _ _ us hl => match us, hl with | [_], _ => rfl
theorem bind_free_of_ (T : Txt K mg) : Binds K T.d_free_of_ ["k"] [] := T.F_free_of_.binds (ps := ["k"]) fun _ _ _ _ _ _ us hl => match us, hl with | [_], _ => rfl
theorem bind_is_small_ (T : Txt K mg) : Binds K T.d_is_small_ ["k"] [] := T.F_is_small_.binds (ps := ["k"]) fun _ _ _ _ _ _ us hl => match us, hl with | [_], _ => rfl
theorem bind_must_be_small_ (T : Txt K mg) : Binds K T.d_must_be_small_ ["row"] [] := T.F_must_be_small_.binds (ps := ["row"]) fun _ _ _ _ _ _ us hl => match us, hl with | [_], _ => rfl
theorem bind_zero_of_ (T : Txt K mg) : Binds K T.d_zero_of_ ["row"] [] := T.F_zero_of_.binds (ps := ["row"]) fun _ _ _ _ _ _ us hl => match us, hl with | [_], _ => rfl
theorem bind_values_for_ (T : Txt K mg) : Binds K T.d_values_for_ ["row", "c"] [] := T.F_values_for_.binds (ps := ["row", "c"]) fun _ _ _ _ _ _ us hl => match us, hl with | [_, _], _ => rfl
theorem bind_zero_of_two_ (T : Txt K mg) : Binds K T.d_zero_of_two_ ["row"] [] := T.F_zero_of_two_.binds (ps := ["row"]) fun _ _ _ _ _ _ us hl => match us, hl with | [_], _ => rfl
theorem bind_zero_of_three_ (T : Txt K mg) : Binds K T.d_zero_of_three_ ["row"] [] := T.F_zero_of_three_.binds (ps := ["row"]) fun _ _ _ _ _ _ us hl => match us, hl with | [_], _ => rfl
theorem bind_law_word_ (T : Txt K mg) : Binds K T.d_law_word_ ["_law_e"] [] := T.F_law_word_.binds (ps := ["_law_e"]) fun _ _ _ _ _ _ us hl => match us, hl with | [_], _ => rfl
theorem bind_law_asked_ (T : Txt K mg) : Binds K T.d_law_asked_ ["_law_row_here", "_law_c", "_law_way"] [] := T.F_law_asked_.binds (ps := ["_law_row_here", "_law_c", "_law_way"]) fun _ _ _ _ _ _ us hl => match us, hl with | [_, _, _], _ => rfl
theorem bind_law_no_row_ (T : Txt K mg) : Binds K T.d_law_no_row_ ["_law_row_here", "_law_cell"] [] := T.F_law_no_row_.binds (ps := ["_law_row_here", "_law_cell"]) fun _ _ _ _ _ _ us hl => match us, hl with | [_, _], _ => rfl
theorem bind_stepped_ (T : Txt K mg) : Binds K T.d_stepped_ ["row", "step"] [] := T.F_stepped_.binds (ps := ["row", "step"]) fun _ _ _ _ _ _ us hl => match us, hl with | [_, _], _ => rfl
theorem bind_change_of_ (T : Txt K mg) : Binds K T.d_change_of_ ["row", "step"] [] := T.F_change_of_.binds (ps := ["row", "step"]) fun _ _ _ _ _ _ us hl => match us, hl with | [_, _], _ => rfl
theorem bind_all_stepped_ (T : Txt K mg) : Binds K T.d_all_stepped_ ["row", "steps"] [] := T.F_all_stepped_.binds (ps := ["row", "steps"]) fun _ _ _ _ _ _ us hl => match us, hl with | [_, _], _ => rfl
theorem bind_parts_ (T : Txt K mg) : Binds K T.d_parts_ ["k"] [] := T.F_parts_.binds (ps := ["k"]) fun _ _ _ _ _ _ us hl => match us, hl with | [_], _ => rfl
theorem bind_places_of_ (T : Txt K mg) : Binds K T.d_places_of_ ["numbers"] [] := T.F_places_of_.binds (ps := ["numbers"]) fun _ _ _ _ _ _ us hl => match us, hl with | [_], _ => rfl
theorem bind_split_at_ (T : Txt K mg) : Binds K T.d_split_at_ ["k", "p"] [] := T.F_split_at_.binds (ps := ["k", "p"]) fun _ _ _ _ _ _ us hl => match us, hl with | [_, _], _ => rfl
theorem bind_turns_at_two_ (T : Txt K mg) : Binds K T.d_turns_at_two_ ["a", "b"] [] := T.F_turns_at_two_.binds (ps := ["a", "b"]) fun _ _ _ _ _ _ us hl => match us, hl with | [_, _], _ => rfl
theorem bind_power_by_ (T : Txt K mg) : Binds K T.d_power_by_ ["k", "often", "m"] [] := T.F_power_by_.binds (ps := ["k", "often", "m"]) fun _ _ _ _ _ _ us hl => match us, hl with | [_, _, _], _ => rfl
theorem bind_square_by_ (T : Txt K mg) : Binds K T.d_square_by_ ["k", "p"] [] := T.F_square_by_.binds (ps := ["k", "p"]) fun _ _ _ _ _ _ us hl => match us, hl with | [_, _], _ => rfl
theorem bind_turns_at_odd_ (T : Txt K mg) : Binds K T.d_turns_at_odd_ ["a", "b", "p"] [] := T.F_turns_at_odd_.binds (ps := ["a", "b", "p"]) fun _ _ _ _ _ _ us hl => match us, hl with | [_, _, _], _ => rfl
theorem bind_says_ (T : Txt K mg) : Binds K T.d_says_ ["a", "b", "p"] [] := T.F_says_.binds (ps := ["a", "b", "p"]) fun _ _ _ _ _ _ us hl => match us, hl with | [_, _, _], _ => rfl
theorem bind_is_odd_at_ (T : Txt K mg) : Binds K T.d_is_odd_at_ ["row", "p"] [] := T.F_is_odd_at_.binds (ps := ["row", "p"]) fun _ _ _ _ _ _ us hl => match us, hl with | [_, _], _ => rfl
theorem bind_noes_of_ (T : Txt K mg) : Binds K T.d_noes_of_ ["row"] [] := T.F_noes_of_.binds (ps := ["row"]) fun _ _ _ _ _ _ us hl => match us, hl with | [_], _ => rfl
theorem bind_how_many_pairs_ (T : Txt K mg) : Binds K T.d_how_many_pairs_ ["row"] [] := T.F_how_many_pairs_.binds (ps := ["row"]) fun _ _ _ _ _ _ us hl => match us, hl with | [_], _ => rfl
theorem bind_must_be_free_ (T : Txt K mg) : Binds K T.d_must_be_free_ ["row", "most"] [] := T.F_must_be_free_.binds (ps := ["row", "most"]) fun _ _ _ _ _ _ us hl => match us, hl with | [_, _], _ => rfl
theorem bind_parted_ (T : Txt K mg) : Binds K T.d_parted_ ["row"] [] := T.F_parted_.binds (ps := ["row"]) fun _ _ _ _ _ _ us hl => match us, hl with | [_], _ => rfl
theorem bind_leading_ (T : Txt K mg) : Binds K T.d_leading_ ["one", "other"] [] := T.F_leading_.binds (ps := ["one", "other"]) fun _ _ _ _ _ _ us hl => match us, hl with | [_, _], _ => rfl
theorem bind_parting_ (T : Txt K mg) : Binds K T.d_parting_ ["one", "other"] [] := T.F_parting_.binds (ps := ["one", "other"]) fun _ _ _ _ _ _ us hl => match us, hl with | [_, _], _ => rfl
theorem bind_point_of_ (T : Txt K mg) : Binds K T.d_point_of_ ["row", "zero", "line"] [] := T.F_point_of_.binds (ps := ["row", "zero", "line"]) fun _ _ _ _ _ _ us hl => match us, hl with | [_, _, _], _ => rfl
theorem bind_line_of_ (T : Txt K mg) : Binds K T.d_line_of_ ["row", "zero", "point"] [] := T.F_line_of_.binds (ps := ["row", "zero", "point"]) fun _ _ _ _ _ _ us hl => match us, hl with | [_, _, _], _ => rfl
theorem bind_law_door_ (T : Txt K mg) : Binds K T.d_law_door_ ["_law_bad", "_law_door_here"] [] := T.F_law_door_.binds (ps := ["_law_bad", "_law_door_here"]) fun _ _ _ _ _ _ us hl => match us, hl with | [_, _], _ => rfl
theorem bind_law_doors_ (T : Txt K mg) : Binds K T.d_law_doors_ ["_law_bad"] [] := T.F_law_doors_.binds (ps := ["_law_bad"]) fun _ _ _ _ _ _ us hl => match us, hl with | [_], _ => rfl
theorem ok_law_cell_at_ (T : Txt K mg) : FnOk P w K mg base CX0 1 T.a_law_cell_at_ T.d_law_cell_at_ ["_law_script", "_law_k"] (Sp2 K (RV K) Mir.law_cell_at_) := by
  refine T.F_law_cell_at_.ok sc_law_cell_at_ (Sp2.len rfl) (fun cdv A outer s He vs Q E hr h => ?_)
  obtain ⟨Ge, w_law_script_, w_law_k_, law_script_, law_k_, r, rfl, hs, r_law_script_, r_law_k_, hm, q⟩ := h
  have e : Ext Ge He Ge He := Ext.refl hs
  have r2_law_k_ : w_law_k_ = V.int law_k_ := r_law_k_
  subst r2_law_k_
  clear r_law_k_
  unfold Mir.law_cell_at_ at hm
  refine ⟨_, (pss_cons (ps_if (pt_cmpR op_lt (pv 1) (pe_callB call_len_seq (by rfl) T.n_len (by decide +kernel) (pa_cons (pv 0) pa_nil)) (nomark _)) (pss_one (ps_ret (pe_ix ix_list (pv 0) (pv 1) (fun _ _ => rfl)))) pss_nil) (pss_one (ps_ret pe_int))), ?_⟩
  try dsimp only
  refine st_seq ?_
  refine st_if e.s (st_test (K := K) (se_ltp (se_iv (i := 1) (d := law_k_) rfl) (se_lenKp (se_var (i := 0) (d := law_script_) rfl r_law_script_)))) hm (fun G1 H1 ce hm => ?_) (fun G1 H1 ce hm => ?_)
  · replace e := e.trans ce
    replace r_law_script_ := Rp.mono ce.g r_law_script_
    try dsimp only
    exact st_ret (RR := RV K) e rvm (SE.xe (se_ixKp (se_var (i := 0) (d := law_script_) rfl r_law_script_) (se_iv (i := 1) (d := law_k_) rfl))) hm q
  · replace e := e.trans ce
    replace r_law_script_ := Rp.mono ce.g r_law_script_
    refine st_next ?_
    try dsimp only
    exact st_ret (RR := RV K) e rvm (SE.xe (se_int (n := 0))) hm q
theorem ok_law_big_ (T : Txt K mg) : FnOk P w K mg base CX0 1 T.a_law_big_ T.d_law_big_ ["_law_cell", "_law_k"] (Sp2 K (RV K) Mir.law_big_) := by
  refine T.F_law_big_.ok sc_law_big_ (Sp2.len rfl) (fun cdv A outer s He vs Q E hr h => ?_)
  obtain ⟨Ge, w_law_cell_, w_law_k_, law_cell_, law_k_, r, rfl, hs, r_law_cell_, r_law_k_, hm, q⟩ := h
  have e : Ext Ge He Ge He := Ext.refl hs
  have r2_law_cell_ : w_law_cell_ = V.int law_cell_ := r_law_cell_
  subst r2_law_cell_
  clear r_law_cell_
  have r2_law_k_ : w_law_k_ = V.int law_k_ := r_law_k_
  subst r2_law_k_
  clear r_law_k_
  unfold Mir.law_big_ at hm
  refine ⟨_, (pss_cons (ps_if (pt_cmpR op_ge (pe_callB call_abs (by rfl) T.n_abs (by decide +kernel) (pa_cons (pv 0) pa_nil)) (pe_op op_pow pe_int pe_int) (nomark _)) (pss_one (ps_ret (pv 0))) pss_nil) (pss_cons (ps_set (i := 2) sc_law_big_.nd rfl (Or.inl rfl) pe_int) (pss_cons (ps_for PassesOwn.never rfl (pi_range1 (by rfl) T.n_range (pa_cons pe_int pa_nil)) (pg_name (i := 3) sc_law_big_.nd rfl (Or.inl rfl)) (pss_cons (ps_set (i := 4) sc_law_big_.nd rfl (Or.inl rfl) (pe_op op_add (pe_op op_add (pe_op op_add (pe_op op_mod (pe_callB call_abs (by rfl) T.n_abs (by decide +kernel) (pa_cons (pv 0) pa_nil)) pe_int) (pe_op op_mulZ pe_int (pv 1))) (pe_op op_mulZ pe_int (pv 3))) pe_int)) (pss_cons (ps_set (i := 4) sc_law_big_.nd rfl (Or.inl rfl) (pe_op op_mod (pe_op op_mulZ (pv 4) (pe_op op_add (pe_op op_add pe_int (pe_op op_mulZ (pv 3) (pv 3))) (pv 1))) pe_int)) (pss_one (ps_set (i := 2) sc_law_big_.nd rfl (Or.inl rfl) (pe_op op_add (pe_op op_mulZ (pv 2) pe_int) (pe_op op_mod (pe_op op_mulZ (pv 4) pe_int) pe_int))))))) (pss_one (ps_ret (pv 2)))))), ?_⟩
  try dsimp only
  refine st_seq ?_
  refine st_if e.s (st_test (K := K) (se_gep (se_absp (se_iv (i := 0) (d := law_cell_) rfl)) (se_kpow (n := 1000000000000000000) (se_int (n := 10)) (se_int (n := 18)) (by decide +kernel)))) hm (fun G1 H1 ce hm => ?_) (fun G1 H1 ce hm => ?_)
  · replace e := e.trans ce
    try dsimp only
    exact st_ret (RR := RV K) e rvm (SE.xe (se_iv (i := 0) (d := law_cell_) rfl)) hm q
  · replace e := e.trans ce
    refine st_next ?_
    try dsimp only
    refine st_seq ?_
    refine st_set (K := K) e.s (se_int (n := 0)) hm (fun law_number_ w_law_number_ G1 H1 ce r_law_number_ hm => ?_)
    replace e := e.trans ce
    have r_law_number_ : w_law_number_ = V.int law_number_ := r_law_number_; subst r_law_number_
    try dsimp only
    refine st_seq ?_
    refine st_for (K := K) e.s (ie_range1p (se_int (n := 9))) hm (fun xs J Gs1 Hs1 ce it hm => ?_)
    replace e := e.trans ce
    have sg1 : Same Gs1 Gs1 := Same.refl _
    obtain ⟨z1, hw, hm⟩ := bind_some hm
    refine lg_N (K := K) (fun (s1 : Int) σ G H => ∃ (j3 : Option V) (j4 : Option V), σ = [some (V.int law_cell_), some (V.int law_k_), some (V.int s1), j3, j4] ∧ Ext Ge He G H ∧ Same Gs1 G) it hw ⟨_, _, rfl, e, sg1⟩ (fun s1 σ G H h => ?_) (fun s1 i1 f w1 σ G H G1 H1 N hx h ce hv hm hN => ?_) (fun σ G H h => ?_)
    · obtain ⟨j3, j4, es, e, sg1⟩ := h
      subst es
      exact ⟨sg1, e.s⟩
    · clear hw it
      obtain ⟨j3, j4, es, e, sg1⟩ := h
      subst es
      replace e := e.trans ce
      replace sg1 := sg1.trans ce.g
      refine g_name ?_
      have hv2 : w1 = V.int i1 := hv
      subst hv2
      clear hv
      try dsimp only
      refine st_seq ?_
      refine st_set (K := K) e.s (se_add (se_add (se_add (se_modcp (se_absp (se_iv (i := 0) (d := law_cell_) rfl)) (by decide)) (se_mulp (se_int (n := 97)) (se_iv (i := 1) (d := law_k_) rfl))) (se_mulp (se_int (n := 131)) (se_iv (i := 3) (d := i1) rfl))) (se_int (n := 13))) hm (fun law_part_ w_law_part_ G1 H1 ce r_law_part_ hm => ?_)
      replace e := e.trans ce
      replace sg1 := sg1.trans ce.g
      have r_law_part_ : w_law_part_ = V.int law_part_ := r_law_part_; subst r_law_part_
      try dsimp only
      refine st_seq ?_
      refine st_set (K := K) e.s (se_modc (se_mul (se_iv (i := 4) (d := law_part_) rfl) (se_add (se_add (se_int (n := 16807)) (se_mulp (se_iv (i := 3) (d := i1) rfl) (se_iv (i := 3) (d := i1) rfl))) (se_iv (i := 1) (d := law_k_) rfl))) (by decide)) hm (fun law_part_ w_law_part_ G1 H1 ce r_law_part_ hm => ?_)
      replace e := e.trans ce
      replace sg1 := sg1.trans ce.g
      have r_law_part_ : w_law_part_ = V.int law_part_ := r_law_part_; subst r_law_part_
      try dsimp only
      refine st_set (K := K) e.s (se_add (se_mulp (se_iv (i := 2) (d := s1) rfl) (se_int (n := 2147483659))) (se_modc (se_mulp (se_iv (i := 4) (d := law_part_) rfl) (se_int (n := 48271))) (by decide))) hm (fun law_number_ w_law_number_ G1 H1 ce r_law_number_ hm => ?_)
      replace e := e.trans ce
      replace sg1 := sg1.trans ce.g
      have r_law_number_ : w_law_number_ = V.int law_number_ := r_law_number_; subst r_law_number_
      cases hm
      exact hN _ _ _ ⟨_, _, rfl, e, sg1⟩
    · clear hw it
      obtain ⟨j3, j4, es, e, sg1⟩ := h
      subst es
      clear sg1
      try dsimp only
      exact st_ret (RR := RV K) e rvm (SE.xe (se_iv (i := 2) (d := z1) rfl)) hm q
theorem ok_law_small_ (T : Txt K mg) : FnOk P w K mg base CX0 1 T.a_law_small_ T.d_law_small_ ["_law_cell"] (Sp1 K (RV K) Mir.law_small_) := by
  refine T.F_law_small_.ok sc_law_small_ (Sp1.len rfl) (fun cdv A outer s He vs Q E hr h => ?_)
  obtain ⟨Ge, w_law_cell_, law_cell_, r, rfl, hs, r_law_cell_, hm, q⟩ := h
  have e : Ext Ge He Ge He := Ext.refl hs
  have r2_law_cell_ : w_law_cell_ = V.int law_cell_ := r_law_cell_
  subst r2_law_cell_
  clear r_law_cell_
  unfold Mir.law_small_ at hm
  refine ⟨_, (pss_cons (ps_set (i := 1) sc_law_small_.nd rfl (Or.inl rfl) (pe_op op_sub pe_int (pe_op op_mulZ pe_int (pe_op op_mod (pv 0) pe_int)))) (pss_cons (ps_set (i := 2) sc_law_small_.nd rfl (Or.inl rfl) (pe_op op_fdivW (pv 0) pe_int)) (pss_cons (ps_for PassesOwn.never rfl (pi_list (pe_lst (pa_cons pe_int (pa_cons pe_int (pa_cons pe_int (pa_cons pe_int (pa_cons pe_int (pa_cons pe_int pa_nil)))))))) (pg_name (i := 3) sc_law_small_.nd rfl (Or.inl rfl)) (pss_cons (ps_if (pt_cmpR op_eq (pe_op op_mod (pv 2) pe_int) pe_int (nomark _)) (pss_one (ps_set (i := 1) sc_law_small_.nd rfl (Or.inl rfl) (pe_op op_mulZ (pv 1) (pv 3)))) pss_nil) (pss_one (ps_set (i := 2) sc_law_small_.nd rfl (Or.inl rfl) (pe_op op_fdivW (pv 2) pe_int))))) (pss_one (ps_ret (pv 1)))))), ?_⟩
  try dsimp only
  refine st_seq ?_
  refine st_set (K := K) e.s (se_sub (se_int (n := 1)) (se_mulp (se_int (n := 2)) (se_modcp (se_iv (i := 0) (d := law_cell_) rfl) (by decide)))) hm (fun law_number_ w_law_number_ G1 H1 ce r_law_number_ hm => ?_)
  replace e := e.trans ce
  have r_law_number_ : w_law_number_ = V.int law_number_ := r_law_number_; subst r_law_number_
  try dsimp only
  refine st_seq ?_
  refine st_set (K := K) e.s (se_divcp (se_iv (i := 0) (d := law_cell_) rfl) (by decide)) hm (fun law_bits_ w_law_bits_ G1 H1 ce r_law_bits_ hm => ?_)
  replace e := e.trans ce
  have r_law_bits_ : w_law_bits_ = V.int law_bits_ := r_law_bits_; subst r_law_bits_
  try dsimp only
  refine st_seq ?_
  refine st_for (K := K) e.s (IB.ie (ib_list (FE.se (fe_lst (la_consp (se_int (n := 2)) (la_consp (se_int (n := 3)) (la_consp (se_int (n := 5)) (la_consp (se_int (n := 7)) (la_consp (se_int (n := 11)) (la_consp (se_int (n := 13)) la_nil)))))))))) hm (fun xs J Gs1 Hs1 ce it hm => ?_)
  replace e := e.trans ce
  have sg1 : Same Gs1 Gs1 := Same.refl _
  obtain ⟨z1, hw, hm⟩ := bind_some hm
  refine lg_N (K := K) (fun (s1 : Int × Int) σ G H => ∃ (j3 : Option V), σ = [some (V.int law_cell_), some (V.int s1.1), some (V.int s1.2), j3] ∧ Ext Ge He G H ∧ Same Gs1 G) it hw ⟨_, rfl, e, sg1⟩ (fun s1 σ G H h => ?_) (fun s1 i1 f w1 σ G H G1 H1 N hx h ce hv hm hN => ?_) (fun σ G H h => ?_)
  · obtain ⟨j3, es, e, sg1⟩ := h
    subst es
    exact ⟨sg1, e.s⟩
  · clear hw it
    obtain ⟨j3, es, e, sg1⟩ := h
    subst es
    replace e := e.trans ce
    replace sg1 := sg1.trans ce.g
    refine g_name ?_
    have hv2 : w1 = V.int i1 := hv
    subst hv2
    clear hv
    try dsimp only
    refine st_seq ?_
    obtain ⟨s2, hA, hm⟩ := bind_some hm
    refine st_join (fun σ H => ∃ G, σ = [some (V.int law_cell_), some (V.int s2), some (V.int s1.2), some (V.int i1)] ∧ Ext Ge He G H ∧ Same Gs1 G) (fun σ H h => ?_) (fun N hN => ?_)
    · obtain ⟨G, es, e, sg1⟩ := h
      subst es
      try dsimp only
      refine st_set (K := K) e.s (se_divcp (se_iv (i := 2) (d := s1.2) rfl) (by decide)) hm (fun law_bits_ w_law_bits_ G1 H1 ce r_law_bits_ hm => ?_)
      replace e := e.trans ce
      replace sg1 := sg1.trans ce.g
      have r_law_bits_ : w_law_bits_ = V.int law_bits_ := r_law_bits_; subst r_law_bits_
      cases hm
      exact hN _ _ _ ⟨_, rfl, e, sg1⟩
    · clear hm
      refine st_if e.s (st_test (K := K) (se_eqp (se_modcp (se_iv (i := 2) (d := s1.2) rfl) (by decide)) (se_int (n := 1)))) hA (fun G1 H1 ce hm => ?_) (fun G1 H1 ce hm => ?_)
      · replace e := e.trans ce
        replace sg1 := sg1.trans ce.g
        try dsimp only
        refine st_set (K := K) e.s (se_mulp (se_iv (i := 1) (d := s1.1) rfl) (se_iv (i := 3) (d := i1) rfl)) hm (fun law_number_ w_law_number_ G1 H1 ce r_law_number_ hm => ?_)
        replace e := e.trans ce
        replace sg1 := sg1.trans ce.g
        have r_law_number_ : w_law_number_ = V.int law_number_ := r_law_number_; subst r_law_number_
        cases hm
        exact hN _ _ ⟨_, rfl, e, sg1⟩
      · replace e := e.trans ce
        replace sg1 := sg1.trans ce.g
        refine st_next ?_
        cases hm
        exact hN _ _ ⟨_, rfl, e, sg1⟩
  · clear hw it
    obtain ⟨j3, es, e, sg1⟩ := h
    subst es
    clear sg1
    try dsimp only
    exact st_ret (RR := RV K) e rvm (SE.xe (se_iv (i := 1) (d := z1.1) rfl)) hm q
theorem ok_law_row_ (T : Txt K mg) : FnOk P w K mg base CX0 2 T.a_law_row_ T.d_law_row_ ["_law_cell", "_law_size"] (Sp2 K (RF K) Mir.law_row_) := by
  refine T.F_law_row_.ok sc_law_row_ (Sp2.len rfl) (fun cdv A outer s He vs Q E hr h => ?_)
  obtain ⟨Ge, w_law_cell_, w_law_size_, law_cell_, law_size_, r, rfl, hs, r_law_cell_, r_law_size_, hm, q⟩ := h
  have e : Ext Ge He Ge He := Ext.refl hs
  have r2_law_cell_ : w_law_cell_ = V.int law_cell_ := r_law_cell_
  subst r2_law_cell_
  clear r_law_cell_
  have r2_law_size_ : w_law_size_ = V.int law_size_ := r_law_size_
  subst r2_law_size_
  clear r_law_size_
  unfold Mir.law_row_ at hm
  refine ⟨_, (pss_cons (ps_set (i := 2) sc_law_row_.nd rfl (Or.inl rfl) (pe_lst pa_nil)) (pss_cons (ps_set (i := 3) sc_law_row_.nd rfl (Or.inl rfl) (pv 0)) (pss_cons (ps_for PassesOwn.never rfl (pi_range1 (by rfl) T.n_range (pa_cons (pv 1) pa_nil)) (pg_name (i := 4) sc_law_row_.nd rfl (Or.inl rfl)) (pss_cons (ps_set (i := 5) sc_law_row_.nd rfl (Or.inl rfl) pe_int) (pss_cons (ps_if (pt_cmpR op_eq (pe_op op_mod (pe_op op_fdivW (pv 3) pe_int) pe_int) pe_int (nomark _)) (pss_one (ps_set (i := 5) sc_law_row_.nd rfl (Or.inl rfl) (pe_op op_add pe_int (pe_op op_mod (pe_op op_fdivW (pv 3) pe_int) pe_int)))) pss_nil) (pss_cons (ps_expr (pe_bm PySem.F.plainAttrs_list PySem.F.slot_list_append PySem.F.type_list_append mt_append (pv 2) (pa_cons (pe_op op_mulZ (pe_op op_mulZ (pe_call (ok_law_small_ T) (hr.mono (by decide)) (by rfl) T.g_law_small_ T.F_law_small_.kp (bind_law_small_ T) .nil pass0 (pa_cons (pv 3) pa_nil)) (pv 5)) (pv 5)) pa_nil))) (pss_one (ps_set (i := 3) sc_law_row_.nd rfl (Or.inl rfl) (pe_op op_fdivW (pv 3) pe_int))))))) (pss_one (ps_ret (pv 2)))))), ?_⟩
  try dsimp only
  refine st_seq ?_
  refine st_setF (K := K) e.s (fe_lst la_nil) hm (fun law_row_here_ p_law_row_here_ G1 H1 ce r_law_row_here_ hm => ?_)
  replace r_law_row_here_ := r_law_row_here_.up e.h
  replace e := e.trans ce
  try dsimp only
  refine st_seq ?_
  refine st_set (K := K) e.s (se_iv (i := 0) (d := law_cell_) rfl) hm (fun law_rest_ w_law_rest_ G1 H1 ce r_law_rest_ hm => ?_)
  replace e := e.trans ce
  replace r_law_row_here_ := r_law_row_here_.mono ce
  have r_law_rest_ : w_law_rest_ = V.int law_rest_ := r_law_rest_; subst r_law_rest_
  try dsimp only
  refine st_seq ?_
  refine st_for (K := K) e.s (ie_range1p (se_iv (i := 1) (d := law_size_) rfl)) hm (fun xs J Gs1 Hs1 ce it hm => ?_)
  replace e := e.trans ce
  replace r_law_row_here_ := r_law_row_here_.mono ce
  have sg1 : Same Gs1 Gs1 := Same.refl _
  obtain ⟨z1, hw, hm⟩ := bind_some hm
  refine lg_N (K := K) (fun (s1 : (List Int) × Int) σ G H => ∃ (p_law_row_here_ : Addr) (j4 : Option V) (j5 : Option V), σ = [some (V.int law_cell_), some (V.int law_size_), some (V.ref p_law_row_here_), some (V.int s1.2), j4, j5] ∧ Ext Ge He G H ∧ Same Gs1 G ∧ Own K He G H p_law_row_here_ s1.1) it hw ⟨_, _, _, rfl, e, sg1, r_law_row_here_⟩ (fun s1 σ G H h => ?_) (fun s1 i1 f w1 σ G H G1 H1 N hx h ce hv hm hN => ?_) (fun σ G H h => ?_)
  · obtain ⟨p_law_row_here_, j4, j5, es, e, sg1, r_law_row_here_⟩ := h
    subst es
    exact ⟨sg1, e.s⟩
  · clear hw it
    obtain ⟨p_law_row_here_, j4, j5, es, e, sg1, r_law_row_here_⟩ := h
    subst es
    replace e := e.trans ce
    replace sg1 := sg1.trans ce.g
    replace r_law_row_here_ := r_law_row_here_.mono ce
    refine g_name ?_
    have hv2 : w1 = V.int i1 := hv
    subst hv2
    clear hv
    try dsimp only
    refine st_seq ?_
    refine st_set (K := K) e.s (se_int (n := 1)) hm (fun law_root_ w_law_root_ G1 H1 ce r_law_root_ hm => ?_)
    replace e := e.trans ce
    replace sg1 := sg1.trans ce.g
    replace r_law_row_here_ := r_law_row_here_.mono ce
    have r_law_root_ : w_law_root_ = V.int law_root_ := r_law_root_; subst r_law_root_
    try dsimp only
    refine st_seq ?_
    obtain ⟨s2, hA, hm⟩ := bind_some hm
    refine st_join (fun σ H => ∃ G, ∃ (p_law_row_here_ : Addr), σ = [some (V.int law_cell_), some (V.int law_size_), some (V.ref p_law_row_here_), some (V.int s1.2), some (V.int i1), some (V.int s2)] ∧ Ext Ge He G H ∧ Same Gs1 G ∧ Own K He G H p_law_row_here_ s1.1) (fun σ H h => ?_) (fun N hN => ?_)
    · obtain ⟨G, p_law_row_here_, es, e, sg1, r_law_row_here_⟩ := h
      subst es
      try dsimp only
      refine st_seq ?_
      refine st_app (K := K) e.s rfl r_law_row_here_ (se_mul (se_mul (XE.se (xe_call1p rvm (se_iv (i := 3) (d := s1.2) rfl))) (se_iv (i := 5) (d := s2) rfl)) (se_iv (i := 5) (d := s2) rfl)) hm (fun law_row_here_ h_law_row_here_ G1 H1 ce ro g0 hm => ?_)
      replace e := e.trans ce
      replace sg1 := sg1.trans ce.g
      replace e := e.put (o := h_law_row_here_) ro.z g0 (r_law_row_here_.mono ce).pn
      clear r_law_row_here_ g0
      have r_law_row_here_ := ro
      clear ro
      try dsimp only
      refine st_set (K := K) e.s (se_divcp (se_iv (i := 3) (d := s1.2) rfl) (by decide)) hm (fun law_rest_ w_law_rest_ G1 H1 ce r_law_rest_ hm => ?_)
      replace e := e.trans ce
      replace sg1 := sg1.trans ce.g
      replace r_law_row_here_ := r_law_row_here_.mono ce
      have r_law_rest_ : w_law_rest_ = V.int law_rest_ := r_law_rest_; subst r_law_rest_
      cases hm
      exact hN _ _ _ ⟨_, _, _, rfl, e, sg1, r_law_row_here_⟩
    · clear hm
      refine st_if e.s (st_test (K := K) (se_eqp (se_modcp (se_divcp (se_iv (i := 3) (d := s1.2) rfl) (by decide)) (by decide)) (se_int (n := 0)))) hA (fun G1 H1 ce hm => ?_) (fun G1 H1 ce hm => ?_)
      · replace e := e.trans ce
        replace sg1 := sg1.trans ce.g
        replace r_law_row_here_ := r_law_row_here_.mono ce
        try dsimp only
        refine st_set (K := K) e.s (se_addp (se_int (n := 1)) (se_modcp (se_divcp (se_iv (i := 3) (d := s1.2) rfl) (by decide)) (by decide))) hm (fun law_root_ w_law_root_ G1 H1 ce r_law_root_ hm => ?_)
        replace e := e.trans ce
        replace sg1 := sg1.trans ce.g
        replace r_law_row_here_ := r_law_row_here_.mono ce
        have r_law_root_ : w_law_root_ = V.int law_root_ := r_law_root_; subst r_law_root_
        cases hm
        exact hN _ _ ⟨_, _, rfl, e, sg1, r_law_row_here_⟩
      · replace e := e.trans ce
        replace sg1 := sg1.trans ce.g
        replace r_law_row_here_ := r_law_row_here_.mono ce
        refine st_next ?_
        cases hm
        exact hN _ _ ⟨_, _, rfl, e, sg1, r_law_row_here_⟩
  · clear hw it
    obtain ⟨p_law_row_here_, j4, j5, es, e, sg1, r_law_row_here_⟩ := h
    subst es
    clear sg1
    try dsimp only
    exact st_retO (K := K) rfl e r_law_row_here_ hm q
theorem ok_law_great_ (T : Txt K mg) : FnOk P w K mg base CX0 1 T.a_law_great_ T.d_law_great_ ["_law_row_here", "_law_cell"] (Sp2 K (RF K) Mir.law_great_) := by
  refine T.F_law_great_.ok sc_law_great_ (Sp2.len rfl) (fun cdv A outer s He vs Q E hr h => ?_)
  obtain ⟨Ge, w_law_row_here_, w_law_cell_, law_row_here_, law_cell_, r, rfl, hs, r_law_row_here_, r_law_cell_, hm, q⟩ := h
  have e : Ext Ge He Ge He := Ext.refl hs
  have r2_law_cell_ : w_law_cell_ = V.int law_cell_ := r_law_cell_
  subst r2_law_cell_
  clear r_law_cell_
  unfold Mir.law_great_ at hm
  refine ⟨_, (pss_cons (ps_set (i := 2) sc_law_great_.nd rfl (Or.inl rfl) (pe_op op_modN (pv 1) (pe_callB call_len_seq (by rfl) T.n_len (by decide +kernel) (pa_cons (pv 0) pa_nil)))) (pss_cons (ps_set (i := 3) sc_law_great_.nd rfl (Or.inl rfl) (pe_ix ix_list (pe_lst (pa_cons pe_int (pa_cons pe_int (pa_cons pe_int (pa_cons pe_int pa_nil))))) (pe_op op_mod (pe_op op_fdivW (pv 1) pe_int) pe_int) (fun _ _ => rfl))) (pss_cons (ps_set (i := 4) sc_law_great_.nd rfl (Or.inl rfl) (pe_callTy call_list_of (by rfl) T.n_list (by decide +kernel) (pa_cons (pv 0) pa_nil))) (pss_cons (ps_asg (pe_op op_mulZ (pe_ix ix_list (pv 4) (pv 2) (fun _ _ => rfl)) (pv 3)) (pg_sub (pv 4) (pv 2) set_list)) (pss_cons (ps_if (pt_cmpR op_ge (pe_callB call_abs (by rfl) T.n_abs (by decide +kernel) (pa_cons (pe_ix ix_list (pv 4) (pv 2) (fun _ _ => rfl)) pa_nil)) pe_int (nomark _)) (pss_one (ps_asg (pv 3) (pg_sub (pv 4) (pv 2) set_list))) pss_nil) (pss_one (ps_ret (pv 4)))))))), ?_⟩
  try dsimp only
  refine st_seq ?_
  refine st_set (K := K) e.s (se_modp (se_iv (i := 1) (d := law_cell_) rfl) (se_lenp (se_var (i := 0) (d := law_row_here_) rfl r_law_row_here_))) hm (fun law_k_ w_law_k_ G1 H1 ce r_law_k_ hm => ?_)
  replace e := e.trans ce
  replace r_law_row_here_ := Rp.mono ce.g r_law_row_here_
  have r_law_k_ : w_law_k_ = V.int law_k_ := r_law_k_; subst r_law_k_
  try dsimp only
  refine st_seq ?_
  refine st_set (K := K) e.s (se_ixp (FE.se (fe_lst (la_consp (se_int (n := 17)) (la_consp (se_int (n := 19)) (la_consp (se_int (n := 23)) (la_consp (se_int (n := 97)) la_nil)))))) (se_modcp (se_divcp (se_iv (i := 1) (d := law_cell_) rfl) (by decide)) (by decide))) hm (fun law_prime_ w_law_prime_ G1 H1 ce r_law_prime_ hm => ?_)
  replace e := e.trans ce
  replace r_law_row_here_ := Rp.mono ce.g r_law_row_here_
  have r_law_prime_ : w_law_prime_ = V.int law_prime_ := r_law_prime_; subst r_law_prime_
  try dsimp only
  refine st_seq ?_
  refine st_setF (K := K) e.s (fe_list (se_var (i := 0) (d := law_row_here_) rfl r_law_row_here_)) hm (fun law_great_here_ p_law_great_here_ G1 H1 ce r_law_great_here_ hm => ?_)
  replace r_law_great_here_ := r_law_great_here_.up e.h
  replace e := e.trans ce
  replace r_law_row_here_ := Rp.mono ce.g r_law_row_here_
  try dsimp only
  refine st_seq ?_
  refine st_put (K := K) e.s rfl r_law_great_here_ (se_mul (se_own_ixp (i := 4) rfl r_law_great_here_ (se_iv (i := 2) (d := law_k_) rfl)) (se_iv (i := 3) (d := law_prime_) rfl)) (se_iv (i := 2) (d := law_k_) rfl) hm (fun law_great_here_ h_law_great_here_ G1 H1 ce ro g0 hm => ?_)
  replace e := e.trans ce
  replace r_law_row_here_ := Rp.mono ce.g r_law_row_here_
  replace e := e.put (o := h_law_great_here_) ro.z g0 (r_law_great_here_.mono ce).pn
  clear r_law_great_here_ g0
  have r_law_great_here_ := ro
  clear ro
  try dsimp only
  refine st_seq ?_
  obtain ⟨s1, hA, hm⟩ := bind_some hm
  refine st_join (fun σ H => ∃ G, ∃ (w_law_row_here_ : V) (p_law_great_here_ : Addr), σ = [some w_law_row_here_, some (V.int law_cell_), some (V.int law_k_), some (V.int law_prime_), some (V.ref p_law_great_here_)] ∧ Ext Ge He G H ∧ rep K G w_law_row_here_ law_row_here_ ∧ Own K He G H p_law_great_here_ s1) (fun σ H h => ?_) (fun N hN => ?_)
  · obtain ⟨G, w_law_row_here_, p_law_great_here_, es, e, r_law_row_here_, r_law_great_here_⟩ := h
    subst es
    try dsimp only
    exact st_retO (K := K) rfl e r_law_great_here_ hm q
  · clear hm
    refine st_if e.s (st_test (K := K) (se_ge (se_abs (se_own_ixp (i := 4) rfl r_law_great_here_ (se_iv (i := 2) (d := law_k_) rfl))) (se_int (n := 1073741824)))) hA (fun G1 H1 ce hm => ?_) (fun G1 H1 ce hm => ?_)
    · replace e := e.trans ce
      replace r_law_row_here_ := Rp.mono ce.g r_law_row_here_
      replace r_law_great_here_ := r_law_great_here_.mono ce
      try dsimp only
      refine st_put (K := K) e.s rfl r_law_great_here_ (se_iv (i := 3) (d := law_prime_) rfl) (se_iv (i := 2) (d := law_k_) rfl) hm (fun law_great_here_ h_law_great_here_ G1 H1 ce ro g0 hm => ?_)
      replace e := e.trans ce
      replace r_law_row_here_ := Rp.mono ce.g r_law_row_here_
      replace e := e.put (o := h_law_great_here_) ro.z g0 (r_law_great_here_.mono ce).pn
      clear r_law_great_here_ g0
      have r_law_great_here_ := ro
      clear ro
      cases hm
      exact hN _ _ ⟨_, _, _, rfl, e, r_law_row_here_, r_law_great_here_⟩
    · replace e := e.trans ce
      replace r_law_row_here_ := Rp.mono ce.g r_law_row_here_
      replace r_law_great_here_ := r_law_great_here_.mono ce
      refine st_next ?_
      cases hm
      exact hN _ _ ⟨_, _, _, rfl, e, r_law_row_here_, r_law_great_here_⟩
theorem ok_is_row_ (T : Txt K mg) : FnOk P w K mg base CX0 1 T.a_is_row_ T.d_is_row_ ["row"] (Sp1 K (RV K) Mir.is_row_) := by
  refine T.F_is_row_.ok sc_is_row_ (Sp1.len rfl) (fun cdv A outer s He vs Q E hr h => ?_)
  obtain ⟨Ge, w_row_, row_, r, rfl, hs, r_row_, hm, q⟩ := h
  have e : Ext Ge He Ge He := Ext.refl hs
  unfold Mir.is_row_ at hm
  refine ⟨_, (pss_cons (ps_if (PW.pt (pw_or (pt_cmpR op_lt (pe_callB call_len_seq (by rfl) T.n_len (by decide +kernel) (pa_cons (pv 0) pa_nil)) pe_int (nomark _)) (pw_or1 (pt_cmpR op_gt (pe_callB call_len_seq (by rfl) T.n_len (by decide +kernel) (pa_cons (pv 0) pa_nil)) (pe_glob (v := V.int (8)) rfl T.c_LONGEST_ ⟨_, rfl⟩) (nomark _))))) (pss_one (ps_ret pe_bl)) pss_nil) (pss_cons (ps_for PassesOwn.never rfl (pi_list (pv 0)) (pg_name (i := 1) sc_is_row_.nd rfl (Or.inl rfl)) (pss_one (ps_if (PW.pt (pw_or (pt_not (pt_val (pe_callB call_isi (by rfl) T.n_isinstance (by decide +kernel) (pa_cons (pv 1) (pa_cons (pe_bltn (v := .ty "int") (by rfl) T.n_int (by decide +kernel) rfl) pa_nil))))) (pw_or (pt_val (pe_callB call_isi (by rfl) T.n_isinstance (by decide +kernel) (pa_cons (pv 1) (pa_cons (pe_bltn (v := .ty "bool") (by rfl) T.n_bool (by decide +kernel) rfl) pa_nil)))) (pw_or (pt_cmpR op_eq (pv 1) pe_int (nomark _)) (pw_or1 (pt_cmpR op_ge (pe_callB call_abs (by rfl) T.n_abs (by decide +kernel) (pa_cons (pv 1) pa_nil)) (pe_glob (v := V.int (1073741824)) rfl T.c_MOST_ ⟨_, rfl⟩) (nomark _))))))) (pss_one (ps_ret pe_bl)) pss_nil))) (pss_one (ps_ret pe_bl)))), ?_⟩
  try dsimp only
  refine st_seq ?_
  refine st_if e.s (st_orp (st_test (K := K) (se_ltp (se_lenp (se_var (i := 0) (d := row_) rfl r_row_)) (se_int (n := 1)))) (st_test (K := K) (se_gtp (se_lenp (se_var (i := 0) (d := row_) rfl r_row_)) (se_int (n := 8))))) hm (fun G1 H1 ce hm => ?_) (fun G1 H1 ce hm => ?_)
  · replace e := e.trans ce
    replace r_row_ := Rp.mono ce.g r_row_
    try dsimp only
    exact st_ret (RR := RV K) e rvm (SE.xe se_bl) hm q
  · replace e := e.trans ce
    replace r_row_ := Rp.mono ce.g r_row_
    refine st_next ?_
    try dsimp only
    refine st_seq ?_
    refine st_for (K := K) e.s (IB.ie (ib_list (se_var (i := 0) (d := row_) rfl r_row_))) hm (fun xs J Gs1 Hs1 ce it hm => ?_)
    replace e := e.trans ce
    replace r_row_ := Rp.mono ce.g r_row_
    have sg1 : Same Gs1 Gs1 := Same.refl _
    obtain ⟨o1, hw, hm⟩ := bind_some hm
    have hq1 : ∀ x, o1 = .inr x → ∀ u G' H', Ext Ge He G' H' → RV K He G' H' u x → Q u H' := fun x ex => by
      subst ex
      replace hm := elim_inr hm
      cases hm
      exact q
    refine lg_R (K := K) (fun (s1 : Unit) σ G H => ∃ (w_row_ : V) (j1 : Option V), σ = [some w_row_, j1] ∧ Ext Ge He G H ∧ Same Gs1 G ∧ rep K G w_row_ row_) it hw ⟨_, _, rfl, e, sg1, r_row_⟩ (fun s1 σ G H h => ?_) (fun s1 i1 f w1 σ G H G1 H1 N hx h ce hv hm2 hN hX hR => ?_) (fun z1 σ G H eo h => ?_)
    · obtain ⟨w_row_, j1, es, e, sg1, r_row_⟩ := h
      subst es
      exact ⟨sg1, e.s⟩
    · clear hw hm it
      have hm := hm2
      clear hm2
      have hF1 := fun x ex => hq1 x (hR x ex)
      obtain ⟨w_row_, j1, es, e, sg1, r_row_⟩ := h
      subst es
      replace e := e.trans ce
      replace sg1 := sg1.trans ce.g
      replace r_row_ := Rp.mono ce.g r_row_
      refine g_name ?_
      have hv2 : w1 = V.int i1 := hv
      subst hv2
      clear hv
      try dsimp only
      refine st_if e.s (st_orp (st_notp (st_val (K := K) (se_isip (se_iv (i := 1) (d := i1) rfl) (by first | decide +kernel | rfl)))) (st_orp (st_val (K := K) (se_isip (se_iv (i := 1) (d := i1) rfl) (by first | decide +kernel | rfl))) (st_orp (st_test (K := K) (se_eqp (se_iv (i := 1) (d := i1) rfl) (se_int (n := 0)))) (st_test (K := K) (se_gep (se_absp (se_iv (i := 1) (d := i1) rfl)) (se_int (n := 1073741824))))))) hm (fun G1 H1 ce hm => ?_) (fun G1 H1 ce hm => ?_)
      · replace e := e.trans ce
        replace sg1 := sg1.trans ce.g
        replace r_row_ := Rp.mono ce.g r_row_
        try dsimp only
        exact st_retL (RR := RV K) e rvm (SE.xe se_bl) hm hF1
      · replace e := e.trans ce
        replace sg1 := sg1.trans ce.g
        replace r_row_ := Rp.mono ce.g r_row_
        refine st_next ?_
        cases hm
        exact hN _ _ _ _ rfl ⟨_, _, rfl, e, sg1, r_row_⟩
    · clear hw it
      subst eo
      replace hm := elim_inl hm
      obtain ⟨w_row_, j1, es, e, sg1, r_row_⟩ := h
      subst es
      clear sg1
      try dsimp only
      exact st_ret (RR := RV K) e rvm (SE.xe se_bl) hm q
theorem ok_must_be_row_X (T : Txt K mg) : FnOk P w K mg base (L2.CX P w) 2 T.a_must_be_row_ T.d_must_be_row_ ["row"] (SpX1 K T.adr (RV K) Mir.must_be_row_X) := by
  refine T.F_must_be_row_.okX sc_must_be_row_ (SpX1.len rfl) (fun cdv A outer s He vs Q E hr h => ?_)
  obtain ⟨Ge, w_row_, row_, r, rfl, hs, r_row_, hm, q⟩ := h
  have e : Ext Ge He Ge He := Ext.refl hs
  unfold Mir.must_be_row_X at hm
  refine ⟨_, (pss_one (ps_if (pt_not (pt_val (pe_call (ok_is_row_ T) (hr.mono (by decide)) (by rfl) T.g_is_row_ T.F_is_row_.kp (bind_is_row_ T) .nil pass0 (pa_cons (pv 0) pa_nil)))) (pss_one (ps_raise rfl (takes_of rfl rfl rfl rfl) (pmk_own PySem.F.excBase_ValueError (T.xN .noRow) T.g_NoRow (T.xk .noRow) (raises_own (T.xs .noRow) (T.xt .noRow)) rfl))) pss_nil)), ?_⟩
  try dsimp only
  refine st_if e.s (st_not (st_val (K := K) (XE.se (xe_call1p rvm (se_var (i := 0) (d := row_) rfl r_row_))))) hm (fun G1 H1 ce hm => ?_) (fun G1 H1 ce hm => ?_)
  · replace e := e.trans ce
    replace r_row_ := Rp.mono ce.g r_row_
    try dsimp only
    cases hm; exact q (.inr _) _ _ (e) rfl
  · replace e := e.trans ce
    replace r_row_ := Rp.mono ce.g r_row_
    refine st_next ?_
    cases hm
    exact q (.inl _) _ _ e rfl
theorem ok_tried_ (T : Txt K mg) : FnOk P w K mg base CX0 1 T.a_tried_ T.d_tried_ ["k"] (Sp1 K (RP K) Mir.tried_) := by
  refine T.F_tried_.ok sc_tried_ (Sp1.len rfl) (fun cdv A outer s He vs Q E hr h => ?_)
  obtain ⟨Ge, w_k_, k_, r, rfl, hs, r_k_, hm, q⟩ := h
  have e : Ext Ge He Ge He := Ext.refl hs
  have r2_k_ : w_k_ = V.int k_ := r_k_
  subst r2_k_
  clear r_k_
  unfold Mir.tried_ at hm
  refine ⟨_, (pss_cons (ps_set (i := 1) sc_tried_.nd rfl (Or.inl rfl) (pe_lst pa_nil)) (pss_cons (ps_set (i := 2) sc_tried_.nd rfl (Or.inl rfl) (pv 0)) (pss_cons (ps_set (i := 3) sc_tried_.nd rfl (Or.inl rfl) pe_int) (pss_cons (ps_while PassesOwn.never (PW.pt (pw_and (pt_cmpR op_lt (pv 3) (pe_glob (v := V.int (32768)) rfl T.c_TRIED_ ⟨_, rfl⟩) (nomark _)) (pw_and1 (pt_cmpR op_le (pe_op op_mulZ (pv 3) (pv 3)) (pv 2) (nomark _))))) (pss_cons (ps_set (i := 4) sc_tried_.nd rfl (Or.inl rfl) pe_int) (pss_cons (ps_while PassesOwn.never (pt_cmpR op_eq (pe_op op_modN (pv 2) (pv 3)) pe_int (nomark _)) (pss_cons (ps_set (i := 2) sc_tried_.nd rfl (Or.inl rfl) (pe_op op_divZ (pv 2) (pv 3))) (pss_one (ps_aug (i := 4) sc_tried_.nd rfl (Or.inl rfl) pe_int ip_add)))) (pss_cons (ps_if (pt_cmpR op_gt (pv 4) pe_int (nomark _)) (pss_one (ps_expr (pe_bm PySem.F.plainAttrs_list PySem.F.slot_list_append PySem.F.type_list_append mt_append (pv 1) (pa_cons (pe_tup (pa_cons (pv 3) (pa_cons (pv 4) pa_nil))) pa_nil)))) pss_nil) (pss_one (ps_set (i := 3) sc_tried_.nd rfl (Or.inl rfl) (pe_op op_add (pe_op op_add (pv 3) pe_int) (pe_op op_mod (pv 3) pe_int)))))))) (pss_cons (ps_if (pt_chain op_lt op_lt pe_int (pv 2) (pe_glob (v := V.int (32768)) rfl T.c_TRIED_ ⟨_, rfl⟩)) (pss_cons (ps_expr (pe_bm PySem.F.plainAttrs_list PySem.F.slot_list_append PySem.F.type_list_append mt_append (pv 1) (pa_cons (pe_tup (pa_cons (pv 2) (pa_cons pe_int pa_nil))) pa_nil))) (pss_one (ps_set (i := 2) sc_tried_.nd rfl (Or.inl rfl) pe_int))) pss_nil) (pss_one (ps_ret (pe_tup (pa_cons (pv 1) (pa_cons (pv 2) pa_nil)))))))))), ?_⟩
  try dsimp only
  refine st_seq ?_
  refine st_setF (K := K) e.s (fe_lst la_nil) hm (fun found_ p_found_ G1 H1 ce r_found_ hm => ?_)
  replace r_found_ := r_found_.up e.h
  replace e := e.trans ce
  try dsimp only
  refine st_seq ?_
  refine st_set (K := K) e.s (se_iv (i := 0) (d := k_) rfl) hm (fun left_ w_left_ G1 H1 ce r_left_ hm => ?_)
  replace e := e.trans ce
  replace r_found_ := r_found_.mono ce
  have r_left_ : w_left_ = V.int left_ := r_left_; subst r_left_
  try dsimp only
  refine st_seq ?_
  refine st_set (K := K) e.s (se_int (n := 2)) hm (fun d_ w_d_ G1 H1 ce r_d_ hm => ?_)
  replace e := e.trans ce
  replace r_found_ := r_found_.mono ce
  have r_d_ : w_d_ = V.int d_ := r_d_; subst r_d_
  try dsimp only
  refine st_seq ?_
  obtain ⟨z1, hw, hm⟩ := bind_some hm
  refine st_whileN (fun (s1 : (List (Int × Int)) × Int × Int) σ G H => ∃ (p_found_ : Addr) (j4 : Option V), σ = [some (V.int k_), some (V.ref p_found_), some (V.int s1.2.1), some (V.int s1.2.2), j4] ∧ Ext Ge He G H ∧ Own K He G H p_found_ s1.1) hw ⟨_, _, rfl, e, r_found_⟩ (fun s1 σ G H h => ?_) (fun s1 σ G H h => ?_) (fun s1 f σ G H G1 H1 N h ce hc hm hN => ?_) (fun σ G H G1 H1 h ce => ?_)
  · obtain ⟨p_found_, j4, es, e, r_found_⟩ := h
    subst es
    exact e.s
  · obtain ⟨p_found_, j4, es, e, r_found_⟩ := h
    subst es
    exact (st_and (st_test (K := K) (se_ltp (se_iv (i := 3) (d := s1.2.2) rfl) (se_int (n := 32768)))) (st_test (K := K) (se_le (se_mulp (se_iv (i := 3) (d := s1.2.2) rfl) (se_iv (i := 3) (d := s1.2.2) rfl)) (se_iv (i := 2) (d := s1.2.1) rfl))))
  · clear hw
    obtain ⟨p_found_, j4, es, e, r_found_⟩ := h
    subst es
    replace e := e.trans ce
    replace r_found_ := r_found_.mono ce
    try dsimp only
    refine st_seq ?_
    refine st_set (K := K) e.s (se_int (n := 0)) hm (fun often_ w_often_ G1 H1 ce r_often_ hm => ?_)
    replace e := e.trans ce
    replace r_found_ := r_found_.mono ce
    have r_often_ : w_often_ = V.int often_ := r_often_; subst r_often_
    try dsimp only
    refine st_seq ?_
    obtain ⟨z2, hw, hm⟩ := bind_some hm
    refine st_whileN (fun (s2 : Int × Int) σ G H => ∃ (p_found_ : Addr), σ = [some (V.int k_), some (V.ref p_found_), some (V.int s2.1), some (V.int s1.2.2), some (V.int s2.2)] ∧ Ext Ge He G H ∧ Own K He G H p_found_ s1.1) hw ⟨_, rfl, e, r_found_⟩ (fun s2 σ G H h => ?_) (fun s2 σ G H h => ?_) (fun s2 f σ G H G1 H1 N h ce hc hm hN => ?_) (fun σ G H G1 H1 h ce => ?_)
    · obtain ⟨p_found_, es, e, r_found_⟩ := h
      subst es
      exact e.s
    · obtain ⟨p_found_, es, e, r_found_⟩ := h
      subst es
      exact (st_test (K := K) (se_eq (se_modp (se_iv (i := 2) (d := s2.1) rfl) (se_iv (i := 3) (d := s1.2.2) rfl)) (se_int (n := 0))))
    · clear hw
      obtain ⟨p_found_, es, e, r_found_⟩ := h
      subst es
      replace e := e.trans ce
      replace r_found_ := r_found_.mono ce
      try dsimp only
      refine st_seq ?_
      refine st_set (K := K) e.s (se_divp (se_iv (i := 2) (d := s2.1) rfl) (se_iv (i := 3) (d := s1.2.2) rfl)) hm (fun left_ w_left_ G1 H1 ce r_left_ hm => ?_)
      replace e := e.trans ce
      replace r_found_ := r_found_.mono ce
      have r_left_ : w_left_ = V.int left_ := r_left_; subst r_left_
      try dsimp only
      refine st_aug (K := K) e.s rfl (se_int (n := 1)) hm (fun y3 often_ G1 H1 ce hm => ?_)
      replace e := e.trans ce
      replace r_found_ := r_found_.mono ce
      cases hm
      exact hN _ _ _ ⟨_, rfl, e, r_found_⟩
    · obtain ⟨p_found_, es, e, r_found_⟩ := h
      subst es
      replace e := e.trans ce
      replace r_found_ := r_found_.mono ce
      try dsimp only
      refine st_seq ?_
      obtain ⟨s5, hA, hm⟩ := bind_some hm
      refine st_join (fun σ H => ∃ G, ∃ (p_found_ : Addr), σ = [some (V.int k_), some (V.ref p_found_), some (V.int z2.1), some (V.int s1.2.2), some (V.int z2.2)] ∧ Ext Ge He G H ∧ Own K He G H p_found_ s5) (fun σ H h => ?_) (fun N hN => ?_)
      · obtain ⟨G, p_found_, es, e, r_found_⟩ := h
        subst es
        try dsimp only
        refine st_set (K := K) e.s (se_addp (se_addp (se_iv (i := 3) (d := s1.2.2) rfl) (se_int (n := 1))) (se_modcp (se_iv (i := 3) (d := s1.2.2) rfl) (by decide))) hm (fun d_ w_d_ G1 H1 ce r_d_ hm => ?_)
        replace e := e.trans ce
        replace r_found_ := r_found_.mono ce
        have r_d_ : w_d_ = V.int d_ := r_d_; subst r_d_
        cases hm
        exact hN _ _ _ ⟨_, _, rfl, e, r_found_⟩
      · clear hm
        refine st_if e.s (st_test (K := K) (se_gtp (se_iv (i := 4) (d := z2.2) rfl) (se_int (n := 0)))) hA (fun G1 H1 ce hm => ?_) (fun G1 H1 ce hm => ?_)
        · replace e := e.trans ce
          replace r_found_ := r_found_.mono ce
          try dsimp only
          refine st_app (K := K) e.s rfl r_found_ (se_tup2p (se_iv (i := 3) (d := s1.2.2) rfl) (se_iv (i := 4) (d := z2.2) rfl)) hm (fun found_ h_found_ G1 H1 ce ro g0 hm => ?_)
          replace e := e.trans ce
          replace e := e.put (o := h_found_) ro.z g0 (r_found_.mono ce).pn
          clear r_found_ g0
          have r_found_ := ro
          clear ro
          cases hm
          exact hN _ _ ⟨_, _, rfl, e, r_found_⟩
        · replace e := e.trans ce
          replace r_found_ := r_found_.mono ce
          refine st_next ?_
          cases hm
          exact hN _ _ ⟨_, _, rfl, e, r_found_⟩
  · obtain ⟨p_found_, j4, es, e, r_found_⟩ := h
    subst es
    replace e := e.trans ce
    replace r_found_ := r_found_.mono ce
    try dsimp only
    refine st_seq ?_
    obtain ⟨s6, hA, hm⟩ := bind_some hm
    refine st_join (fun σ H => ∃ G, ∃ (p_found_ : Addr) (j4 : Option V), σ = [some (V.int k_), some (V.ref p_found_), some (V.int s6.2), some (V.int z1.2.2), j4] ∧ Ext Ge He G H ∧ Own K He G H p_found_ s6.1) (fun σ H h => ?_) (fun N hN => ?_)
    · obtain ⟨G, p_found_, j4, es, e, r_found_⟩ := h
      subst es
      try dsimp only
      exact st_retP (K := K) rfl e r_found_ (se_iv (i := 2) (d := s6.2) rfl) hm q
    · clear hm
      refine st_if e.s (st_test (K := K) (se_chainp (se_int (n := 1)) (se_iv (i := 2) (d := z1.2.1) rfl) (se_int (n := 32768)) ro_lt ro_lt)) hA (fun G1 H1 ce hm => ?_) (fun G1 H1 ce hm => ?_)
      · replace e := e.trans ce
        replace r_found_ := r_found_.mono ce
        try dsimp only
        refine st_seq ?_
        refine st_app (K := K) e.s rfl r_found_ (se_tup2p (se_iv (i := 2) (d := z1.2.1) rfl) (se_int (n := 1))) hm (fun found_ h_found_ G1 H1 ce ro g0 hm => ?_)
        replace e := e.trans ce
        replace e := e.put (o := h_found_) ro.z g0 (r_found_.mono ce).pn
        clear r_found_ g0
        have r_found_ := ro
        clear ro
        try dsimp only
        refine st_set (K := K) e.s (se_int (n := 1)) hm (fun left_ w_left_ G1 H1 ce r_left_ hm => ?_)
        replace e := e.trans ce
        replace r_found_ := r_found_.mono ce
        have r_left_ : w_left_ = V.int left_ := r_left_; subst r_left_
        cases hm
        exact hN _ _ ⟨_, _, _, rfl, e, r_found_⟩
      · replace e := e.trans ce
        replace r_found_ := r_found_.mono ce
        refine st_next ?_
        cases hm
        exact hN _ _ ⟨_, _, _, rfl, e, r_found_⟩
theorem ok_whole_root_ (T : Txt K mg) : FnOk P w K mg base CX0 1 T.a_whole_root_ T.d_whole_root_ ["k"] (Sp1 K (RV K) Mir.whole_root_) := by
  refine T.F_whole_root_.ok sc_whole_root_ (Sp1.len rfl) (fun cdv A outer s He vs Q E hr h => ?_)
  obtain ⟨Ge, w_k_, k_, r, rfl, hs, r_k_, hm, q⟩ := h
  have e : Ext Ge He Ge He := Ext.refl hs
  have r2_k_ : w_k_ = V.int k_ := r_k_
  subst r2_k_
  clear r_k_
  unfold Mir.whole_root_ at hm
  refine ⟨_, (pss_cons (ps_set (i := 1) sc_whole_root_.nd rfl (Or.inl rfl) pe_int) (pss_cons (ps_set (i := 2) sc_whole_root_.nd rfl (Or.inl rfl) (pe_op op_shl pe_int (pe_op op_add (pe_op op_fdivW (pe_bits (pv 0)) pe_int) pe_int))) (pss_cons (ps_while PassesOwn.never (pt_cmpR op_gt (pe_op op_sub (pv 2) (pv 1)) pe_int (nomark _)) (pss_cons (ps_set (i := 3) sc_whole_root_.nd rfl (Or.inl rfl) (pe_op op_fdivW (pe_op op_add (pv 1) (pv 2)) pe_int)) (pss_one (ps_if (pt_cmpR op_le (pe_op op_mulZ (pv 3) (pv 3)) (pv 0) (nomark _)) (pss_one (ps_set (i := 1) sc_whole_root_.nd rfl (Or.inl rfl) (pv 3))) (pss_one (ps_set (i := 2) sc_whole_root_.nd rfl (Or.inl rfl) (pv 3))))))) (pss_one (ps_ret (pv 1)))))), ?_⟩
  try dsimp only
  refine st_seq ?_
  refine st_set (K := K) e.s (se_int (n := 0)) hm (fun low_ w_low_ G1 H1 ce r_low_ hm => ?_)
  replace e := e.trans ce
  have r_low_ : w_low_ = V.int low_ := r_low_; subst r_low_
  try dsimp only
  refine st_seq ?_
  refine st_set (K := K) e.s (se_shlp (se_int (n := 1)) (se_addp (se_divcp (se_bitsp (se_iv (i := 0) (d := k_) rfl)) (by decide)) (se_int (n := 1)))) hm (fun high_ w_high_ G1 H1 ce r_high_ hm => ?_)
  replace e := e.trans ce
  have r_high_ : w_high_ = V.int high_ := r_high_; subst r_high_
  try dsimp only
  refine st_seq ?_
  obtain ⟨z1, hw, hm⟩ := bind_some hm
  refine st_whileN (fun (s1 : Int × Int) σ G H => ∃ (j3 : Option V), σ = [some (V.int k_), some (V.int s1.1), some (V.int s1.2), j3] ∧ Ext Ge He G H) hw ⟨_, rfl, e⟩ (fun s1 σ G H h => ?_) (fun s1 σ G H h => ?_) (fun s1 f σ G H G1 H1 N h ce hc hm hN => ?_) (fun σ G H G1 H1 h ce => ?_)
  · obtain ⟨j3, es, e⟩ := h
    subst es
    exact e.s
  · obtain ⟨j3, es, e⟩ := h
    subst es
    exact (st_test (K := K) (se_gtp (se_subp (se_iv (i := 2) (d := s1.2) rfl) (se_iv (i := 1) (d := s1.1) rfl)) (se_int (n := 1))))
  · clear hw
    obtain ⟨j3, es, e⟩ := h
    subst es
    replace e := e.trans ce
    try dsimp only
    refine st_seq ?_
    refine st_set (K := K) e.s (se_divcp (se_addp (se_iv (i := 1) (d := s1.1) rfl) (se_iv (i := 2) (d := s1.2) rfl)) (by decide)) hm (fun middle_ w_middle_ G1 H1 ce r_middle_ hm => ?_)
    replace e := e.trans ce
    have r_middle_ : w_middle_ = V.int middle_ := r_middle_; subst r_middle_
    try dsimp only
    refine st_if e.s (st_test (K := K) (se_le (se_mulp (se_iv (i := 3) (d := middle_) rfl) (se_iv (i := 3) (d := middle_) rfl)) (se_iv (i := 0) (d := k_) rfl))) hm (fun G1 H1 ce hm => ?_) (fun G1 H1 ce hm => ?_)
    · replace e := e.trans ce
      try dsimp only
      refine st_set (K := K) e.s (se_iv (i := 3) (d := middle_) rfl) hm (fun low_ w_low_ G1 H1 ce r_low_ hm => ?_)
      replace e := e.trans ce
      have r_low_ : w_low_ = V.int low_ := r_low_; subst r_low_
      cases hm
      exact hN _ _ _ ⟨_, rfl, e⟩
    · replace e := e.trans ce
      try dsimp only
      refine st_set (K := K) e.s (se_iv (i := 3) (d := middle_) rfl) hm (fun high_ w_high_ G1 H1 ce r_high_ hm => ?_)
      replace e := e.trans ce
      have r_high_ : w_high_ = V.int high_ := r_high_; subst r_high_
      cases hm
      exact hN _ _ _ ⟨_, rfl, e⟩
  · obtain ⟨j3, es, e⟩ := h
    subst es
    replace e := e.trans ce
    try dsimp only
    exact st_ret (RR := RV K) e rvm (SE.xe (se_iv (i := 1) (d := z1.1) rfl)) hm q
theorem ok_is_square_ (T : Txt K mg) : FnOk P w K mg base CX0 2 T.a_is_square_ T.d_is_square_ ["k"] (Sp1 K (RV K) Mir.is_square_) := by
  refine T.F_is_square_.ok sc_is_square_ (Sp1.len rfl) (fun cdv A outer s He vs Q E hr h => ?_)
  obtain ⟨Ge, w_k_, k_, r, rfl, hs, r_k_, hm, q⟩ := h
  have e : Ext Ge He Ge He := Ext.refl hs
  have r2_k_ : w_k_ = V.int k_ := r_k_
  subst r2_k_
  clear r_k_
  unfold Mir.is_square_ at hm
  refine ⟨_, (pss_one (ps_ret (pe_cmpR op_eq (pe_op op_mulZ (pe_call (ok_whole_root_ T) (hr.mono (by decide)) (by rfl) T.g_whole_root_ T.F_whole_root_.kp (bind_whole_root_ T) .nil pass0 (pa_cons (pv 0) pa_nil)) (pe_call (ok_whole_root_ T) (hr.mono (by decide)) (by rfl) T.g_whole_root_ T.F_whole_root_.kp (bind_whole_root_ T) .nil pass0 (pa_cons (pv 0) pa_nil))) (pv 0) (nomark _)))), ?_⟩
  try dsimp only
  exact st_ret (RR := RV K) e rvm (SE.xe (se_eq (se_mul (XE.se (xe_call1p rvm (se_iv (i := 0) (d := k_) rfl))) (XE.se (xe_call1p rvm (se_iv (i := 0) (d := k_) rfl)))) (se_iv (i := 0) (d := k_) rfl))) hm q
theorem ok_free_of_ (T : Txt K mg) : FnOk P w K mg base CX0 3 T.a_free_of_ T.d_free_of_ ["k"] (Sp1 K (RV K) Mir.free_of_) := by
  refine T.F_free_of_.ok sc_free_of_ (Sp1.len rfl) (fun cdv A outer s He vs Q E hr h => ?_)
  obtain ⟨Ge, w_k_, k_, r, rfl, hs, r_k_, hm, q⟩ := h
  have e : Ext Ge He Ge He := Ext.refl hs
  have r2_k_ : w_k_ = V.int k_ := r_k_
  subst r2_k_
  clear r_k_
  unfold Mir.free_of_ at hm
  refine ⟨_, (pss_cons (ps_asg (pe_call (ok_tried_ T) (hr.mono (by decide)) (by rfl) T.g_tried_ T.F_tried_.kp (bind_tried_ T) .nil pass0 (pa_cons (pe_callB call_abs (by rfl) T.n_abs (by decide +kernel) (pa_cons (pv 0) pa_nil)) pa_nil)) (pg_tup rfl (pgs_cons (pg_name (i := 1) sc_free_of_.nd rfl (Or.inl rfl)) (pgs_cons (pg_name (i := 2) sc_free_of_.nd rfl (Or.inl rfl)) pgs_nil)))) (pss_cons (ps_if (pt_val (pe_call (ok_is_square_ T) (hr.mono (by decide)) (by rfl) T.g_is_square_ T.F_is_square_.kp (bind_is_square_ T) .nil pass0 (pa_cons (pv 2) pa_nil))) (pss_one (ps_set (i := 2) sc_free_of_.nd rfl (Or.inl rfl) pe_int)) pss_nil) (pss_cons (ps_if (pt_cmpR op_ge (pv 2) (pe_glob (v := V.int (1073741824)) rfl T.c_MOST_ ⟨_, rfl⟩) (nomark _)) (pss_one ps_never) pss_nil) (pss_cons (ps_for PassesOwn.never rfl (pi_list (pv 1)) (pg_tup rfl (pgs_cons (pg_name (i := 3) sc_free_of_.nd rfl (Or.inl rfl)) (pgs_cons (pg_name (i := 4) sc_free_of_.nd rfl (Or.inl rfl)) pgs_nil))) (pss_one (ps_if (pt_cmpR op_eq (pe_op op_mod (pv 4) pe_int) pe_int (nomark _)) (pss_one (ps_set (i := 2) sc_free_of_.nd rfl (Or.inl rfl) (pe_op op_mulZ (pv 2) (pv 3)))) pss_nil))) (pss_cons (ps_if (pt_cmpR op_lt (pv 0) pe_int (nomark _)) (pss_one (ps_ret (pe_op op_sub pe_int (pv 2)))) pss_nil) (pss_one (ps_ret (pv 2)))))))), ?_⟩
  try dsimp only
  refine st_seq ?_
  refine st_un2 (K := K) e.s (XE.pse (xe_call1p rpm (se_absp (se_iv (i := 0) (d := k_) rfl)))) hm (fun t1 w_found_ w_left_ G1 H1 ce r_found_ r_left_ hm => ?_)
  replace e := e.trans ce
  have r_left_ : w_left_ = V.int t1.2 := r_left_; subst r_left_
  try dsimp only
  refine st_seq ?_
  obtain ⟨s2, hA, hm⟩ := bind_some hm
  refine st_join (fun σ H => ∃ G, ∃ (w_found_ : V) (j3 : Option V) (j4 : Option V), σ = [some (V.int k_), some w_found_, some (V.int s2), j3, j4] ∧ Ext Ge He G H ∧ rep K G w_found_ t1.1) (fun σ H h => ?_) (fun N hN => ?_)
  · obtain ⟨G, w_found_, j3, j4, es, e, r_found_⟩ := h
    subst es
    try dsimp only
    refine st_seq ?_
    refine st_if e.s (st_test (K := K) (se_gep (se_iv (i := 2) (d := s2) rfl) (se_int (n := 1073741824)))) hm (fun G1 H1 ce hm => ?_) (fun G1 H1 ce hm => ?_)
    · replace e := e.trans ce
      replace r_found_ := Rp.mono ce.g r_found_
      try dsimp only
      cases hm
    · replace e := e.trans ce
      replace r_found_ := Rp.mono ce.g r_found_
      refine st_next ?_
      try dsimp only
      refine st_seq ?_
      refine st_for (K := K) e.s (IB.ie (ib_list (se_var (i := 1) (d := t1.1) rfl r_found_))) hm (fun xs J Gs3 Hs3 ce it hm => ?_)
      replace e := e.trans ce
      replace r_found_ := Rp.mono ce.g r_found_
      have sg3 : Same Gs3 Gs3 := Same.refl _
      obtain ⟨z3, hw, hm⟩ := bind_some hm
      refine lg_N (K := K) (fun (s3 : Int) σ G H => ∃ (w_found_ : V) (j3 : Option V) (j4 : Option V), σ = [some (V.int k_), some w_found_, some (V.int s3), j3, j4] ∧ Ext Ge He G H ∧ Same Gs3 G ∧ rep K G w_found_ t1.1) it hw ⟨_, _, _, rfl, e, sg3, r_found_⟩ (fun s3 σ G H h => ?_) (fun s3 i3 f w3 σ G H G1 H1 N hx h ce hv hm hN => ?_) (fun σ G H h => ?_)
      · obtain ⟨w_found_, j3, j4, es, e, sg3, r_found_⟩ := h
        subst es
        exact ⟨sg3, e.s⟩
      · clear hw it
        obtain ⟨w_found_, j3, j4, es, e, sg3, r_found_⟩ := h
        subst es
        replace e := e.trans ce
        replace sg3 := sg3.trans ce.g
        replace r_found_ := Rp.mono ce.g r_found_
        refine g_two (K := K) e.s hv (fun w_prime_ w_often_ r_prime_ r_often_ => ?_)
        clear hv
        have r_prime_ : w_prime_ = V.int i3.1 := r_prime_; subst r_prime_
        have r_often_ : w_often_ = V.int i3.2 := r_often_; subst r_often_
        try dsimp only
        refine st_if e.s (st_test (K := K) (se_eqp (se_modcp (se_iv (i := 4) (d := i3.2) rfl) (by decide)) (se_int (n := 1)))) hm (fun G1 H1 ce hm => ?_) (fun G1 H1 ce hm => ?_)
        · replace e := e.trans ce
          replace sg3 := sg3.trans ce.g
          replace r_found_ := Rp.mono ce.g r_found_
          try dsimp only
          refine st_set (K := K) e.s (se_mulp (se_iv (i := 2) (d := s3) rfl) (se_iv (i := 3) (d := i3.1) rfl)) hm (fun left_ w_left_ G1 H1 ce r_left_ hm => ?_)
          replace e := e.trans ce
          replace sg3 := sg3.trans ce.g
          replace r_found_ := Rp.mono ce.g r_found_
          have r_left_ : w_left_ = V.int left_ := r_left_; subst r_left_
          cases hm
          exact hN _ _ _ ⟨_, _, _, rfl, e, sg3, r_found_⟩
        · replace e := e.trans ce
          replace sg3 := sg3.trans ce.g
          replace r_found_ := Rp.mono ce.g r_found_
          refine st_next ?_
          cases hm
          exact hN _ _ _ ⟨_, _, _, rfl, e, sg3, r_found_⟩
      · clear hw it
        obtain ⟨w_found_, j3, j4, es, e, sg3, r_found_⟩ := h
        subst es
        clear sg3
        try dsimp only
        refine st_seq ?_
        refine st_if e.s (st_test (K := K) (se_ltp (se_iv (i := 0) (d := k_) rfl) (se_int (n := 0)))) hm (fun G1 H1 ce hm => ?_) (fun G1 H1 ce hm => ?_)
        · replace e := e.trans ce
          replace r_found_ := Rp.mono ce.g r_found_
          try dsimp only
          exact st_ret (RR := RV K) e rvm (SE.xe (se_subp (se_int (n := 0)) (se_iv (i := 2) (d := z3) rfl))) hm q
        · replace e := e.trans ce
          replace r_found_ := Rp.mono ce.g r_found_
          refine st_next ?_
          try dsimp only
          exact st_ret (RR := RV K) e rvm (SE.xe (se_iv (i := 2) (d := z3) rfl)) hm q
  · clear hm
    refine st_if e.s (st_val (K := K) (XE.se (xe_call1p rvm (se_iv (i := 2) (d := t1.2) rfl)))) hA (fun G1 H1 ce hm => ?_) (fun G1 H1 ce hm => ?_)
    · replace e := e.trans ce
      replace r_found_ := Rp.mono ce.g r_found_
      try dsimp only
      refine st_set (K := K) e.s (se_int (n := 1)) hm (fun left_ w_left_ G1 H1 ce r_left_ hm => ?_)
      replace e := e.trans ce
      replace r_found_ := Rp.mono ce.g r_found_
      have r_left_ : w_left_ = V.int left_ := r_left_; subst r_left_
      cases hm
      exact hN _ _ ⟨_, _, _, _, rfl, e, r_found_⟩
    · replace e := e.trans ce
      replace r_found_ := Rp.mono ce.g r_found_
      refine st_next ?_
      cases hm
      exact hN _ _ ⟨_, _, _, _, rfl, e, r_found_⟩
theorem ok_is_small_ (T : Txt K mg) : FnOk P w K mg base CX0 4 T.a_is_small_ T.d_is_small_ ["k"] (Sp1 K (RV K) Mir.is_small_) := by
  refine T.F_is_small_.ok sc_is_small_ (Sp1.len rfl) (fun cdv A outer s He vs Q E hr h => ?_)
  obtain ⟨Ge, w_k_, k_, r, rfl, hs, r_k_, hm, q⟩ := h
  have e : Ext Ge He Ge He := Ext.refl hs
  have r2_k_ : w_k_ = V.int k_ := r_k_
  subst r2_k_
  clear r_k_
  unfold Mir.is_small_ at hm
  refine ⟨_, (pss_cons (ps_if (PW.pt (pw_or (pt_cmpR op_eq (pv 0) pe_int (nomark _)) (pw_or1 (pt_cmpR op_ge (pe_callB call_abs (by rfl) T.n_abs (by decide +kernel) (pa_cons (pv 0) pa_nil)) pe_int (nomark _))))) (pss_one (ps_ret pe_bl)) pss_nil) (pss_cons (ps_set (i := 1) sc_is_small_.nd rfl (Or.inl rfl) (pe_callB call_abs (by rfl) T.n_abs (by decide +kernel) (pa_cons (pe_call (ok_free_of_ T) (hr.mono (by decide)) (by rfl) T.g_free_of_ T.F_free_of_.kp (bind_free_of_ T) .nil pass0 (pa_cons (pv 0) pa_nil)) pa_nil))) (pss_cons (ps_for PassesOwn.never rfl (pi_tup (pe_glob (v := V.ref T.b_SMALL_) rfl T.c_SMALL_ rfl)) (pg_name (i := 2) sc_is_small_.nd rfl (Or.inl rfl)) (pss_one (ps_if (pt_cmpR op_eq (pe_op op_modN (pv 1) (pv 2)) pe_int (nomark _)) (pss_one (ps_set (i := 1) sc_is_small_.nd rfl (Or.inl rfl) (pe_op op_divZ (pv 1) (pv 2)))) pss_nil))) (pss_one (ps_ret (pe_cmpR op_eq (pv 1) pe_int (nomark _))))))), ?_⟩
  try dsimp only
  refine st_seq ?_
  refine st_if e.s (st_orp (st_test (K := K) (se_eqp (se_iv (i := 0) (d := k_) rfl) (se_int (n := 0)))) (st_test (K := K) (se_gep (se_absp (se_iv (i := 0) (d := k_) rfl)) (se_int (n := 1073741824))))) hm (fun G1 H1 ce hm => ?_) (fun G1 H1 ce hm => ?_)
  · replace e := e.trans ce
    try dsimp only
    exact st_ret (RR := RV K) e rvm (SE.xe se_bl) hm q
  · replace e := e.trans ce
    refine st_next ?_
    try dsimp only
    refine st_seq ?_
    refine st_set (K := K) e.s (se_abs (XE.se (xe_call1p rvm (se_iv (i := 0) (d := k_) rfl)))) hm (fun free_ w_free_ G1 H1 ce r_free_ hm => ?_)
    replace e := e.trans ce
    have r_free_ : w_free_ = V.int free_ := r_free_; subst r_free_
    try dsimp only
    refine st_seq ?_
    refine st_for (K := K) e.s (IB.ie (ib_tup (se_c T.k_SMALL_))) hm (fun xs J Gs1 Hs1 ce it hm => ?_)
    replace e := e.trans ce
    have sg1 : Same Gs1 Gs1 := Same.refl _
    obtain ⟨z1, hw, hm⟩ := bind_some hm
    refine lg_N (K := K) (fun (s1 : Int) σ G H => ∃ (j2 : Option V), σ = [some (V.int k_), some (V.int s1), j2] ∧ Ext Ge He G H ∧ Same Gs1 G) it hw ⟨_, rfl, e, sg1⟩ (fun s1 σ G H h => ?_) (fun s1 i1 f w1 σ G H G1 H1 N hx h ce hv hm hN => ?_) (fun σ G H h => ?_)
    · obtain ⟨j2, es, e, sg1⟩ := h
      subst es
      exact ⟨sg1, e.s⟩
    · clear hw it
      obtain ⟨j2, es, e, sg1⟩ := h
      subst es
      replace e := e.trans ce
      replace sg1 := sg1.trans ce.g
      refine g_name ?_
      have hv2 : w1 = V.int i1 := hv
      subst hv2
      clear hv
      try dsimp only
      refine st_if e.s (st_test (K := K) (se_eq (se_modp (se_iv (i := 1) (d := s1) rfl) (se_iv (i := 2) (d := i1) rfl)) (se_int (n := 0)))) hm (fun G1 H1 ce hm => ?_) (fun G1 H1 ce hm => ?_)
      · replace e := e.trans ce
        replace sg1 := sg1.trans ce.g
        try dsimp only
        refine st_set (K := K) e.s (se_divp (se_iv (i := 1) (d := s1) rfl) (se_iv (i := 2) (d := i1) rfl)) hm (fun free_ w_free_ G1 H1 ce r_free_ hm => ?_)
        replace e := e.trans ce
        replace sg1 := sg1.trans ce.g
        have r_free_ : w_free_ = V.int free_ := r_free_; subst r_free_
        cases hm
        exact hN _ _ _ ⟨_, rfl, e, sg1⟩
      · replace e := e.trans ce
        replace sg1 := sg1.trans ce.g
        refine st_next ?_
        cases hm
        exact hN _ _ _ ⟨_, rfl, e, sg1⟩
    · clear hw it
      obtain ⟨j2, es, e, sg1⟩ := h
      subst es
      clear sg1
      try dsimp only
      exact st_ret (RR := RV K) e rvm (SE.xe (se_eqp (se_iv (i := 1) (d := z1) rfl) (se_int (n := 1)))) hm q
theorem ok_must_be_small_X (T : Txt K mg) : FnOk P w K mg base (L2.CX P w) 5 T.a_must_be_small_ T.d_must_be_small_ ["row"] (SpX1 K T.adr (RV K) Mir.must_be_small_X) := by
  refine T.F_must_be_small_.okX sc_must_be_small_ (SpX1.len rfl) (fun cdv A outer s He vs Q E hr h => ?_)
  obtain ⟨Ge, w_row_, row_, r, rfl, hs, r_row_, hm, q⟩ := h
  have e : Ext Ge He Ge He := Ext.refl hs
  unfold Mir.must_be_small_X at hm
  refine ⟨_, (pss_cons (ps_expr (pe_callS (ok_must_be_row_X T) (hr.mono (by decide)) (by rfl) T.g_must_be_row_ T.F_must_be_row_.kp (bind_must_be_row_ T) (fun σ => passAt (takes_of rfl rfl rfl rfl) σ) (pa_cons (pv 0) pa_nil))) (pss_one (ps_for (passes_of rfl) rfl (pi_list (pv 0)) (pg_name (i := 1) sc_must_be_small_.nd rfl (Or.inl rfl)) (pss_one (ps_if (pt_not (pt_val (pe_call (ok_is_small_ T) (hr.mono (by decide)) (by rfl) T.g_is_small_ T.F_is_small_.kp (bind_is_small_ T) .nil pass0 (pa_cons (pv 1) pa_nil)))) (pss_one (ps_raise rfl (takes_of rfl rfl rfl rfl) (pmk_own PySem.F.excBase_ValueError (T.xN .tooGreat) T.g_TooGreat (T.xk .tooGreat) (raises_own (T.xs .tooGreat) (T.xt .tooGreat)) rfl))) pss_nil))))), ?_⟩
  try dsimp only
  refine st_seq ?_
  refine st_err e.s (sr_callX1p (se_var (i := 0) (d := row_) rfl r_row_)) (fun h => h) hm (fun hm => ?_) (fun j hm G2 H2 ce => by cases hm; exact q (.inr _) _ _ (e.trans ce) rfl)
  refine st_drop2 (K := K) e.s (XE.se (xe_callX1p rvm (se_var (i := 0) (d := row_) rfl r_row_))) hm (fun u1 G1 H1 ce hm => ?_)
  replace e := e.trans ce
  replace r_row_ := Rp.mono ce.g r_row_
  try dsimp only
  refine st_for (K := K) e.s (IB.ie (ib_list (se_var (i := 0) (d := row_) rfl r_row_))) hm (fun xs J Gs2 Hs2 ce it hm => ?_)
  replace e := e.trans ce
  replace r_row_ := Rp.mono ce.g r_row_
  have sg2 : Same Gs2 Gs2 := Same.refl _
  obtain ⟨o2, hw, hm⟩ := bind_some hm
  have hq2 : ∀ x, o2 = .inr x → ∀ u G' H', Ext Ge He G' H' → RX (RV K) He G' H' u x → QX T.adr Q E u H' := fun x ex => by
    subst ex
    replace hm := elim_inr hm
    cases hm
    exact q
  refine lg_R (K := K) (fun (s2 : Unit) σ G H => ∃ (w_row_ : V) (j1 : Option V), σ = [some w_row_, j1] ∧ Ext Ge He G H ∧ Same Gs2 G ∧ rep K G w_row_ row_) it hw ⟨_, _, rfl, e, sg2, r_row_⟩ (fun s2 σ G H h => ?_) (fun s2 i2 f w2 σ G H G1 H1 N hx h ce hv hm2 hN hX hR => ?_) (fun z2 σ G H eo h => ?_)
  · obtain ⟨w_row_, j1, es, e, sg2, r_row_⟩ := h
    subst es
    exact ⟨sg2, e.s⟩
  · clear hw hm it
    have hm := hm2
    clear hm2
    have hF2 := fun x ex => hq2 x (hR x ex)
    obtain ⟨w_row_, j1, es, e, sg2, r_row_⟩ := h
    subst es
    replace e := e.trans ce
    replace sg2 := sg2.trans ce.g
    replace r_row_ := Rp.mono ce.g r_row_
    refine g_name ?_
    have hv2 : w2 = V.int i2 := hv
    subst hv2
    clear hv
    try dsimp only
    refine st_if e.s (st_not (st_val (K := K) (XE.se (xe_call1p rvm (se_iv (i := 1) (d := i2) rfl))))) hm (fun G1 H1 ce hm => ?_) (fun G1 H1 ce hm => ?_)
    · replace e := e.trans ce
      replace sg2 := sg2.trans ce.g
      replace r_row_ := Rp.mono ce.g r_row_
      try dsimp only
      cases hm; exact hF2 _ rfl (.inr _) _ _ (e) rfl
    · replace e := e.trans ce
      replace sg2 := sg2.trans ce.g
      replace r_row_ := Rp.mono ce.g r_row_
      refine st_next ?_
      cases hm
      exact hN _ _ _ _ rfl ⟨_, _, rfl, e, sg2, r_row_⟩
  · clear hw it
    subst eo
    replace hm := elim_inl hm
    obtain ⟨w_row_, j1, es, e, sg2, r_row_⟩ := h
    subst es
    clear sg2
    cases hm
    exact q (.inl _) _ _ e rfl
theorem ok_zero_of_X (T : Txt K mg) : FnOk P w K mg base (L2.CX P w) 6 T.a_zero_of_ T.d_zero_of_ ["row"] (SpX1 K T.adr (RV K) Mir.zero_of_X) := by
  refine T.F_zero_of_.okX sc_zero_of_ (SpX1.len rfl) (fun cdv A outer s He vs Q E hr h => ?_)
  obtain ⟨Ge, w_row_, row_, r, rfl, hs, r_row_, hm, q⟩ := h
  have e : Ext Ge He Ge He := Ext.refl hs
  unfold Mir.zero_of_X at hm
  refine ⟨_, (pss_cons (ps_expr (pe_callS (ok_must_be_small_X T) (hr.mono (by decide)) (by rfl) T.g_must_be_small_ T.F_must_be_small_.kp (bind_must_be_small_ T) (fun σ => passAt (takes_of rfl rfl rfl rfl) σ) (pa_cons (pv 0) pa_nil))) (pss_cons ps_never (pss_cons ps_never (pss_cons ps_never (pss_cons ps_never (pss_cons ps_never (pss_cons ps_never (pss_cons ps_never (pss_one ps_never))))))))), ?_⟩
  try dsimp only
  refine st_seq ?_
  refine st_err e.s (sr_callX1p (se_var (i := 0) (d := row_) rfl r_row_)) (fun h => h) hm (fun hm => ?_) (fun j hm G2 H2 ce => by cases hm; exact q (.inr _) _ _ (e.trans ce) rfl)
  refine st_drop2 (K := K) e.s (XE.se (xe_callX1p rvm (se_var (i := 0) (d := row_) rfl r_row_))) hm (fun u1 G1 H1 ce hm => ?_)
  replace e := e.trans ce
  replace r_row_ := Rp.mono ce.g r_row_
  try dsimp only
  cases hm
theorem ok_values_for_X (T : Txt K mg) : FnOk P w K mg base (L2.CX P w) 6 T.a_values_for_ T.d_values_for_ ["row", "c"] (SpX2 K T.adr (RV K) Mir.values_for_X) := by
  refine T.F_values_for_.okX sc_values_for_ (SpX2.len rfl) (fun cdv A outer s He vs Q E hr h => ?_)
  obtain ⟨Ge, w_row_, w_c_, row_, c_, r, rfl, hs, r_row_, r_c_, hm, q⟩ := h
  have e : Ext Ge He Ge He := Ext.refl hs
  have r2_c_ : w_c_ = V.int c_ := r_c_
  subst r2_c_
  clear r_c_
  unfold Mir.values_for_X at hm
  refine ⟨_, (pss_cons (ps_expr (pe_callS (ok_must_be_small_X T) (hr.mono (by decide)) (by rfl) T.g_must_be_small_ T.F_must_be_small_.kp (bind_must_be_small_ T) (fun σ => passAt (takes_of rfl rfl rfl rfl) σ) (pa_cons (pv 0) pa_nil))) (pss_cons (ps_if (pt_not (pt_val (pe_call (ok_is_small_ T) (hr.mono (by decide)) (by rfl) T.g_is_small_ T.F_is_small_.kp (bind_is_small_ T) .nil pass0 (pa_cons (pv 1) pa_nil)))) (pss_one (ps_raise rfl (takes_of rfl rfl rfl rfl) (pmk_own PySem.F.excBase_ValueError (T.xN .tooGreat) T.g_TooGreat (T.xk .tooGreat) (raises_own (T.xs .tooGreat) (T.xt .tooGreat)) rfl))) pss_nil) (pss_cons ps_never (pss_cons ps_never (pss_cons ps_never (pss_cons ps_never (pss_cons ps_never (pss_cons ps_never (pss_cons ps_never (pss_cons ps_never (pss_one ps_never))))))))))), ?_⟩
  try dsimp only
  refine st_seq ?_
  refine st_err e.s (sr_callX1p (se_var (i := 0) (d := row_) rfl r_row_)) (fun h => h) hm (fun hm => ?_) (fun j hm G2 H2 ce => by cases hm; exact q (.inr _) _ _ (e.trans ce) rfl)
  refine st_drop2 (K := K) e.s (XE.se (xe_callX1p rvm (se_var (i := 0) (d := row_) rfl r_row_))) hm (fun u1 G1 H1 ce hm => ?_)
  replace e := e.trans ce
  replace r_row_ := Rp.mono ce.g r_row_
  try dsimp only
  refine st_seq ?_
  refine st_if e.s (st_not (st_val (K := K) (XE.se (xe_call1p rvm (se_iv (i := 1) (d := c_) rfl))))) hm (fun G1 H1 ce hm => ?_) (fun G1 H1 ce hm => ?_)
  · replace e := e.trans ce
    replace r_row_ := Rp.mono ce.g r_row_
    try dsimp only
    cases hm; exact q (.inr _) _ _ (e) rfl
  · replace e := e.trans ce
    replace r_row_ := Rp.mono ce.g r_row_
    refine st_next ?_
    try dsimp only
    cases hm
theorem ok_zero_of_two_X (T : Txt K mg) : FnOk P w K mg base (L2.CX P w) 3 T.a_zero_of_two_ T.d_zero_of_two_ ["row"] (SpX1 K T.adr (RV K) Mir.zero_of_two_X) := by
  refine T.F_zero_of_two_.okX sc_zero_of_two_ (SpX1.len rfl) (fun cdv A outer s He vs Q E hr h => ?_)
  obtain ⟨Ge, w_row_, row_, r, rfl, hs, r_row_, hm, q⟩ := h
  have e : Ext Ge He Ge He := Ext.refl hs
  unfold Mir.zero_of_two_X at hm
  refine ⟨_, (pss_cons (ps_expr (pe_callS (ok_must_be_row_X T) (hr.mono (by decide)) (by rfl) T.g_must_be_row_ T.F_must_be_row_.kp (bind_must_be_row_ T) (fun σ => passAt (takes_of rfl rfl rfl rfl) σ) (pa_cons (pv 0) pa_nil))) (pss_cons ps_never (pss_cons ps_never (pss_cons ps_never (pss_cons ps_never (pss_one ps_never)))))), ?_⟩
  try dsimp only
  refine st_seq ?_
  refine st_err e.s (sr_callX1p (se_var (i := 0) (d := row_) rfl r_row_)) (fun h => h) hm (fun hm => ?_) (fun j hm G2 H2 ce => by cases hm; exact q (.inr _) _ _ (e.trans ce) rfl)
  refine st_drop2 (K := K) e.s (XE.se (xe_callX1p rvm (se_var (i := 0) (d := row_) rfl r_row_))) hm (fun u1 G1 H1 ce hm => ?_)
  replace e := e.trans ce
  replace r_row_ := Rp.mono ce.g r_row_
  try dsimp only
  cases hm
theorem ok_zero_of_three_X (T : Txt K mg) : FnOk P w K mg base (L2.CX P w) 3 T.a_zero_of_three_ T.d_zero_of_three_ ["row"] (SpX1 K T.adr (RV K) Mir.zero_of_three_X) := by
  refine T.F_zero_of_three_.okX sc_zero_of_three_ (SpX1.len rfl) (fun cdv A outer s He vs Q E hr h => ?_)
  obtain ⟨Ge, w_row_, row_, r, rfl, hs, r_row_, hm, q⟩ := h
  have e : Ext Ge He Ge He := Ext.refl hs
  unfold Mir.zero_of_three_X at hm
  refine ⟨_, (pss_cons (ps_expr (pe_callS (ok_must_be_row_X T) (hr.mono (by decide)) (by rfl) T.g_must_be_row_ T.F_must_be_row_.kp (bind_must_be_row_ T) (fun σ => passAt (takes_of rfl rfl rfl rfl) σ) (pa_cons (pv 0) pa_nil))) (pss_cons ps_never (pss_cons ps_never (pss_cons ps_never (pss_cons ps_never (pss_cons ps_never (pss_cons ps_never (pss_cons ps_never (pss_cons ps_never (pss_one ps_never)))))))))), ?_⟩
  try dsimp only
  refine st_seq ?_
  refine st_err e.s (sr_callX1p (se_var (i := 0) (d := row_) rfl r_row_)) (fun h => h) hm (fun hm => ?_) (fun j hm G2 H2 ce => by cases hm; exact q (.inr _) _ _ (e.trans ce) rfl)
  refine st_drop2 (K := K) e.s (XE.se (xe_callX1p rvm (se_var (i := 0) (d := row_) rfl r_row_))) hm (fun u1 G1 H1 ce hm => ?_)
  replace e := e.trans ce
  replace r_row_ := Rp.mono ce.g r_row_
  try dsimp only
  cases hm
theorem ok_law_word_ (T : Txt K mg) : FnA P w K mg base 1 T.a_law_word_ T.d_law_word_ ["_law_e"] (SpA K T.adr (RV K) Mir.law_word_) := by
  refine T.F_law_word_.okA sc_law_word_ (SpA.len rfl) (fun cdv A outer s He vs Q E ap hr h => ?_)
  obtain ⟨a, oe⟩ := ap
  obtain ⟨Ge, law_e_, r, rfl, hz, hf, hs, hm, q⟩ := h
  have e : Ext Ge He Ge He := Ext.refl hs
  unfold Mir.law_word_ at hm
  refine ⟨_, (pss_cons (ps_set (i := 1) sc_law_word_.nd rfl (Or.inl rfl) pe_str) (pss_cons (ps_if (pt_val (pe_callB (call_isP hz hf List.mem_cons_self) (by rfl) T.n_isinstance (by decide +kernel) (pa_cons (pv 0) (pa_cons (pe_glob (v := V.ref T.e_TooGreat) rfl T.h_TooGreat rfl) pa_nil)))) (pss_one (ps_set (i := 1) sc_law_word_.nd rfl (Or.inl rfl) (pe_op op_add_str (pv 1) pe_str))) pss_nil) (pss_cons (ps_if (pt_val (pe_callB (call_isP hz hf List.mem_cons_self) (by rfl) T.n_isinstance (by decide +kernel) (pa_cons (pv 0) (pa_cons (pe_glob (v := V.ref T.e_NoRow) rfl T.h_NoRow rfl) pa_nil)))) (pss_one (ps_set (i := 1) sc_law_word_.nd rfl (Or.inl rfl) (pe_op op_add_str (pv 1) pe_str))) pss_nil) (pss_cons (ps_if (PW.pt (pw_or (pt_val (pe_callB (call_isP hz hf List.mem_cons_self) (by rfl) T.n_isinstance (by decide +kernel) (pa_cons (pv 0) (pa_cons (pe_glob (v := V.ref T.e_NoStep) rfl T.h_NoStep rfl) pa_nil)))) (pw_or1 (pt_val (pe_callB (call_isP hz hf List.mem_cons_self) (by rfl) T.n_isinstance (by decide +kernel) (pa_cons (pv 0) (pa_cons (pe_glob (v := V.ref T.e_NoText) rfl T.h_NoText rfl) pa_nil))))))) (pss_one (ps_set (i := 1) sc_law_word_.nd rfl (Or.inl rfl) (pe_op op_add_str (pv 1) pe_str))) pss_nil) (pss_one (ps_ret (pv 1))))))), ?_⟩
  try dsimp only
  refine st_seq ?_
  refine st_set (K := K) e.s (se_str (b := Str.ofString "")) hm (fun law_words_ w_law_words_ G1 H1 ce r_law_words_ hm => ?_)
  replace e := e.trans ce
  have r_law_words_ : w_law_words_ = V.str law_words_ := r_law_words_; subst r_law_words_
  try dsimp only
  refine st_seq ?_
  obtain ⟨s1, hA, hm⟩ := bind_some hm
  refine st_join (fun σ H => ∃ G, σ = [some (V.ref a), some (V.str s1)] ∧ Ext Ge He G H) (fun σ H h => ?_) (fun N hN => ?_)
  · obtain ⟨G, es, e⟩ := h
    subst es
    try dsimp only
    refine st_seq ?_
    obtain ⟨s2, hA, hm⟩ := bind_some hm
    refine st_join (fun σ H => ∃ G, σ = [some (V.ref a), some (V.str s2)] ∧ Ext Ge He G H) (fun σ H h => ?_) (fun N hN => ?_)
    · obtain ⟨G, es, e⟩ := h
      subst es
      try dsimp only
      refine st_seq ?_
      obtain ⟨s3, hA, hm⟩ := bind_some hm
      refine st_join (fun σ H => ∃ G, σ = [some (V.ref a), some (V.str s3)] ∧ Ext Ge He G H) (fun σ H h => ?_) (fun N hN => ?_)
      · obtain ⟨G, es, e⟩ := h
        subst es
        try dsimp only
        exact st_ret (RR := RV K) e rvm (SE.xe (se_sv (i := 1) (d := s3) rfl)) hm q
      · clear hm
        refine st_if e.s (st_orp (st_val (K := K) (se_isX (i := 0) rfl (T.xC law_e_) (T.xo_NoStep law_e_))) (st_val (K := K) (se_isX (i := 0) rfl (T.xC law_e_) (T.xo_NoText law_e_)))) hA (fun G1 H1 ce hm => ?_) (fun G1 H1 ce hm => ?_)
        · replace e := e.trans ce
          try dsimp only
          refine st_set (K := K) e.s (se_catSp (se_sv (i := 1) (d := s2) rfl) (se_str (b := Str.ofString "other"))) hm (fun law_words_ w_law_words_ G1 H1 ce r_law_words_ hm => ?_)
          replace e := e.trans ce
          have r_law_words_ : w_law_words_ = V.str law_words_ := r_law_words_; subst r_law_words_
          cases hm
          exact hN _ _ ⟨_, rfl, e⟩
        · replace e := e.trans ce
          refine st_next ?_
          cases hm
          exact hN _ _ ⟨_, rfl, e⟩
    · clear hm
      refine st_if e.s (st_val (K := K) (se_isX (i := 0) rfl (T.xC law_e_) (T.xo_NoRow law_e_))) hA (fun G1 H1 ce hm => ?_) (fun G1 H1 ce hm => ?_)
      · replace e := e.trans ce
        try dsimp only
        refine st_set (K := K) e.s (se_catSp (se_sv (i := 1) (d := s1) rfl) (se_str (b := Str.ofString "row"))) hm (fun law_words_ w_law_words_ G1 H1 ce r_law_words_ hm => ?_)
        replace e := e.trans ce
        have r_law_words_ : w_law_words_ = V.str law_words_ := r_law_words_; subst r_law_words_
        cases hm
        exact hN _ _ ⟨_, rfl, e⟩
      · replace e := e.trans ce
        refine st_next ?_
        cases hm
        exact hN _ _ ⟨_, rfl, e⟩
  · clear hm
    refine st_if e.s (st_val (K := K) (se_isX (i := 0) rfl (T.xC law_e_) (T.xo_TooGreat law_e_))) hA (fun G1 H1 ce hm => ?_) (fun G1 H1 ce hm => ?_)
    · replace e := e.trans ce
      try dsimp only
      refine st_set (K := K) e.s (se_catSp (se_sv (i := 1) (d := law_words_) rfl) (se_str (b := Str.ofString "great"))) hm (fun law_words_ w_law_words_ G1 H1 ce r_law_words_ hm => ?_)
      replace e := e.trans ce
      have r_law_words_ : w_law_words_ = V.str law_words_ := r_law_words_; subst r_law_words_
      cases hm
      exact hN _ _ ⟨_, rfl, e⟩
    · replace e := e.trans ce
      refine st_next ?_
      cases hm
      exact hN _ _ ⟨_, rfl, e⟩
theorem ok_law_asked_ (T : Txt K mg) : FnOk P w K mg base CX0 7 T.a_law_asked_ T.d_law_asked_ ["_law_row_here", "_law_c", "_law_way"] (Sp3 K (RF K) Mir.law_asked_) := by
  refine T.F_law_asked_.ok sc_law_asked_ (Sp3.len rfl) (fun cdv A outer s He vs Q E hr h => ?_)
  obtain ⟨Ge, w_law_row_here_, w_law_c_, w_law_way_, law_row_here_, law_c_, law_way_, r, rfl, hs, r_law_row_here_, r_law_c_, r_law_way_, hm, q⟩ := h
  have e : Ext Ge He Ge He := Ext.refl hs
  have r2_law_c_ : w_law_c_ = V.int law_c_ := r_law_c_
  subst r2_law_c_
  clear r_law_c_
  have r2_law_way_ : w_law_way_ = V.int law_way_ := r_law_way_
  subst r2_law_way_
  clear r_law_way_
  unfold Mir.law_asked_ at hm
  refine ⟨_, (pss_cons (ps_set (i := 3) sc_law_asked_.nd rfl (Or.inl rfl) (pe_callTy call_list_of (by rfl) T.n_list (by decide +kernel) (pa_cons (pv 0) pa_nil))) (pss_cons (ps_tryA (i := 4) rfl rfl sc_law_asked_.nd rfl rfl ⟨rfl, by decide, .inl T.h_FormError⟩ takes0 (fun W pn xe tk po => (pss_one (ps_if (pt_cmpR op_eq (pv 2) pe_int (nomark _)) (pss_one (ps_expr (pe_callS (ok_zero_of_X T) (hr.mono (by decide)) (by rfl) T.g_zero_of_ T.F_zero_of_.kp (bind_zero_of_ T) (fun σ => passAt tk σ) (pa_cons (pv 3) pa_nil)))) (pss_one (ps_if (pt_cmpR op_eq (pv 2) pe_int (nomark _)) (pss_one (ps_expr (pe_callS (ok_values_for_X T) (hr.mono (by decide)) (by rfl) T.g_values_for_ T.F_values_for_.kp (bind_values_for_ T) (fun σ => passAt tk σ) (pa_cons (pv 3) (pa_cons (pv 1) pa_nil))))) (pss_one (ps_if (pt_cmpR op_eq (pe_callB (call_len_seqK (K := K) rfl) (by rfl) T.n_len (by decide +kernel) (pa_cons (pv 0) pa_nil)) pe_int (nomark _)) (pss_one (ps_expr (pe_callS (ok_zero_of_two_X T) (hr.mono (by decide)) (by rfl) T.g_zero_of_two_ T.F_zero_of_two_.kp (bind_zero_of_two_ T) (fun σ => passAt tk σ) (pa_cons (pv 3) pa_nil)))) (pss_one (ps_expr (pe_callS (ok_zero_of_three_X T) (hr.mono (by decide)) (by rfl) T.g_zero_of_three_ T.F_zero_of_three_.kp (bind_zero_of_three_ T) (fun σ => passAt tk σ) (pa_cons (pv 3) pa_nil))))))))))) (fun a oe cls d pn hz hf => (pss_one (ps_ret (pe_lst (pa_cons (pe_callA hz hf (ok_law_word_ T) (hr.mono (by decide)) (by rfl) T.g_law_word_ T.F_law_word_.kp (bind_law_word_ T) (pa_cons (pv 4) pa_nil)) (pa_cons (pe_cmpR (op_eqDK (K := K) rfl hr.units) (pv 3) (pv 0) (nomark _)) pa_nil))))))) (pss_one (ps_ret (pe_lst (pa_cons pe_str (pa_cons (pe_cmpR (op_eqD hr.units) (pv 3) (pv 0) (nomark _)) pa_nil))))))), ?_⟩
  try dsimp only
  refine st_seq ?_
  refine st_set (K := K) e.s (FE.se (fe_list (se_var (i := 0) (d := law_row_here_) rfl r_law_row_here_))) hm (fun law_handed_ w_law_handed_ G1 H1 ce r_law_handed_ hm => ?_)
  replace e := e.trans ce
  replace r_law_row_here_ := Rp.mono ce.g r_law_row_here_
  try dsimp only
  refine st_seq ?_
  obtain ⟨f1, hA0, hm⟩ := bind_some hm
  obtain ⟨t1, hB, hA⟩ := bind_some hA0
  clear hA0
  have hF1 : ∀ x, f1 = .rt x → ∀ u G' H', Ext Ge He G' H' → RF K He G' H' u x → Q u H' := fun x ex => by
    subst ex
    replace hm := flE_rt hm
    cases hm
    exact q
  refine st_join (fun σ H => ∃ s1 G, f1 = .nx s1 ∧ ∃ (w_law_row_here_ : V) (w_law_handed_ : V) (j4 : Option V), σ = [some w_law_row_here_, some (V.int law_c_), some (V.int law_way_), some w_law_handed_, j4] ∧ Ext Ge He G H ∧ rep K G w_law_row_here_ law_row_here_ ∧ rep K G w_law_handed_ law_handed_) (fun σ H h => ?_) (fun N hN => ?_)
  · obtain ⟨s1, G, ef, w_law_row_here_, w_law_handed_, j4, es, e, r_law_row_here_, r_law_handed_⟩ := h
    subst es
    subst ef
    replace hm := flE_nx hm
    try dsimp only
    exact st_ret (RR := RF K) e rfm (FE.xe (fe_lst (la_consp (se_cop (f := (PyOf.py : Str → PyData)) co_py (se_str (b := Str.ofString "told"))) (la_consp (se_cop (f := (PyOf.py : Bool → PyData)) co_py (se_eqDp (se_var (i := 3) (d := law_handed_) rfl r_law_handed_) (se_var (i := 0) (d := law_row_here_) rfl r_law_row_here_))) la_nil)))) hm q
  · clear hm
    refine st_tryX (adr := T.adr) (t := t1) e.s (fun j ej G2 H2 ce => ?_) (fun W hX1 z1 => ?_)
    · subst ej
      replace hA := tryE_er hA
      refine w_as (T.xm_FormError j) (fun yb a => ?_) (fun yb => ?_)
      · have hm := cond_yes hA yb
        clear hA
        replace e := e.trans ce
        replace r_law_row_here_ := Rp.mono ce.g r_law_row_here_
        replace r_law_handed_ := Rp.mono ce.g r_law_handed_
        try dsimp only
        exact st_retL (RR := RF K) e rfm (FE.xe (fe_lst (la_cons (se_co (f := (PyOf.py : Str → PyData)) co_py (XE.se (xe_callA (i := 4) (j := j) rvm rfl))) (la_consp (se_cop (f := (PyOf.py : Bool → PyData)) co_py (se_eqDp (se_var (i := 3) (d := law_handed_) rfl r_law_handed_) (se_var (i := 0) (d := law_row_here_) rfl r_law_row_here_))) la_nil)))) hm hF1
      · have hm := cond_no hA yb
        cases hm
    · have hT1 : ∀ x, t1 = .rt x → ∀ u G' H', Ext Ge He G' H' → RF K He G' H' u x → Q u H' := fun x ex => hF1 x (by subst ex; exact tryE_rt hA)
      have hm := hB
      clear hB
      try dsimp only
      refine st_if e.s (st_test (K := K) (se_eqp (se_iv (i := 2) (d := law_way_) rfl) (se_int (n := 0)))) hm (fun G1 H1 ce hm => ?_) (fun G1 H1 ce hm => ?_)
      · replace e := e.trans ce
        replace z1 := z1.trans ce
        replace r_law_row_here_ := Rp.mono ce.g r_law_row_here_
        replace r_law_handed_ := Rp.mono ce.g r_law_handed_
        try dsimp only
        refine st_err e.s (sr_callX1p (se_var (i := 3) (d := law_handed_) rfl r_law_handed_)) (fun h => h) hm (fun hm => ?_) (fun j hm G2 H2 ce => by cases hm; exact hX1 _ rfl _ _ (z1.trans ce))
        refine st_drop2 (K := K) e.s (XE.se (xe_callX1p rvm (se_var (i := 3) (d := law_handed_) rfl r_law_handed_))) hm (fun u2 G1 H1 ce hm => ?_)
        replace e := e.trans ce
        replace z1 := z1.trans ce
        replace r_law_row_here_ := Rp.mono ce.g r_law_row_here_
        replace r_law_handed_ := Rp.mono ce.g r_law_handed_
        cases hm
        exact hN _ _ ⟨_, _, tryE_nx hA, _, _, _, rfl, e, r_law_row_here_, r_law_handed_⟩
      · replace e := e.trans ce
        replace z1 := z1.trans ce
        replace r_law_row_here_ := Rp.mono ce.g r_law_row_here_
        replace r_law_handed_ := Rp.mono ce.g r_law_handed_
        try dsimp only
        refine st_if e.s (st_test (K := K) (se_eqp (se_iv (i := 2) (d := law_way_) rfl) (se_int (n := 1)))) hm (fun G1 H1 ce hm => ?_) (fun G1 H1 ce hm => ?_)
        · replace e := e.trans ce
          replace z1 := z1.trans ce
          replace r_law_row_here_ := Rp.mono ce.g r_law_row_here_
          replace r_law_handed_ := Rp.mono ce.g r_law_handed_
          try dsimp only
          refine st_err e.s (sr_callX2p (se_var (i := 3) (d := law_handed_) rfl r_law_handed_) (se_iv (i := 1) (d := law_c_) rfl)) (fun h => h) hm (fun hm => ?_) (fun j hm G2 H2 ce => by cases hm; exact hX1 _ rfl _ _ (z1.trans ce))
          refine st_drop2 (K := K) e.s (XE.se (xe_callX2p rvm (se_var (i := 3) (d := law_handed_) rfl r_law_handed_) (se_iv (i := 1) (d := law_c_) rfl))) hm (fun u3 G1 H1 ce hm => ?_)
          replace e := e.trans ce
          replace z1 := z1.trans ce
          replace r_law_row_here_ := Rp.mono ce.g r_law_row_here_
          replace r_law_handed_ := Rp.mono ce.g r_law_handed_
          cases hm
          exact hN _ _ ⟨_, _, tryE_nx hA, _, _, _, rfl, e, r_law_row_here_, r_law_handed_⟩
        · replace e := e.trans ce
          replace z1 := z1.trans ce
          replace r_law_row_here_ := Rp.mono ce.g r_law_row_here_
          replace r_law_handed_ := Rp.mono ce.g r_law_handed_
          try dsimp only
          refine st_if e.s (st_test (K := K) (se_eqp (se_lenp (se_var (i := 0) (d := law_row_here_) rfl r_law_row_here_)) (se_int (n := 2)))) hm (fun G1 H1 ce hm => ?_) (fun G1 H1 ce hm => ?_)
          · replace e := e.trans ce
            replace z1 := z1.trans ce
            replace r_law_row_here_ := Rp.mono ce.g r_law_row_here_
            replace r_law_handed_ := Rp.mono ce.g r_law_handed_
            try dsimp only
            refine st_err e.s (sr_callX1p (se_var (i := 3) (d := law_handed_) rfl r_law_handed_)) (fun h => h) hm (fun hm => ?_) (fun j hm G2 H2 ce => by cases hm; exact hX1 _ rfl _ _ (z1.trans ce))
            refine st_drop2 (K := K) e.s (XE.se (xe_callX1p rvm (se_var (i := 3) (d := law_handed_) rfl r_law_handed_))) hm (fun u4 G1 H1 ce hm => ?_)
            replace e := e.trans ce
            replace z1 := z1.trans ce
            replace r_law_row_here_ := Rp.mono ce.g r_law_row_here_
            replace r_law_handed_ := Rp.mono ce.g r_law_handed_
            cases hm
            exact hN _ _ ⟨_, _, tryE_nx hA, _, _, _, rfl, e, r_law_row_here_, r_law_handed_⟩
          · replace e := e.trans ce
            replace z1 := z1.trans ce
            replace r_law_row_here_ := Rp.mono ce.g r_law_row_here_
            replace r_law_handed_ := Rp.mono ce.g r_law_handed_
            try dsimp only
            refine st_err e.s (sr_callX1p (se_var (i := 3) (d := law_handed_) rfl r_law_handed_)) (fun h => h) hm (fun hm => ?_) (fun j hm G2 H2 ce => by cases hm; exact hX1 _ rfl _ _ (z1.trans ce))
            refine st_drop2 (K := K) e.s (XE.se (xe_callX1p rvm (se_var (i := 3) (d := law_handed_) rfl r_law_handed_))) hm (fun u5 G1 H1 ce hm => ?_)
            replace e := e.trans ce
            replace z1 := z1.trans ce
            replace r_law_row_here_ := Rp.mono ce.g r_law_row_here_
            replace r_law_handed_ := Rp.mono ce.g r_law_handed_
            cases hm
            exact hN _ _ ⟨_, _, tryE_nx hA, _, _, _, rfl, e, r_law_row_here_, r_law_handed_⟩
theorem ok_law_no_row_ (T : Txt K mg) : FnOk P w K mg base CX0 1 T.a_law_no_row_ T.d_law_no_row_ ["_law_row_here", "_law_cell"] (Sp2 K (RF K) Mir.law_no_row_) := by
  refine T.F_law_no_row_.ok sc_law_no_row_ (Sp2.len rfl) (fun cdv A outer s He vs Q E hr h => ?_)
  obtain ⟨Ge, w_law_row_here_, w_law_cell_, law_row_here_, law_cell_, r, rfl, hs, r_law_row_here_, r_law_cell_, hm, q⟩ := h
  have e : Ext Ge He Ge He := Ext.refl hs
  have r2_law_cell_ : w_law_cell_ = V.int law_cell_ := r_law_cell_
  subst r2_law_cell_
  clear r_law_cell_
  unfold Mir.law_no_row_ at hm
  refine ⟨_, (pss_cons (ps_set (i := 2) sc_law_no_row_.nd rfl (Or.inl rfl) (pe_op op_modN (pv 1) (pe_callB call_len_seq (by rfl) T.n_len (by decide +kernel) (pa_cons (pv 0) pa_nil)))) (pss_cons (ps_set (i := 3) sc_law_no_row_.nd rfl (Or.inl rfl) (pe_op op_mod (pe_op op_fdivW (pv 1) pe_int) (pe_op op_pow pe_int pe_int))) (pss_cons (ps_set (i := 4) sc_law_no_row_.nd rfl (Or.inl rfl) (pe_ix ix_list (pe_lst (pa_cons pe_int (pa_cons pe_int (pa_cons (pe_op op_add pe_int (pv 3)) (pa_cons (pe_op op_sub (pe_un un_neg pe_int) (pv 3)) (pa_cons pe_bl (pa_cons pe_bl (pa_cons pe_non (pa_cons pe_str pa_nil))))))))) (pe_op op_mod (pe_op op_fdivW (pv 1) pe_int) pe_int) (fun _ _ => rfl))) (pss_cons (ps_if (pt_cmpR op_eq (pe_op op_mod (pe_op op_fdivW (pv 1) pe_int) pe_int) pe_int (nomark _)) (pss_one (ps_ret (pe_lst pa_nil))) pss_nil) (pss_cons (ps_if (pt_cmpR op_eq (pe_op op_mod (pe_op op_fdivW (pv 1) pe_int) pe_int) pe_int (nomark _)) (pss_one (ps_ret (pe_lst (pa_cons pe_int (pa_cons (pe_un un_neg pe_int) (pa_cons pe_int (pa_cons (pe_un un_neg pe_int) (pa_cons pe_int (pa_cons (pe_un un_neg pe_int) (pa_cons pe_int (pa_cons (pe_un un_neg pe_int) (pa_cons pe_int pa_nil)))))))))))) pss_nil) (pss_one (ps_ret (pe_op op_cat (pe_op op_cat (pe_slice sl_list (pv 0) po_none (po_some (pv 2))) (pe_lst (pa_cons (pv 4) pa_nil))) (pe_slice sl_list (pv 0) (po_some (pe_op op_add (pv 2) pe_int)) po_none))))))))), ?_⟩
  try dsimp only
  refine st_seq ?_
  refine st_set (K := K) e.s (se_modp (se_iv (i := 1) (d := law_cell_) rfl) (se_lenp (se_var (i := 0) (d := law_row_here_) rfl r_law_row_here_))) hm (fun law_k_ w_law_k_ G1 H1 ce r_law_k_ hm => ?_)
  replace e := e.trans ce
  replace r_law_row_here_ := Rp.mono ce.g r_law_row_here_
  have r_law_k_ : w_law_k_ = V.int law_k_ := r_law_k_; subst r_law_k_
  try dsimp only
  refine st_seq ?_
  refine st_set (K := K) e.s (se_modk (se_divcp (se_iv (i := 1) (d := law_cell_) rfl) (by decide)) (se_kpow (n := 100000000000000000000) (se_int (n := 10)) (se_int (n := 20)) (by decide +kernel)) (by decide +kernel)) hm (fun law_far_ w_law_far_ G1 H1 ce r_law_far_ hm => ?_)
  replace e := e.trans ce
  replace r_law_row_here_ := Rp.mono ce.g r_law_row_here_
  have r_law_far_ : w_law_far_ = V.int law_far_ := r_law_far_; subst r_law_far_
  try dsimp only
  refine st_seq ?_
  refine st_set (K := K) e.s (se_ixp (FE.se (fe_lst (la_consp (se_cop (f := (PyOf.py : Int → PyData)) co_py (se_int (n := 0))) (la_consp (se_cop (f := (PyOf.py : Int → PyData)) co_py (se_int (n := 1073741824))) (la_consp (se_cop (f := (PyOf.py : Int → PyData)) co_py (se_addp (se_int (n := 1073741824)) (se_iv (i := 3) (d := law_far_) rfl))) (la_consp (se_cop (f := (PyOf.py : Int → PyData)) co_py (se_subp (se_negp (se_int (n := 1073741824))) (se_iv (i := 3) (d := law_far_) rfl))) (la_consp (se_cop (f := (PyOf.py : Bool → PyData)) co_py se_bl) (la_consp (se_cop (f := (PyOf.py : Bool → PyData)) co_py se_bl) (la_consp (se_cop (f := (PyOf.py : Unit → PyData)) co_py se_unit) (la_consp (se_cop (f := (PyOf.py : Str → PyData)) co_py (se_str (b := Str.ofString "1"))) la_nil)))))))))) (se_modcp (se_divcp (se_iv (i := 1) (d := law_cell_) rfl) (by decide)) (by decide))) hm (fun law_thing_ w_law_thing_ G1 H1 ce r_law_thing_ hm => ?_)
  replace e := e.trans ce
  replace r_law_row_here_ := Rp.mono ce.g r_law_row_here_
  try dsimp only
  refine st_seq ?_
  refine st_if e.s (st_test (K := K) (se_eqp (se_modcp (se_divcp (se_iv (i := 1) (d := law_cell_) rfl) (by decide)) (by decide)) (se_int (n := 0)))) hm (fun G1 H1 ce hm => ?_) (fun G1 H1 ce hm => ?_)
  · replace e := e.trans ce
    replace r_law_row_here_ := Rp.mono ce.g r_law_row_here_
    replace r_law_thing_ := Rp.mono ce.g r_law_thing_
    try dsimp only
    exact st_ret (RR := RF K) e rfm (FE.xe (fe_lst la_nil)) hm q
  · replace e := e.trans ce
    replace r_law_row_here_ := Rp.mono ce.g r_law_row_here_
    replace r_law_thing_ := Rp.mono ce.g r_law_thing_
    refine st_next ?_
    try dsimp only
    refine st_seq ?_
    refine st_if e.s (st_test (K := K) (se_eqp (se_modcp (se_divcp (se_iv (i := 1) (d := law_cell_) rfl) (by decide)) (by decide)) (se_int (n := 1)))) hm (fun G1 H1 ce hm => ?_) (fun G1 H1 ce hm => ?_)
    · replace e := e.trans ce
      replace r_law_row_here_ := Rp.mono ce.g r_law_row_here_
      replace r_law_thing_ := Rp.mono ce.g r_law_thing_
      try dsimp only
      exact st_ret (RR := RF K) e rfm (FE.xe (fe_cop (f := (PyOf.py : Int → PyData)) co_py (fe_lst (la_consp (se_int (n := 1)) (la_consp (se_negp (se_int (n := 1))) (la_consp (se_int (n := 2)) (la_consp (se_negp (se_int (n := 2))) (la_consp (se_int (n := 3)) (la_consp (se_negp (se_int (n := 3))) (la_consp (se_int (n := 5)) (la_consp (se_negp (se_int (n := 5))) (la_consp (se_int (n := 7)) la_nil)))))))))))) hm q
    · replace e := e.trans ce
      replace r_law_row_here_ := Rp.mono ce.g r_law_row_here_
      replace r_law_thing_ := Rp.mono ce.g r_law_thing_
      refine st_next ?_
      try dsimp only
      exact st_ret (RR := RF K) e rfm (FE.xe (fe_cat (FE.se (fe_catp (se_cop (f := (List.map (PyOf.py : Int → PyData))) (co_list co_py) (FE.se (fe_slicep (se_var (i := 0) (d := law_row_here_) rfl r_law_row_here_) so_none (so_somep (K := K) (se_iv (i := 2) (d := law_k_) rfl))))) (FE.se (fe_lst (la_consp (se_var (i := 4) (d := law_thing_) rfl r_law_thing_) la_nil))))) (se_cop (f := (List.map (PyOf.py : Int → PyData))) (co_list co_py) (FE.se (fe_slicep (se_var (i := 0) (d := law_row_here_) rfl r_law_row_here_) (so_somep (K := K) (se_addp (se_iv (i := 2) (d := law_k_) rfl) (se_int (n := 1)))) so_none))))) hm q
theorem ok_is_row__2 (T : Txt K mg) : FnOk P w K mg base CX0 1 T.a_is_row_ T.d_is_row_ ["row"] (Sp1 K (RV K) Mir.is_row__2) := by
  refine T.F_is_row_.ok sc_is_row_ (Sp1.len rfl) (fun cdv A outer s He vs Q E hr h => ?_)
  obtain ⟨Ge, w_row_, row_, r, rfl, hs, r_row_, hm, q⟩ := h
  have e : Ext Ge He Ge He := Ext.refl hs
  unfold Mir.is_row__2 at hm
  refine ⟨_, (pss_cons (ps_if (PW.pt (pw_or (pt_cmpR op_lt (pe_callB call_len_seq (by rfl) T.n_len (by decide +kernel) (pa_cons (pv 0) pa_nil)) pe_int (nomark _)) (pw_or1 (pt_cmpR op_gt (pe_callB call_len_seq (by rfl) T.n_len (by decide +kernel) (pa_cons (pv 0) pa_nil)) (pe_glob (v := V.int (8)) rfl T.c_LONGEST_ ⟨_, rfl⟩) (nomark _))))) (pss_one (ps_ret pe_bl)) pss_nil) (pss_cons (ps_for PassesOwn.never rfl (pi_list (pv 0)) (pg_name (i := 1) sc_is_row_.nd rfl (Or.inl rfl)) (pss_one (ps_if (PW.pt (pw_or (pt_not (pt_val (pe_callB call_isi (by rfl) T.n_isinstance (by decide +kernel) (pa_cons (pv 1) (pa_cons (pe_bltn (v := .ty "int") (by rfl) T.n_int (by decide +kernel) rfl) pa_nil))))) (pw_or (pt_val (pe_callB call_isi (by rfl) T.n_isinstance (by decide +kernel) (pa_cons (pv 1) (pa_cons (pe_bltn (v := .ty "bool") (by rfl) T.n_bool (by decide +kernel) rfl) pa_nil)))) (pw_or (pt_cmpR (op_eqD hr.units) (pv 1) pe_int (nomark _)) (pw_or1 (pt_cmpR op_ge (pe_callB call_abs (by rfl) T.n_abs (by decide +kernel) (pa_cons (pv 1) pa_nil)) (pe_glob (v := V.int (1073741824)) rfl T.c_MOST_ ⟨_, rfl⟩) (nomark _))))))) (pss_one (ps_ret pe_bl)) pss_nil))) (pss_one (ps_ret pe_bl)))), ?_⟩
  try dsimp only
  refine st_seq ?_
  refine st_if e.s (st_orp (st_test (K := K) (se_ltp (se_lenp (se_var (i := 0) (d := row_) rfl r_row_)) (se_int (n := 1)))) (st_test (K := K) (se_gtp (se_lenp (se_var (i := 0) (d := row_) rfl r_row_)) (se_int (n := 8))))) hm (fun G1 H1 ce hm => ?_) (fun G1 H1 ce hm => ?_)
  · replace e := e.trans ce
    replace r_row_ := Rp.mono ce.g r_row_
    try dsimp only
    exact st_ret (RR := RV K) e rvm (SE.xe se_bl) hm q
  · replace e := e.trans ce
    replace r_row_ := Rp.mono ce.g r_row_
    refine st_next ?_
    try dsimp only
    refine st_seq ?_
    refine st_for (K := K) e.s (IB.ie (ib_list (se_var (i := 0) (d := row_) rfl r_row_))) hm (fun xs J Gs1 Hs1 ce it hm => ?_)
    replace e := e.trans ce
    replace r_row_ := Rp.mono ce.g r_row_
    have sg1 : Same Gs1 Gs1 := Same.refl _
    obtain ⟨o1, hw, hm⟩ := bind_some hm
    have hq1 : ∀ x, o1 = .inr x → ∀ u G' H', Ext Ge He G' H' → RV K He G' H' u x → Q u H' := fun x ex => by
      subst ex
      replace hm := elim_inr hm
      cases hm
      exact q
    refine lg_R (K := K) (fun (s1 : Unit) σ G H => ∃ (w_row_ : V) (j1 : Option V), σ = [some w_row_, j1] ∧ Ext Ge He G H ∧ Same Gs1 G ∧ rep K G w_row_ row_) it hw ⟨_, _, rfl, e, sg1, r_row_⟩ (fun s1 σ G H h => ?_) (fun s1 i1 f w1 σ G H G1 H1 N hx h ce hv hm2 hN hX hR => ?_) (fun z1 σ G H eo h => ?_)
    · obtain ⟨w_row_, j1, es, e, sg1, r_row_⟩ := h
      subst es
      exact ⟨sg1, e.s⟩
    · clear hw hm it
      have hm := hm2
      clear hm2
      have hF1 := fun x ex => hq1 x (hR x ex)
      obtain ⟨w_row_, j1, es, e, sg1, r_row_⟩ := h
      subst es
      replace e := e.trans ce
      replace sg1 := sg1.trans ce.g
      replace r_row_ := Rp.mono ce.g r_row_
      refine g_name ?_
      have r_k_ := hv
      clear hv
      try dsimp only
      refine st_if e.s (st_or (st_notp (st_val (K := K) (se_isiYp (se_var (i := 1) (d := i1) rfl r_k_) (by first | decide +kernel | rfl) (by first | decide +kernel | rfl) (by first | decide +kernel | rfl) (by first | decide +kernel | rfl) (by first | decide +kernel | rfl) (by first | decide +kernel | rfl)))) (st_or (st_val (K := K) (se_isiYp (se_var (i := 1) (d := i1) rfl r_k_) (by first | decide +kernel | rfl) (by first | decide +kernel | rfl) (by first | decide +kernel | rfl) (by first | decide +kernel | rfl) (by first | decide +kernel | rfl) (by first | decide +kernel | rfl))) (st_or (st_test (K := K) (se_eqYp (se_var (i := 1) (d := i1) rfl r_k_) (se_cop (f := (PyOf.py : Int → PyData)) co_py (se_int (n := 0))))) (st_test (K := K) (se_ge (se_abs (se_prjp (f := dyI) prj_int (se_var (i := 1) (d := i1) rfl r_k_))) (se_int (n := 1073741824))))))) hm (fun G1 H1 ce hm => ?_) (fun G1 H1 ce hm => ?_)
      · replace e := e.trans ce
        replace sg1 := sg1.trans ce.g
        replace r_row_ := Rp.mono ce.g r_row_
        replace r_k_ := Rp.mono ce.g r_k_
        try dsimp only
        exact st_retL (RR := RV K) e rvm (SE.xe se_bl) hm hF1
      · replace e := e.trans ce
        replace sg1 := sg1.trans ce.g
        replace r_row_ := Rp.mono ce.g r_row_
        replace r_k_ := Rp.mono ce.g r_k_
        refine st_next ?_
        cases hm
        exact hN _ _ _ _ rfl ⟨_, _, rfl, e, sg1, r_row_⟩
    · clear hw it
      subst eo
      replace hm := elim_inl hm
      obtain ⟨w_row_, j1, es, e, sg1, r_row_⟩ := h
      subst es
      clear sg1
      try dsimp only
      exact st_ret (RR := RV K) e rvm (SE.xe se_bl) hm q
theorem ok_must_be_row_X_2 (T : Txt K mg) : FnOk P w K mg base (L2.CX P w) 2 T.a_must_be_row_ T.d_must_be_row_ ["row"] (SpX1 K T.adr (RV K) Mir.must_be_row_X_2) := by
  refine T.F_must_be_row_.okX sc_must_be_row_ (SpX1.len rfl) (fun cdv A outer s He vs Q E hr h => ?_)
  obtain ⟨Ge, w_row_, row_, r, rfl, hs, r_row_, hm, q⟩ := h
  have e : Ext Ge He Ge He := Ext.refl hs
  unfold Mir.must_be_row_X_2 at hm
  refine ⟨_, (pss_one (ps_if (pt_not (pt_val (pe_call (ok_is_row__2 T) (hr.mono (by decide)) (by rfl) T.g_is_row_ T.F_is_row_.kp (bind_is_row_ T) .nil pass0 (pa_cons (pv 0) pa_nil)))) (pss_one (ps_raise rfl (takes_of rfl rfl rfl rfl) (pmk_own PySem.F.excBase_ValueError (T.xN .noRow) T.g_NoRow (T.xk .noRow) (raises_own (T.xs .noRow) (T.xt .noRow)) rfl))) pss_nil)), ?_⟩
  try dsimp only
  refine st_if e.s (st_not (st_val (K := K) (XE.se (xe_call1p rvm (se_var (i := 0) (d := row_) rfl r_row_))))) hm (fun G1 H1 ce hm => ?_) (fun G1 H1 ce hm => ?_)
  · replace e := e.trans ce
    replace r_row_ := Rp.mono ce.g r_row_
    try dsimp only
    cases hm; exact q (.inr _) _ _ (e) rfl
  · replace e := e.trans ce
    replace r_row_ := Rp.mono ce.g r_row_
    refine st_next ?_
    cases hm
    exact q (.inl _) _ _ e rfl
theorem ok_free_of__2 (T : Txt K mg) : FnOk P w K mg base CX0 3 T.a_free_of_ T.d_free_of_ ["k"] (Sp1 K (RV K) Mir.free_of__2) := by
  refine T.F_free_of_.ok sc_free_of_ (Sp1.len rfl) (fun cdv A outer s He vs Q E hr h => ?_)
  obtain ⟨Ge, w_k_, k_, r, rfl, hs, r_k_, hm, q⟩ := h
  have e : Ext Ge He Ge He := Ext.refl hs
  unfold Mir.free_of__2 at hm
  refine ⟨_, (pss_cons (ps_asg (pe_call (ok_tried_ T) (hr.mono (by decide)) (by rfl) T.g_tried_ T.F_tried_.kp (bind_tried_ T) .nil pass0 (pa_cons (pe_callB call_abs (by rfl) T.n_abs (by decide +kernel) (pa_cons (pv 0) pa_nil)) pa_nil)) (pg_tup rfl (pgs_cons (pg_name (i := 1) sc_free_of_.nd rfl (Or.inl rfl)) (pgs_cons (pg_name (i := 2) sc_free_of_.nd rfl (Or.inl rfl)) pgs_nil)))) (pss_cons (ps_if (pt_val (pe_call (ok_is_square_ T) (hr.mono (by decide)) (by rfl) T.g_is_square_ T.F_is_square_.kp (bind_is_square_ T) .nil pass0 (pa_cons (pv 2) pa_nil))) (pss_one (ps_set (i := 2) sc_free_of_.nd rfl (Or.inl rfl) pe_int)) pss_nil) (pss_cons (ps_if (pt_cmpR op_ge (pv 2) (pe_glob (v := V.int (1073741824)) rfl T.c_MOST_ ⟨_, rfl⟩) (nomark _)) (pss_one ps_never) pss_nil) (pss_cons (ps_for PassesOwn.never rfl (pi_list (pv 1)) (pg_tup rfl (pgs_cons (pg_name (i := 3) sc_free_of_.nd rfl (Or.inl rfl)) (pgs_cons (pg_name (i := 4) sc_free_of_.nd rfl (Or.inl rfl)) pgs_nil))) (pss_one (ps_if (pt_cmpR op_eq (pe_op op_mod (pv 4) pe_int) pe_int (nomark _)) (pss_one (ps_set (i := 2) sc_free_of_.nd rfl (Or.inl rfl) (pe_op op_mulZ (pv 2) (pv 3)))) pss_nil))) (pss_cons (ps_if (pt_cmpR op_lt (pv 0) pe_int (nomark _)) (pss_one (ps_ret (pe_op op_sub pe_int (pv 2)))) pss_nil) (pss_one (ps_ret (pv 2)))))))), ?_⟩
  try dsimp only
  refine st_seq ?_
  refine st_un2 (K := K) e.s (XE.pse (xe_call1 rpm (se_abs (se_prjp (f := dyI) prj_int (se_var (i := 0) (d := k_) rfl r_k_))))) hm (fun t1 w_found_ w_left_ G1 H1 ce r_found_ r_left_ hm => ?_)
  replace e := e.trans ce
  replace r_k_ := Rp.mono ce.g r_k_
  have r_left_ : w_left_ = V.int t1.2 := r_left_; subst r_left_
  try dsimp only
  refine st_seq ?_
  obtain ⟨s2, hA, hm⟩ := bind_some hm
  refine st_join (fun σ H => ∃ G, ∃ (w_k_ : V) (w_found_ : V) (j3 : Option V) (j4 : Option V), σ = [some w_k_, some w_found_, some (V.int s2), j3, j4] ∧ Ext Ge He G H ∧ rep K G w_k_ k_ ∧ rep K G w_found_ t1.1) (fun σ H h => ?_) (fun N hN => ?_)
  · obtain ⟨G, w_k_, w_found_, j3, j4, es, e, r_k_, r_found_⟩ := h
    subst es
    try dsimp only
    refine st_seq ?_
    refine st_if e.s (st_test (K := K) (se_gep (se_iv (i := 2) (d := s2) rfl) (se_int (n := 1073741824)))) hm (fun G1 H1 ce hm => ?_) (fun G1 H1 ce hm => ?_)
    · replace e := e.trans ce
      replace r_k_ := Rp.mono ce.g r_k_
      replace r_found_ := Rp.mono ce.g r_found_
      try dsimp only
      cases hm
    · replace e := e.trans ce
      replace r_k_ := Rp.mono ce.g r_k_
      replace r_found_ := Rp.mono ce.g r_found_
      refine st_next ?_
      try dsimp only
      refine st_seq ?_
      refine st_for (K := K) e.s (IB.ie (ib_list (se_var (i := 1) (d := t1.1) rfl r_found_))) hm (fun xs J Gs3 Hs3 ce it hm => ?_)
      replace e := e.trans ce
      replace r_k_ := Rp.mono ce.g r_k_
      replace r_found_ := Rp.mono ce.g r_found_
      have sg3 : Same Gs3 Gs3 := Same.refl _
      obtain ⟨z3, hw, hm⟩ := bind_some hm
      refine lg_N (K := K) (fun (s3 : Int) σ G H => ∃ (w_k_ : V) (w_found_ : V) (j3 : Option V) (j4 : Option V), σ = [some w_k_, some w_found_, some (V.int s3), j3, j4] ∧ Ext Ge He G H ∧ Same Gs3 G ∧ rep K G w_k_ k_ ∧ rep K G w_found_ t1.1) it hw ⟨_, _, _, _, rfl, e, sg3, r_k_, r_found_⟩ (fun s3 σ G H h => ?_) (fun s3 i3 f w3 σ G H G1 H1 N hx h ce hv hm hN => ?_) (fun σ G H h => ?_)
      · obtain ⟨w_k_, w_found_, j3, j4, es, e, sg3, r_k_, r_found_⟩ := h
        subst es
        exact ⟨sg3, e.s⟩
      · clear hw it
        obtain ⟨w_k_, w_found_, j3, j4, es, e, sg3, r_k_, r_found_⟩ := h
        subst es
        replace e := e.trans ce
        replace sg3 := sg3.trans ce.g
        replace r_k_ := Rp.mono ce.g r_k_
        replace r_found_ := Rp.mono ce.g r_found_
        refine g_two (K := K) e.s hv (fun w_prime_ w_often_ r_prime_ r_often_ => ?_)
        clear hv
        have r_prime_ : w_prime_ = V.int i3.1 := r_prime_; subst r_prime_
        have r_often_ : w_often_ = V.int i3.2 := r_often_; subst r_often_
        try dsimp only
        refine st_if e.s (st_test (K := K) (se_eqp (se_modcp (se_iv (i := 4) (d := i3.2) rfl) (by decide)) (se_int (n := 1)))) hm (fun G1 H1 ce hm => ?_) (fun G1 H1 ce hm => ?_)
        · replace e := e.trans ce
          replace sg3 := sg3.trans ce.g
          replace r_k_ := Rp.mono ce.g r_k_
          replace r_found_ := Rp.mono ce.g r_found_
          try dsimp only
          refine st_set (K := K) e.s (se_mulp (se_iv (i := 2) (d := s3) rfl) (se_iv (i := 3) (d := i3.1) rfl)) hm (fun left_ w_left_ G1 H1 ce r_left_ hm => ?_)
          replace e := e.trans ce
          replace sg3 := sg3.trans ce.g
          replace r_k_ := Rp.mono ce.g r_k_
          replace r_found_ := Rp.mono ce.g r_found_
          have r_left_ : w_left_ = V.int left_ := r_left_; subst r_left_
          cases hm
          exact hN _ _ _ ⟨_, _, _, _, rfl, e, sg3, r_k_, r_found_⟩
        · replace e := e.trans ce
          replace sg3 := sg3.trans ce.g
          replace r_k_ := Rp.mono ce.g r_k_
          replace r_found_ := Rp.mono ce.g r_found_
          refine st_next ?_
          cases hm
          exact hN _ _ _ ⟨_, _, _, _, rfl, e, sg3, r_k_, r_found_⟩
      · clear hw it
        obtain ⟨w_k_, w_found_, j3, j4, es, e, sg3, r_k_, r_found_⟩ := h
        subst es
        clear sg3
        try dsimp only
        refine st_seq ?_
        refine st_if e.s (st_test (K := K) (se_lt (se_prjp (f := dyI) prj_int (se_var (i := 0) (d := k_) rfl r_k_)) (se_int (n := 0)))) hm (fun G1 H1 ce hm => ?_) (fun G1 H1 ce hm => ?_)
        · replace e := e.trans ce
          replace r_k_ := Rp.mono ce.g r_k_
          replace r_found_ := Rp.mono ce.g r_found_
          try dsimp only
          exact st_ret (RR := RV K) e rvm (SE.xe (se_subp (se_int (n := 0)) (se_iv (i := 2) (d := z3) rfl))) hm q
        · replace e := e.trans ce
          replace r_k_ := Rp.mono ce.g r_k_
          replace r_found_ := Rp.mono ce.g r_found_
          refine st_next ?_
          try dsimp only
          exact st_ret (RR := RV K) e rvm (SE.xe (se_iv (i := 2) (d := z3) rfl)) hm q
  · clear hm
    refine st_if e.s (st_val (K := K) (XE.se (xe_call1p rvm (se_iv (i := 2) (d := t1.2) rfl)))) hA (fun G1 H1 ce hm => ?_) (fun G1 H1 ce hm => ?_)
    · replace e := e.trans ce
      replace r_k_ := Rp.mono ce.g r_k_
      replace r_found_ := Rp.mono ce.g r_found_
      try dsimp only
      refine st_set (K := K) e.s (se_int (n := 1)) hm (fun left_ w_left_ G1 H1 ce r_left_ hm => ?_)
      replace e := e.trans ce
      replace r_k_ := Rp.mono ce.g r_k_
      replace r_found_ := Rp.mono ce.g r_found_
      have r_left_ : w_left_ = V.int left_ := r_left_; subst r_left_
      cases hm
      exact hN _ _ ⟨_, _, _, _, _, rfl, e, r_k_, r_found_⟩
    · replace e := e.trans ce
      replace r_k_ := Rp.mono ce.g r_k_
      replace r_found_ := Rp.mono ce.g r_found_
      refine st_next ?_
      cases hm
      exact hN _ _ ⟨_, _, _, _, _, rfl, e, r_k_, r_found_⟩
theorem ok_is_small__2 (T : Txt K mg) : FnOk P w K mg base CX0 4 T.a_is_small_ T.d_is_small_ ["k"] (Sp1 K (RV K) Mir.is_small__2) := by
  refine T.F_is_small_.ok sc_is_small_ (Sp1.len rfl) (fun cdv A outer s He vs Q E hr h => ?_)
  obtain ⟨Ge, w_k_, k_, r, rfl, hs, r_k_, hm, q⟩ := h
  have e : Ext Ge He Ge He := Ext.refl hs
  unfold Mir.is_small__2 at hm
  refine ⟨_, (pss_cons (ps_if (PW.pt (pw_or (pt_cmpR (op_eqD hr.units) (pv 0) pe_int (nomark _)) (pw_or1 (pt_cmpR op_ge (pe_callB call_abs (by rfl) T.n_abs (by decide +kernel) (pa_cons (pv 0) pa_nil)) pe_int (nomark _))))) (pss_one (ps_ret pe_bl)) pss_nil) (pss_cons (ps_set (i := 1) sc_is_small_.nd rfl (Or.inl rfl) (pe_callB call_abs (by rfl) T.n_abs (by decide +kernel) (pa_cons (pe_call (ok_free_of__2 T) (hr.mono (by decide)) (by rfl) T.g_free_of_ T.F_free_of_.kp (bind_free_of_ T) .nil pass0 (pa_cons (pv 0) pa_nil)) pa_nil))) (pss_cons (ps_for PassesOwn.never rfl (pi_tup (pe_glob (v := V.ref T.b_SMALL_) rfl T.c_SMALL_ rfl)) (pg_name (i := 2) sc_is_small_.nd rfl (Or.inl rfl)) (pss_one (ps_if (pt_cmpR op_eq (pe_op op_modN (pv 1) (pv 2)) pe_int (nomark _)) (pss_one (ps_set (i := 1) sc_is_small_.nd rfl (Or.inl rfl) (pe_op op_divZ (pv 1) (pv 2)))) pss_nil))) (pss_one (ps_ret (pe_cmpR op_eq (pv 1) pe_int (nomark _))))))), ?_⟩
  try dsimp only
  refine st_seq ?_
  refine st_if e.s (st_or (st_test (K := K) (se_eqYp (se_var (i := 0) (d := k_) rfl r_k_) (se_cop (f := (PyOf.py : Int → PyData)) co_py (se_int (n := 0))))) (st_test (K := K) (se_ge (se_abs (se_prjp (f := dyI) prj_int (se_var (i := 0) (d := k_) rfl r_k_))) (se_int (n := 1073741824))))) hm (fun G1 H1 ce hm => ?_) (fun G1 H1 ce hm => ?_)
  · replace e := e.trans ce
    replace r_k_ := Rp.mono ce.g r_k_
    try dsimp only
    exact st_ret (RR := RV K) e rvm (SE.xe se_bl) hm q
  · replace e := e.trans ce
    replace r_k_ := Rp.mono ce.g r_k_
    refine st_next ?_
    try dsimp only
    refine st_seq ?_
    refine st_set (K := K) e.s (se_abs (XE.se (xe_call1p rvm (se_var (i := 0) (d := k_) rfl r_k_)))) hm (fun free_ w_free_ G1 H1 ce r_free_ hm => ?_)
    replace e := e.trans ce
    replace r_k_ := Rp.mono ce.g r_k_
    have r_free_ : w_free_ = V.int free_ := r_free_; subst r_free_
    try dsimp only
    refine st_seq ?_
    refine st_for (K := K) e.s (IB.ie (ib_tup (se_c T.k_SMALL_))) hm (fun xs J Gs1 Hs1 ce it hm => ?_)
    replace e := e.trans ce
    replace r_k_ := Rp.mono ce.g r_k_
    have sg1 : Same Gs1 Gs1 := Same.refl _
    obtain ⟨z1, hw, hm⟩ := bind_some hm
    refine lg_N (K := K) (fun (s1 : Int) σ G H => ∃ (w_k_ : V) (j2 : Option V), σ = [some w_k_, some (V.int s1), j2] ∧ Ext Ge He G H ∧ Same Gs1 G ∧ rep K G w_k_ k_) it hw ⟨_, _, rfl, e, sg1, r_k_⟩ (fun s1 σ G H h => ?_) (fun s1 i1 f w1 σ G H G1 H1 N hx h ce hv hm hN => ?_) (fun σ G H h => ?_)
    · obtain ⟨w_k_, j2, es, e, sg1, r_k_⟩ := h
      subst es
      exact ⟨sg1, e.s⟩
    · clear hw it
      obtain ⟨w_k_, j2, es, e, sg1, r_k_⟩ := h
      subst es
      replace e := e.trans ce
      replace sg1 := sg1.trans ce.g
      replace r_k_ := Rp.mono ce.g r_k_
      refine g_name ?_
      have hv2 : w1 = V.int i1 := hv
      subst hv2
      clear hv
      try dsimp only
      refine st_if e.s (st_test (K := K) (se_eq (se_modp (se_iv (i := 1) (d := s1) rfl) (se_iv (i := 2) (d := i1) rfl)) (se_int (n := 0)))) hm (fun G1 H1 ce hm => ?_) (fun G1 H1 ce hm => ?_)
      · replace e := e.trans ce
        replace sg1 := sg1.trans ce.g
        replace r_k_ := Rp.mono ce.g r_k_
        try dsimp only
        refine st_set (K := K) e.s (se_divp (se_iv (i := 1) (d := s1) rfl) (se_iv (i := 2) (d := i1) rfl)) hm (fun free_ w_free_ G1 H1 ce r_free_ hm => ?_)
        replace e := e.trans ce
        replace sg1 := sg1.trans ce.g
        replace r_k_ := Rp.mono ce.g r_k_
        have r_free_ : w_free_ = V.int free_ := r_free_; subst r_free_
        cases hm
        exact hN _ _ _ ⟨_, _, rfl, e, sg1, r_k_⟩
      · replace e := e.trans ce
        replace sg1 := sg1.trans ce.g
        replace r_k_ := Rp.mono ce.g r_k_
        refine st_next ?_
        cases hm
        exact hN _ _ _ ⟨_, _, rfl, e, sg1, r_k_⟩
    · clear hw it
      obtain ⟨w_k_, j2, es, e, sg1, r_k_⟩ := h
      subst es
      clear sg1
      try dsimp only
      exact st_ret (RR := RV K) e rvm (SE.xe (se_eqp (se_iv (i := 1) (d := z1) rfl) (se_int (n := 1)))) hm q
theorem ok_must_be_small_X_2 (T : Txt K mg) : FnOk P w K mg base (L2.CX P w) 5 T.a_must_be_small_ T.d_must_be_small_ ["row"] (SpX1 K T.adr (RV K) Mir.must_be_small_X_2) := by
  refine T.F_must_be_small_.okX sc_must_be_small_ (SpX1.len rfl) (fun cdv A outer s He vs Q E hr h => ?_)
  obtain ⟨Ge, w_row_, row_, r, rfl, hs, r_row_, hm, q⟩ := h
  have e : Ext Ge He Ge He := Ext.refl hs
  unfold Mir.must_be_small_X_2 at hm
  refine ⟨_, (pss_cons (ps_expr (pe_callS (ok_must_be_row_X_2 T) (hr.mono (by decide)) (by rfl) T.g_must_be_row_ T.F_must_be_row_.kp (bind_must_be_row_ T) (fun σ => passAt (takes_of rfl rfl rfl rfl) σ) (pa_cons (pv 0) pa_nil))) (pss_one (ps_for (passes_of rfl) rfl (pi_list (pv 0)) (pg_name (i := 1) sc_must_be_small_.nd rfl (Or.inl rfl)) (pss_one (ps_if (pt_not (pt_val (pe_call (ok_is_small__2 T) (hr.mono (by decide)) (by rfl) T.g_is_small_ T.F_is_small_.kp (bind_is_small_ T) .nil pass0 (pa_cons (pv 1) pa_nil)))) (pss_one (ps_raise rfl (takes_of rfl rfl rfl rfl) (pmk_own PySem.F.excBase_ValueError (T.xN .tooGreat) T.g_TooGreat (T.xk .tooGreat) (raises_own (T.xs .tooGreat) (T.xt .tooGreat)) rfl))) pss_nil))))), ?_⟩
  try dsimp only
  refine st_seq ?_
  refine st_err e.s (sr_callX1p (se_var (i := 0) (d := row_) rfl r_row_)) (fun h => h) hm (fun hm => ?_) (fun j hm G2 H2 ce => by cases hm; exact q (.inr _) _ _ (e.trans ce) rfl)
  refine st_drop2 (K := K) e.s (XE.se (xe_callX1p rvm (se_var (i := 0) (d := row_) rfl r_row_))) hm (fun u1 G1 H1 ce hm => ?_)
  replace e := e.trans ce
  replace r_row_ := Rp.mono ce.g r_row_
  try dsimp only
  refine st_for (K := K) e.s (IB.ie (ib_list (se_var (i := 0) (d := row_) rfl r_row_))) hm (fun xs J Gs2 Hs2 ce it hm => ?_)
  replace e := e.trans ce
  replace r_row_ := Rp.mono ce.g r_row_
  have sg2 : Same Gs2 Gs2 := Same.refl _
  obtain ⟨o2, hw, hm⟩ := bind_some hm
  have hq2 : ∀ x, o2 = .inr x → ∀ u G' H', Ext Ge He G' H' → RX (RV K) He G' H' u x → QX T.adr Q E u H' := fun x ex => by
    subst ex
    replace hm := elim_inr hm
    cases hm
    exact q
  refine lg_R (K := K) (fun (s2 : Unit) σ G H => ∃ (w_row_ : V) (j1 : Option V), σ = [some w_row_, j1] ∧ Ext Ge He G H ∧ Same Gs2 G ∧ rep K G w_row_ row_) it hw ⟨_, _, rfl, e, sg2, r_row_⟩ (fun s2 σ G H h => ?_) (fun s2 i2 f w2 σ G H G1 H1 N hx h ce hv hm2 hN hX hR => ?_) (fun z2 σ G H eo h => ?_)
  · obtain ⟨w_row_, j1, es, e, sg2, r_row_⟩ := h
    subst es
    exact ⟨sg2, e.s⟩
  · clear hw hm it
    have hm := hm2
    clear hm2
    have hF2 := fun x ex => hq2 x (hR x ex)
    obtain ⟨w_row_, j1, es, e, sg2, r_row_⟩ := h
    subst es
    replace e := e.trans ce
    replace sg2 := sg2.trans ce.g
    replace r_row_ := Rp.mono ce.g r_row_
    refine g_name ?_
    have r_number_ := hv
    clear hv
    try dsimp only
    refine st_if e.s (st_not (st_val (K := K) (XE.se (xe_call1p rvm (se_var (i := 1) (d := i2) rfl r_number_))))) hm (fun G1 H1 ce hm => ?_) (fun G1 H1 ce hm => ?_)
    · replace e := e.trans ce
      replace sg2 := sg2.trans ce.g
      replace r_row_ := Rp.mono ce.g r_row_
      replace r_number_ := Rp.mono ce.g r_number_
      try dsimp only
      cases hm; exact hF2 _ rfl (.inr _) _ _ (e) rfl
    · replace e := e.trans ce
      replace sg2 := sg2.trans ce.g
      replace r_row_ := Rp.mono ce.g r_row_
      replace r_number_ := Rp.mono ce.g r_number_
      refine st_next ?_
      cases hm
      exact hN _ _ _ _ rfl ⟨_, _, rfl, e, sg2, r_row_⟩
  · clear hw it
    subst eo
    replace hm := elim_inl hm
    obtain ⟨w_row_, j1, es, e, sg2, r_row_⟩ := h
    subst es
    clear sg2
    cases hm
    exact q (.inl _) _ _ e rfl
theorem ok_zero_of_X_2 (T : Txt K mg) : FnOk P w K mg base (L2.CX P w) 6 T.a_zero_of_ T.d_zero_of_ ["row"] (SpX1 K T.adr (RV K) Mir.zero_of_X_2) := by
  refine T.F_zero_of_.okX sc_zero_of_ (SpX1.len rfl) (fun cdv A outer s He vs Q E hr h => ?_)
  obtain ⟨Ge, w_row_, row_, r, rfl, hs, r_row_, hm, q⟩ := h
  have e : Ext Ge He Ge He := Ext.refl hs
  unfold Mir.zero_of_X_2 at hm
  refine ⟨_, (pss_cons (ps_expr (pe_callS (ok_must_be_small_X_2 T) (hr.mono (by decide)) (by rfl) T.g_must_be_small_ T.F_must_be_small_.kp (bind_must_be_small_ T) (fun σ => passAt (takes_of rfl rfl rfl rfl) σ) (pa_cons (pv 0) pa_nil))) (pss_cons ps_never (pss_cons ps_never (pss_cons ps_never (pss_cons ps_never (pss_cons ps_never (pss_cons ps_never (pss_cons ps_never (pss_one ps_never))))))))), ?_⟩
  try dsimp only
  refine st_seq ?_
  refine st_err e.s (sr_callX1p (se_var (i := 0) (d := row_) rfl r_row_)) (fun h => h) hm (fun hm => ?_) (fun j hm G2 H2 ce => by cases hm; exact q (.inr _) _ _ (e.trans ce) rfl)
  refine st_drop2 (K := K) e.s (XE.se (xe_callX1p rvm (se_var (i := 0) (d := row_) rfl r_row_))) hm (fun u1 G1 H1 ce hm => ?_)
  replace e := e.trans ce
  replace r_row_ := Rp.mono ce.g r_row_
  try dsimp only
  cases hm
theorem ok_values_for_X_2 (T : Txt K mg) : FnOk P w K mg base (L2.CX P w) 6 T.a_values_for_ T.d_values_for_ ["row", "c"] (SpX2 K T.adr (RV K) Mir.values_for_X_2) := by
  refine T.F_values_for_.okX sc_values_for_ (SpX2.len rfl) (fun cdv A outer s He vs Q E hr h => ?_)
  obtain ⟨Ge, w_row_, w_c_, row_, c_, r, rfl, hs, r_row_, r_c_, hm, q⟩ := h
  have e : Ext Ge He Ge He := Ext.refl hs
  have r2_c_ : w_c_ = V.int c_ := r_c_
  subst r2_c_
  clear r_c_
  unfold Mir.values_for_X_2 at hm
  refine ⟨_, (pss_cons (ps_expr (pe_callS (ok_must_be_small_X_2 T) (hr.mono (by decide)) (by rfl) T.g_must_be_small_ T.F_must_be_small_.kp (bind_must_be_small_ T) (fun σ => passAt (takes_of rfl rfl rfl rfl) σ) (pa_cons (pv 0) pa_nil))) (pss_cons (ps_if (pt_not (pt_val (pe_call (ok_is_small_ T) (hr.mono (by decide)) (by rfl) T.g_is_small_ T.F_is_small_.kp (bind_is_small_ T) .nil pass0 (pa_cons (pv 1) pa_nil)))) (pss_one (ps_raise rfl (takes_of rfl rfl rfl rfl) (pmk_own PySem.F.excBase_ValueError (T.xN .tooGreat) T.g_TooGreat (T.xk .tooGreat) (raises_own (T.xs .tooGreat) (T.xt .tooGreat)) rfl))) pss_nil) (pss_cons ps_never (pss_cons ps_never (pss_cons ps_never (pss_cons ps_never (pss_cons ps_never (pss_cons ps_never (pss_cons ps_never (pss_cons ps_never (pss_one ps_never))))))))))), ?_⟩
  try dsimp only
  refine st_seq ?_
  refine st_err e.s (sr_callX1p (se_var (i := 0) (d := row_) rfl r_row_)) (fun h => h) hm (fun hm => ?_) (fun j hm G2 H2 ce => by cases hm; exact q (.inr _) _ _ (e.trans ce) rfl)
  refine st_drop2 (K := K) e.s (XE.se (xe_callX1p rvm (se_var (i := 0) (d := row_) rfl r_row_))) hm (fun u1 G1 H1 ce hm => ?_)
  replace e := e.trans ce
  replace r_row_ := Rp.mono ce.g r_row_
  try dsimp only
  refine st_seq ?_
  refine st_if e.s (st_not (st_val (K := K) (XE.se (xe_call1p rvm (se_iv (i := 1) (d := c_) rfl))))) hm (fun G1 H1 ce hm => ?_) (fun G1 H1 ce hm => ?_)
  · replace e := e.trans ce
    replace r_row_ := Rp.mono ce.g r_row_
    try dsimp only
    cases hm; exact q (.inr _) _ _ (e) rfl
  · replace e := e.trans ce
    replace r_row_ := Rp.mono ce.g r_row_
    refine st_next ?_
    try dsimp only
    cases hm
theorem ok_zero_of_two_X_2 (T : Txt K mg) : FnOk P w K mg base (L2.CX P w) 3 T.a_zero_of_two_ T.d_zero_of_two_ ["row"] (SpX1 K T.adr (RV K) Mir.zero_of_two_X_2) := by
  refine T.F_zero_of_two_.okX sc_zero_of_two_ (SpX1.len rfl) (fun cdv A outer s He vs Q E hr h => ?_)
  obtain ⟨Ge, w_row_, row_, r, rfl, hs, r_row_, hm, q⟩ := h
  have e : Ext Ge He Ge He := Ext.refl hs
  unfold Mir.zero_of_two_X_2 at hm
  refine ⟨_, (pss_cons (ps_expr (pe_callS (ok_must_be_row_X_2 T) (hr.mono (by decide)) (by rfl) T.g_must_be_row_ T.F_must_be_row_.kp (bind_must_be_row_ T) (fun σ => passAt (takes_of rfl rfl rfl rfl) σ) (pa_cons (pv 0) pa_nil))) (pss_cons ps_never (pss_cons ps_never (pss_cons ps_never (pss_cons ps_never (pss_one ps_never)))))), ?_⟩
  try dsimp only
  refine st_seq ?_
  refine st_err e.s (sr_callX1p (se_var (i := 0) (d := row_) rfl r_row_)) (fun h => h) hm (fun hm => ?_) (fun j hm G2 H2 ce => by cases hm; exact q (.inr _) _ _ (e.trans ce) rfl)
  refine st_drop2 (K := K) e.s (XE.se (xe_callX1p rvm (se_var (i := 0) (d := row_) rfl r_row_))) hm (fun u1 G1 H1 ce hm => ?_)
  replace e := e.trans ce
  replace r_row_ := Rp.mono ce.g r_row_
  try dsimp only
  cases hm
theorem ok_zero_of_three_X_2 (T : Txt K mg) : FnOk P w K mg base (L2.CX P w) 3 T.a_zero_of_three_ T.d_zero_of_three_ ["row"] (SpX1 K T.adr (RV K) Mir.zero_of_three_X_2) := by
  refine T.F_zero_of_three_.okX sc_zero_of_three_ (SpX1.len rfl) (fun cdv A outer s He vs Q E hr h => ?_)
  obtain ⟨Ge, w_row_, row_, r, rfl, hs, r_row_, hm, q⟩ := h
  have e : Ext Ge He Ge He := Ext.refl hs
  unfold Mir.zero_of_three_X_2 at hm
  refine ⟨_, (pss_cons (ps_expr (pe_callS (ok_must_be_row_X_2 T) (hr.mono (by decide)) (by rfl) T.g_must_be_row_ T.F_must_be_row_.kp (bind_must_be_row_ T) (fun σ => passAt (takes_of rfl rfl rfl rfl) σ) (pa_cons (pv 0) pa_nil))) (pss_cons ps_never (pss_cons ps_never (pss_cons ps_never (pss_cons ps_never (pss_cons ps_never (pss_cons ps_never (pss_cons ps_never (pss_cons ps_never (pss_one ps_never)))))))))), ?_⟩
  try dsimp only
  refine st_seq ?_
  refine st_err e.s (sr_callX1p (se_var (i := 0) (d := row_) rfl r_row_)) (fun h => h) hm (fun hm => ?_) (fun j hm G2 H2 ce => by cases hm; exact q (.inr _) _ _ (e.trans ce) rfl)
  refine st_drop2 (K := K) e.s (XE.se (xe_callX1p rvm (se_var (i := 0) (d := row_) rfl r_row_))) hm (fun u1 G1 H1 ce hm => ?_)
  replace e := e.trans ce
  replace r_row_ := Rp.mono ce.g r_row_
  try dsimp only
  cases hm
theorem ok_law_asked__2 (T : Txt K mg) : FnOk P w K mg base CX0 7 T.a_law_asked_ T.d_law_asked_ ["_law_row_here", "_law_c", "_law_way"] (Sp3 K (RF K) Mir.law_asked__2) := by
  refine T.F_law_asked_.ok sc_law_asked_ (Sp3.len rfl) (fun cdv A outer s He vs Q E hr h => ?_)
  obtain ⟨Ge, w_law_row_here_, w_law_c_, w_law_way_, law_row_here_, law_c_, law_way_, r, rfl, hs, r_law_row_here_, r_law_c_, r_law_way_, hm, q⟩ := h
  have e : Ext Ge He Ge He := Ext.refl hs
  have r2_law_c_ : w_law_c_ = V.int law_c_ := r_law_c_
  subst r2_law_c_
  clear r_law_c_
  have r2_law_way_ : w_law_way_ = V.int law_way_ := r_law_way_
  subst r2_law_way_
  clear r_law_way_
  unfold Mir.law_asked__2 at hm
  refine ⟨_, (pss_cons (ps_set (i := 3) sc_law_asked_.nd rfl (Or.inl rfl) (pe_callTy call_list_of (by rfl) T.n_list (by decide +kernel) (pa_cons (pv 0) pa_nil))) (pss_cons (ps_tryA (i := 4) rfl rfl sc_law_asked_.nd rfl rfl ⟨rfl, by decide, .inl T.h_FormError⟩ takes0 (fun W pn xe tk po => (pss_one (ps_if (pt_cmpR op_eq (pv 2) pe_int (nomark _)) (pss_one (ps_expr (pe_callS (ok_zero_of_X_2 T) (hr.mono (by decide)) (by rfl) T.g_zero_of_ T.F_zero_of_.kp (bind_zero_of_ T) (fun σ => passAt tk σ) (pa_cons (pv 3) pa_nil)))) (pss_one (ps_if (pt_cmpR op_eq (pv 2) pe_int (nomark _)) (pss_one (ps_expr (pe_callS (ok_values_for_X_2 T) (hr.mono (by decide)) (by rfl) T.g_values_for_ T.F_values_for_.kp (bind_values_for_ T) (fun σ => passAt tk σ) (pa_cons (pv 3) (pa_cons (pv 1) pa_nil))))) (pss_one (ps_if (pt_cmpR op_eq (pe_callB (call_len_seqK (K := K) rfl) (by rfl) T.n_len (by decide +kernel) (pa_cons (pv 0) pa_nil)) pe_int (nomark _)) (pss_one (ps_expr (pe_callS (ok_zero_of_two_X_2 T) (hr.mono (by decide)) (by rfl) T.g_zero_of_two_ T.F_zero_of_two_.kp (bind_zero_of_two_ T) (fun σ => passAt tk σ) (pa_cons (pv 3) pa_nil)))) (pss_one (ps_expr (pe_callS (ok_zero_of_three_X_2 T) (hr.mono (by decide)) (by rfl) T.g_zero_of_three_ T.F_zero_of_three_.kp (bind_zero_of_three_ T) (fun σ => passAt tk σ) (pa_cons (pv 3) pa_nil))))))))))) (fun a oe cls d pn hz hf => (pss_one (ps_ret (pe_lst (pa_cons (pe_callA hz hf (ok_law_word_ T) (hr.mono (by decide)) (by rfl) T.g_law_word_ T.F_law_word_.kp (bind_law_word_ T) (pa_cons (pv 4) pa_nil)) (pa_cons (pe_cmpR (op_eqDK (K := K) rfl hr.units) (pv 3) (pv 0) (nomark _)) pa_nil))))))) (pss_one (ps_ret (pe_lst (pa_cons pe_str (pa_cons (pe_cmpR (op_eqD hr.units) (pv 3) (pv 0) (nomark _)) pa_nil))))))), ?_⟩
  try dsimp only
  refine st_seq ?_
  refine st_set (K := K) e.s (FE.se (fe_list (se_var (i := 0) (d := law_row_here_) rfl r_law_row_here_))) hm (fun law_handed_ w_law_handed_ G1 H1 ce r_law_handed_ hm => ?_)
  replace e := e.trans ce
  replace r_law_row_here_ := Rp.mono ce.g r_law_row_here_
  try dsimp only
  refine st_seq ?_
  obtain ⟨f1, hA0, hm⟩ := bind_some hm
  obtain ⟨t1, hB, hA⟩ := bind_some hA0
  clear hA0
  have hF1 : ∀ x, f1 = .rt x → ∀ u G' H', Ext Ge He G' H' → RF K He G' H' u x → Q u H' := fun x ex => by
    subst ex
    replace hm := flE_rt hm
    cases hm
    exact q
  refine st_join (fun σ H => ∃ s1 G, f1 = .nx s1 ∧ ∃ (w_law_row_here_ : V) (w_law_handed_ : V) (j4 : Option V), σ = [some w_law_row_here_, some (V.int law_c_), some (V.int law_way_), some w_law_handed_, j4] ∧ Ext Ge He G H ∧ rep K G w_law_row_here_ law_row_here_ ∧ rep K G w_law_handed_ law_handed_) (fun σ H h => ?_) (fun N hN => ?_)
  · obtain ⟨s1, G, ef, w_law_row_here_, w_law_handed_, j4, es, e, r_law_row_here_, r_law_handed_⟩ := h
    subst es
    subst ef
    replace hm := flE_nx hm
    try dsimp only
    exact st_ret (RR := RF K) e rfm (FE.xe (fe_lst (la_cons (se_cop (f := (PyOf.py : Str → PyData)) co_py (se_str (b := Str.ofString "told"))) (la_cons (se_co (f := (PyOf.py : Bool → PyData)) co_py (se_eqYp (se_cop (f := (PyOf.py : (List PyData) → PyData)) co_py (se_var (i := 3) (d := law_handed_) rfl r_law_handed_)) (se_cop (f := (PyOf.py : (List PyData) → PyData)) co_py (se_var (i := 0) (d := law_row_here_) rfl r_law_row_here_)))) la_nil)))) hm q
  · clear hm
    refine st_tryX (adr := T.adr) (t := t1) e.s (fun j ej G2 H2 ce => ?_) (fun W hX1 z1 => ?_)
    · subst ej
      replace hA := tryE_er hA
      refine w_as (T.xm_FormError j) (fun yb a => ?_) (fun yb => ?_)
      · have hm := cond_yes hA yb
        clear hA
        replace e := e.trans ce
        replace r_law_row_here_ := Rp.mono ce.g r_law_row_here_
        replace r_law_handed_ := Rp.mono ce.g r_law_handed_
        try dsimp only
        exact st_retL (RR := RF K) e rfm (FE.xe (fe_lst (la_cons (se_co (f := (PyOf.py : Str → PyData)) co_py (XE.se (xe_callA (i := 4) (j := j) rvm rfl))) (la_cons (se_co (f := (PyOf.py : Bool → PyData)) co_py (se_eqYp (se_cop (f := (PyOf.py : (List PyData) → PyData)) co_py (se_var (i := 3) (d := law_handed_) rfl r_law_handed_)) (se_cop (f := (PyOf.py : (List PyData) → PyData)) co_py (se_var (i := 0) (d := law_row_here_) rfl r_law_row_here_)))) la_nil)))) hm hF1
      · have hm := cond_no hA yb
        cases hm
    · have hT1 : ∀ x, t1 = .rt x → ∀ u G' H', Ext Ge He G' H' → RF K He G' H' u x → Q u H' := fun x ex => hF1 x (by subst ex; exact tryE_rt hA)
      have hm := hB
      clear hB
      try dsimp only
      refine st_if e.s (st_test (K := K) (se_eqp (se_iv (i := 2) (d := law_way_) rfl) (se_int (n := 0)))) hm (fun G1 H1 ce hm => ?_) (fun G1 H1 ce hm => ?_)
      · replace e := e.trans ce
        replace z1 := z1.trans ce
        replace r_law_row_here_ := Rp.mono ce.g r_law_row_here_
        replace r_law_handed_ := Rp.mono ce.g r_law_handed_
        try dsimp only
        refine st_err e.s (sr_callX1p (se_var (i := 3) (d := law_handed_) rfl r_law_handed_)) (fun h => h) hm (fun hm => ?_) (fun j hm G2 H2 ce => by cases hm; exact hX1 _ rfl _ _ (z1.trans ce))
        refine st_drop2 (K := K) e.s (XE.se (xe_callX1p rvm (se_var (i := 3) (d := law_handed_) rfl r_law_handed_))) hm (fun u2 G1 H1 ce hm => ?_)
        replace e := e.trans ce
        replace z1 := z1.trans ce
        replace r_law_row_here_ := Rp.mono ce.g r_law_row_here_
        replace r_law_handed_ := Rp.mono ce.g r_law_handed_
        cases hm
        exact hN _ _ ⟨_, _, tryE_nx hA, _, _, _, rfl, e, r_law_row_here_, r_law_handed_⟩
      · replace e := e.trans ce
        replace z1 := z1.trans ce
        replace r_law_row_here_ := Rp.mono ce.g r_law_row_here_
        replace r_law_handed_ := Rp.mono ce.g r_law_handed_
        try dsimp only
        refine st_if e.s (st_test (K := K) (se_eqp (se_iv (i := 2) (d := law_way_) rfl) (se_int (n := 1)))) hm (fun G1 H1 ce hm => ?_) (fun G1 H1 ce hm => ?_)
        · replace e := e.trans ce
          replace z1 := z1.trans ce
          replace r_law_row_here_ := Rp.mono ce.g r_law_row_here_
          replace r_law_handed_ := Rp.mono ce.g r_law_handed_
          try dsimp only
          refine st_err e.s (sr_callX2p (se_var (i := 3) (d := law_handed_) rfl r_law_handed_) (se_iv (i := 1) (d := law_c_) rfl)) (fun h => h) hm (fun hm => ?_) (fun j hm G2 H2 ce => by cases hm; exact hX1 _ rfl _ _ (z1.trans ce))
          refine st_drop2 (K := K) e.s (XE.se (xe_callX2p rvm (se_var (i := 3) (d := law_handed_) rfl r_law_handed_) (se_iv (i := 1) (d := law_c_) rfl))) hm (fun u3 G1 H1 ce hm => ?_)
          replace e := e.trans ce
          replace z1 := z1.trans ce
          replace r_law_row_here_ := Rp.mono ce.g r_law_row_here_
          replace r_law_handed_ := Rp.mono ce.g r_law_handed_
          cases hm
          exact hN _ _ ⟨_, _, tryE_nx hA, _, _, _, rfl, e, r_law_row_here_, r_law_handed_⟩
        · replace e := e.trans ce
          replace z1 := z1.trans ce
          replace r_law_row_here_ := Rp.mono ce.g r_law_row_here_
          replace r_law_handed_ := Rp.mono ce.g r_law_handed_
          try dsimp only
          refine st_if e.s (st_test (K := K) (se_eqp (se_lenp (se_var (i := 0) (d := law_row_here_) rfl r_law_row_here_)) (se_int (n := 2)))) hm (fun G1 H1 ce hm => ?_) (fun G1 H1 ce hm => ?_)
          · replace e := e.trans ce
            replace z1 := z1.trans ce
            replace r_law_row_here_ := Rp.mono ce.g r_law_row_here_
            replace r_law_handed_ := Rp.mono ce.g r_law_handed_
            try dsimp only
            refine st_err e.s (sr_callX1p (se_var (i := 3) (d := law_handed_) rfl r_law_handed_)) (fun h => h) hm (fun hm => ?_) (fun j hm G2 H2 ce => by cases hm; exact hX1 _ rfl _ _ (z1.trans ce))
            refine st_drop2 (K := K) e.s (XE.se (xe_callX1p rvm (se_var (i := 3) (d := law_handed_) rfl r_law_handed_))) hm (fun u4 G1 H1 ce hm => ?_)
            replace e := e.trans ce
            replace z1 := z1.trans ce
            replace r_law_row_here_ := Rp.mono ce.g r_law_row_here_
            replace r_law_handed_ := Rp.mono ce.g r_law_handed_
            cases hm
            exact hN _ _ ⟨_, _, tryE_nx hA, _, _, _, rfl, e, r_law_row_here_, r_law_handed_⟩
          · replace e := e.trans ce
            replace z1 := z1.trans ce
            replace r_law_row_here_ := Rp.mono ce.g r_law_row_here_
            replace r_law_handed_ := Rp.mono ce.g r_law_handed_
            try dsimp only
            refine st_err e.s (sr_callX1p (se_var (i := 3) (d := law_handed_) rfl r_law_handed_)) (fun h => h) hm (fun hm => ?_) (fun j hm G2 H2 ce => by cases hm; exact hX1 _ rfl _ _ (z1.trans ce))
            refine st_drop2 (K := K) e.s (XE.se (xe_callX1p rvm (se_var (i := 3) (d := law_handed_) rfl r_law_handed_))) hm (fun u5 G1 H1 ce hm => ?_)
            replace e := e.trans ce
            replace z1 := z1.trans ce
            replace r_law_row_here_ := Rp.mono ce.g r_law_row_here_
            replace r_law_handed_ := Rp.mono ce.g r_law_handed_
            cases hm
            exact hN _ _ ⟨_, _, tryE_nx hA, _, _, _, rfl, e, r_law_row_here_, r_law_handed_⟩
theorem ok_stepped_X (T : Txt K mg) : FnOk P w K mg base (L2.CX P w) 3 T.a_stepped_ T.d_stepped_ ["row", "step"] (SpX2 K T.adr (RV K) Mir.stepped_X) := by
  refine T.F_stepped_.okX sc_stepped_ (SpX2.len rfl) (fun cdv A outer s He vs Q E hr h => ?_)
  obtain ⟨Ge, w_row_, w_step_, row_, step_, r, rfl, hs, r_row_, r_step_, hm, q⟩ := h
  have e : Ext Ge He Ge He := Ext.refl hs
  unfold Mir.stepped_X at hm
  refine ⟨_, (pss_cons (ps_expr (pe_callS (ok_must_be_row_X_2 T) (hr.mono (by decide)) (by rfl) T.g_must_be_row_ T.F_must_be_row_.kp (bind_must_be_row_ T) (fun σ => passAt (takes_of rfl rfl rfl rfl) σ) (pa_cons (pv 0) pa_nil))) (pss_cons ps_never (pss_cons ps_never (pss_cons ps_never (pss_cons ps_never (pss_one ps_never)))))), ?_⟩
  try dsimp only
  refine st_seq ?_
  refine st_err e.s (sr_callX1p (se_var (i := 0) (d := row_) rfl r_row_)) (fun h => h) hm (fun hm => ?_) (fun j hm G2 H2 ce => by cases hm; exact q (.inr _) _ _ (e.trans ce) rfl)
  refine st_drop2 (K := K) e.s (XE.se (xe_callX1p rvm (se_var (i := 0) (d := row_) rfl r_row_))) hm (fun u1 G1 H1 ce hm => ?_)
  replace e := e.trans ce
  replace r_row_ := Rp.mono ce.g r_row_
  replace r_step_ := Rp.mono ce.g r_step_
  try dsimp only
  cases hm
theorem ok_change_of_X (T : Txt K mg) : FnOk P w K mg base (L2.CX P w) 3 T.a_change_of_ T.d_change_of_ ["row", "step"] (SpX2 K T.adr (RV K) Mir.change_of_X) := by
  refine T.F_change_of_.okX sc_change_of_ (SpX2.len rfl) (fun cdv A outer s He vs Q E hr h => ?_)
  obtain ⟨Ge, w_row_, w_step_, row_, step_, r, rfl, hs, r_row_, r_step_, hm, q⟩ := h
  have e : Ext Ge He Ge He := Ext.refl hs
  unfold Mir.change_of_X at hm
  refine ⟨_, (pss_cons (ps_expr (pe_callS (ok_must_be_row_X_2 T) (hr.mono (by decide)) (by rfl) T.g_must_be_row_ T.F_must_be_row_.kp (bind_must_be_row_ T) (fun σ => passAt (takes_of rfl rfl rfl rfl) σ) (pa_cons (pv 0) pa_nil))) (pss_cons ps_never (pss_cons ps_never (pss_cons ps_never (pss_cons ps_never (pss_cons ps_never (pss_cons ps_never (pss_cons ps_never (pss_one ps_never))))))))), ?_⟩
  try dsimp only
  refine st_seq ?_
  refine st_err e.s (sr_callX1p (se_var (i := 0) (d := row_) rfl r_row_)) (fun h => h) hm (fun hm => ?_) (fun j hm G2 H2 ce => by cases hm; exact q (.inr _) _ _ (e.trans ce) rfl)
  refine st_drop2 (K := K) e.s (XE.se (xe_callX1p rvm (se_var (i := 0) (d := row_) rfl r_row_))) hm (fun u1 G1 H1 ce hm => ?_)
  replace e := e.trans ce
  replace r_row_ := Rp.mono ce.g r_row_
  replace r_step_ := Rp.mono ce.g r_step_
  try dsimp only
  cases hm
theorem ok_all_stepped_X (T : Txt K mg) : FnOk P w K mg base (L2.CX P w) 3 T.a_all_stepped_ T.d_all_stepped_ ["row", "steps"] (SpX2 K T.adr (RV K) Mir.all_stepped_X) := by
  refine T.F_all_stepped_.okX sc_all_stepped_ (SpX2.len rfl) (fun cdv A outer s He vs Q E hr h => ?_)
  obtain ⟨Ge, w_row_, w_steps_, row_, steps_, r, rfl, hs, r_row_, r_steps_, hm, q⟩ := h
  have e : Ext Ge He Ge He := Ext.refl hs
  unfold Mir.all_stepped_X at hm
  refine ⟨_, (pss_cons (ps_expr (pe_callS (ok_must_be_row_X_2 T) (hr.mono (by decide)) (by rfl) T.g_must_be_row_ T.F_must_be_row_.kp (bind_must_be_row_ T) (fun σ => passAt (takes_of rfl rfl rfl rfl) σ) (pa_cons (pv 0) pa_nil))) (pss_cons ps_never (pss_cons ps_never (pss_cons ps_never (pss_one ps_never))))), ?_⟩
  try dsimp only
  refine st_seq ?_
  refine st_err e.s (sr_callX1p (se_var (i := 0) (d := row_) rfl r_row_)) (fun h => h) hm (fun hm => ?_) (fun j hm G2 H2 ce => by cases hm; exact q (.inr _) _ _ (e.trans ce) rfl)
  refine st_drop2 (K := K) e.s (XE.se (xe_callX1p rvm (se_var (i := 0) (d := row_) rfl r_row_))) hm (fun u1 G1 H1 ce hm => ?_)
  replace e := e.trans ce
  replace r_row_ := Rp.mono ce.g r_row_
  replace r_steps_ := Rp.mono ce.g r_steps_
  try dsimp only
  cases hm
theorem ok_parts_ (T : Txt K mg) : FnOk P w K mg base CX0 2 T.a_parts_ T.d_parts_ ["k"] (Sp1 K (RF K) Mir.parts_) := by
  refine T.F_parts_.ok sc_parts_ (Sp1.len rfl) (fun cdv A outer s He vs Q E hr h => ?_)
  obtain ⟨Ge, w_k_, k_, r, rfl, hs, r_k_, hm, q⟩ := h
  have e : Ext Ge He Ge He := Ext.refl hs
  have r2_k_ : w_k_ = V.int k_ := r_k_
  subst r2_k_
  clear r_k_
  unfold Mir.parts_ at hm
  refine ⟨_, (pss_cons (ps_asg (pe_call (ok_tried_ T) (hr.mono (by decide)) (by rfl) T.g_tried_ T.F_tried_.kp (bind_tried_ T) .nil pass0 (pa_cons (pv 0) pa_nil)) (pg_tup rfl (pgs_cons (pg_name (i := 1) sc_parts_.nd rfl (Or.inl rfl)) (pgs_cons (pg_name (i := 2) sc_parts_.nd rfl (Or.inl rfl)) pgs_nil)))) (pss_cons (ps_if (pt_cmpR op_gt (pv 2) pe_int (nomark _)) (pss_one (ps_expr (pe_bm PySem.F.plainAttrs_list PySem.F.slot_list_append PySem.F.type_list_append mt_append (pv 1) (pa_cons (pe_tup (pa_cons (pv 2) (pa_cons pe_int pa_nil))) pa_nil)))) pss_nil) (pss_one (ps_ret (pv 1))))), ?_⟩
  try dsimp only
  refine st_seq ?_
  refine st_un2P (K := K) e.s (xe_call1p rpm (se_iv (i := 0) (d := k_) rfl)) hm (fun t1 p_found_ w_left_ G1 H1 ce r_found_ r_left_ hm => ?_)
  replace r_found_ := r_found_.up e.h
  replace e := e.trans ce
  have r_left_ : w_left_ = V.int t1.2 := r_left_; subst r_left_
  try dsimp only
  refine st_seq ?_
  obtain ⟨s2, hA, hm⟩ := bind_some hm
  refine st_join (fun σ H => ∃ G, ∃ (p_found_ : Addr), σ = [some (V.int k_), some (V.ref p_found_), some (V.int t1.2)] ∧ Ext Ge He G H ∧ Own K He G H p_found_ s2) (fun σ H h => ?_) (fun N hN => ?_)
  · obtain ⟨G, p_found_, es, e, r_found_⟩ := h
    subst es
    try dsimp only
    exact st_retO (K := K) rfl e r_found_ hm q
  · clear hm
    refine st_if e.s (st_test (K := K) (se_gtp (se_iv (i := 2) (d := t1.2) rfl) (se_int (n := 1)))) hA (fun G1 H1 ce hm => ?_) (fun G1 H1 ce hm => ?_)
    · replace e := e.trans ce
      replace r_found_ := r_found_.mono ce
      try dsimp only
      refine st_app (K := K) e.s rfl r_found_ (se_tup2p (se_iv (i := 2) (d := t1.2) rfl) (se_int (n := 1))) hm (fun found_ h_found_ G1 H1 ce ro g0 hm => ?_)
      replace e := e.trans ce
      replace e := e.put (o := h_found_) ro.z g0 (r_found_.mono ce).pn
      clear r_found_ g0
      have r_found_ := ro
      clear ro
      cases hm
      exact hN _ _ ⟨_, _, rfl, e, r_found_⟩
    · replace e := e.trans ce
      replace r_found_ := r_found_.mono ce
      refine st_next ?_
      cases hm
      exact hN _ _ ⟨_, _, rfl, e, r_found_⟩
theorem ok_places_of_ (T : Txt K mg) : FnOk P w K mg base CX0 3 T.a_places_of_ T.d_places_of_ ["numbers"] (Sp1 K (RF K) Mir.places_of_) := by
  refine T.F_places_of_.ok sc_places_of_ (Sp1.len rfl) (fun cdv A outer s He vs Q E hr h => ?_)
  obtain ⟨Ge, w_numbers_, numbers_, r, rfl, hs, r_numbers_, hm, q⟩ := h
  have e : Ext Ge He Ge He := Ext.refl hs
  unfold Mir.places_of_ at hm
  refine ⟨_, (pss_cons (ps_set (i := 1) sc_places_of_.nd rfl (Or.inl rfl) (pe_disp (pps_cons pe_int pe_bl (pps_cons pe_int pe_bl pps_nil)) rfl rfl (List.cons_ne_nil _ _) (Nat.le_of_ble_eq_true rfl))) (pss_cons (ps_for PassesOwn.never rfl (pi_list (pv 0)) (pg_name (i := 2) sc_places_of_.nd rfl (Or.inl rfl)) (pss_one (ps_for PassesOwn.never rfl (pi_list (pe_call (ok_parts_ T) (hr.mono (by decide)) (by rfl) T.g_parts_ T.F_parts_.kp (bind_parts_ T) .nil pass0 (pa_cons (pe_callB call_abs (by rfl) T.n_abs (by decide +kernel) (pa_cons (pv 2) pa_nil)) pa_nil))) (pg_tup rfl (pgs_cons (pg_name (i := 3) sc_places_of_.nd rfl (Or.inl rfl)) (pgs_cons (pg_name (i := 4) sc_places_of_.nd rfl (Or.inl rfl)) pgs_nil))) (pss_one (ps_dput (hu1 hr.units) (pv 1) (pv 3) pe_bl rfl))))) (pss_one (ps_ret (pe_callB (cr_sortedD rfl) (by rfl) T.n_sorted (by decide +kernel) (pa_cons (pv 1) pa_nil)))))), ?_⟩
  try dsimp only
  refine st_seq ?_
  refine st_setD (K := K) e.s (fd_disp (pe2_cons (pe2_cons pe2_nil)) (fun _ => (.cons ⟨rfl, rfl⟩ (.cons ⟨rfl, rfl⟩ .nil)))) hm (fun found_ p_found_ G1 H1 ce r_found_ hm => ?_)
  replace r_found_ := r_found_.up e.h
  replace e := e.trans ce
  replace r_numbers_ := Rp.mono ce.g r_numbers_
  try dsimp only
  refine st_seq ?_
  refine st_for (K := K) e.s (IB.ie (ib_list (se_var (i := 0) (d := numbers_) rfl r_numbers_))) hm (fun xs J Gs1 Hs1 ce it hm => ?_)
  replace e := e.trans ce
  replace r_numbers_ := Rp.mono ce.g r_numbers_
  replace r_found_ := r_found_.mono ce
  have sg1 : Same Gs1 Gs1 := Same.refl _
  obtain ⟨z1, hw, hm⟩ := bind_some hm
  refine lg_N (K := K) (fun (s1 : (DI Bool)) σ G H => ∃ (w_numbers_ : V) (p_found_ : Addr) (j2 : Option V) (j3 : Option V) (j4 : Option V), σ = [some w_numbers_, some (V.ref p_found_), j2, j3, j4] ∧ Ext Ge He G H ∧ Same Gs1 G ∧ rep K G w_numbers_ numbers_ ∧ OwnD K He G H p_found_ s1) it hw ⟨_, _, _, _, _, rfl, e, sg1, r_numbers_, r_found_⟩ (fun s1 σ G H h => ?_) (fun s1 i1 f w1 σ G H G1 H1 N hx h ce hv hm hN => ?_) (fun σ G H h => ?_)
  · obtain ⟨w_numbers_, p_found_, j2, j3, j4, es, e, sg1, r_numbers_, r_found_⟩ := h
    subst es
    exact ⟨sg1, e.s⟩
  · clear hw it
    obtain ⟨w_numbers_, p_found_, j2, j3, j4, es, e, sg1, r_numbers_, r_found_⟩ := h
    subst es
    replace e := e.trans ce
    replace sg1 := sg1.trans ce.g
    replace r_numbers_ := Rp.mono ce.g r_numbers_
    replace r_found_ := r_found_.mono ce
    refine g_name ?_
    have r_k_ := hv
    clear hv
    try dsimp only
    refine st_for (K := K) e.s (IB.ie (ib_list (FE.se (XE.fe (xe_call1 rfm (se_abs (se_prjp (f := dyI) prj_int (se_var (i := 2) (d := i1) rfl r_k_)))))))) hm (fun xs J Gs2 Hs2 ce it hm => ?_)
    replace e := e.trans ce
    replace sg1 := sg1.trans ce.g
    replace r_numbers_ := Rp.mono ce.g r_numbers_
    replace r_found_ := r_found_.mono ce
    replace r_k_ := Rp.mono ce.g r_k_
    have sg2 : Same Gs2 Gs2 := Same.refl _
    obtain ⟨z2, hw, hm⟩ := bind_some hm
    refine lg_N (K := K) (fun (s2 : (DI Bool)) σ G H => ∃ (w_numbers_ : V) (p_found_ : Addr) (w_k_ : V) (j3 : Option V) (j4 : Option V), σ = [some w_numbers_, some (V.ref p_found_), some w_k_, j3, j4] ∧ Ext Ge He G H ∧ Same Gs1 G ∧ Same Gs2 G ∧ rep K G w_numbers_ numbers_ ∧ OwnD K He G H p_found_ s2 ∧ rep K G w_k_ i1) it hw ⟨_, _, _, _, _, rfl, e, sg1, sg2, r_numbers_, r_found_, r_k_⟩ (fun s2 σ G H h => ?_) (fun s2 i2 f w2 σ G H G1 H1 N hx h ce hv hm hN => ?_) (fun σ G H h => ?_)
    · obtain ⟨w_numbers_, p_found_, w_k_, j3, j4, es, e, sg1, sg2, r_numbers_, r_found_, r_k_⟩ := h
      subst es
      exact ⟨sg2, e.s⟩
    · clear hw it
      obtain ⟨w_numbers_, p_found_, w_k_, j3, j4, es, e, sg1, sg2, r_numbers_, r_found_, r_k_⟩ := h
      subst es
      replace e := e.trans ce
      replace sg1 := sg1.trans ce.g
      replace sg2 := sg2.trans ce.g
      replace r_numbers_ := Rp.mono ce.g r_numbers_
      replace r_found_ := r_found_.mono ce
      replace r_k_ := Rp.mono ce.g r_k_
      refine g_two (K := K) e.s hv (fun w_prime_ w_often_ r_prime_ r_often_ => ?_)
      clear hv
      have r_prime_ : w_prime_ = V.int i2.1 := r_prime_; subst r_prime_
      have r_often_ : w_often_ = V.int i2.2 := r_often_; subst r_often_
      try dsimp only
      refine st_dput (K := K) e.s rfl r_found_ se_bl (se_iv (i := 3) (d := i2.1) rfl) hm (fun found_ h_found_ G1 H1 ce ro g0 hm => ?_)
      replace e := e.trans ce
      replace sg1 := sg1.trans ce.g
      replace sg2 := sg2.trans ce.g
      replace r_numbers_ := Rp.mono ce.g r_numbers_
      replace r_k_ := Rp.mono ce.g r_k_
      replace e := e.put (o := h_found_) ro.z g0 (r_found_.mono ce).pn
      clear r_found_ g0
      have r_found_ := ro
      clear ro
      cases hm
      exact hN _ _ _ ⟨_, _, _, _, _, rfl, e, sg1, sg2, r_numbers_, r_found_, r_k_⟩
    · clear hw it
      obtain ⟨w_numbers_, p_found_, w_k_, j3, j4, es, e, sg1, sg2, r_numbers_, r_found_, r_k_⟩ := h
      subst es
      clear sg2
      cases hm
      exact hN _ _ _ ⟨_, _, _, _, _, rfl, e, sg1, r_numbers_, r_found_⟩
  · clear hw it
    obtain ⟨w_numbers_, p_found_, j2, j3, j4, es, e, sg1, r_numbers_, r_found_⟩ := h
    subst es
    clear sg1
    try dsimp only
    obtain ⟨vs_found_, e, sg_found_, q_found_⟩ := r_found_.show e
    replace r_numbers_ := Rp.mono sg_found_ r_numbers_
    clear r_found_
    have r_found_ := q_found_
    clear q_found_
    exact st_ret (RR := RF K) e rfm (FE.xe (fe_sortedDp (se_var (i := 1) (d := z1) rfl r_found_))) hm q
theorem ok_split_at_ (T : Txt K mg) : FnOk P w K mg base CX0 1 T.a_split_at_ T.d_split_at_ ["k", "p"] (Sp2 K (RV K) Mir.split_at_) := by
  refine T.F_split_at_.ok sc_split_at_ (Sp2.len rfl) (fun cdv A outer s He vs Q E hr h => ?_)
  obtain ⟨Ge, w_k_, w_p_, k_, p_, r, rfl, hs, r_k_, r_p_, hm, q⟩ := h
  have e : Ext Ge He Ge He := Ext.refl hs
  have r2_p_ : w_p_ = V.int p_ := r_p_
  subst r2_p_
  clear r_p_
  unfold Mir.split_at_ at hm
  refine ⟨_, (pss_cons (ps_set (i := 2) sc_split_at_.nd rfl (Or.inl rfl) pe_int) (pss_cons (ps_while PassesOwn.never (pt_cmpR op_eq (pe_op op_modN (pv 0) (pv 1)) pe_int (nomark _)) (pss_cons (ps_set (i := 0) sc_split_at_.nd rfl (Or.inl rfl) (pe_op op_divZ (pv 0) (pv 1))) (pss_one (ps_aug (i := 2) sc_split_at_.nd rfl (Or.inl rfl) pe_int ip_add)))) (pss_one (ps_ret (pe_tup (pa_cons (pv 2) (pa_cons (pv 0) pa_nil))))))), ?_⟩
  try dsimp only
  refine st_seq ?_
  refine st_set (K := K) e.s (se_int (n := 0)) hm (fun often_ w_often_ G1 H1 ce r_often_ hm => ?_)
  replace e := e.trans ce
  replace r_k_ := Rp.mono ce.g r_k_
  have r_often_ : w_often_ = V.int often_ := r_often_; subst r_often_
  try dsimp only
  refine st_seq ?_
  obtain ⟨z1, hw, hm⟩ := bind_some hm
  refine st_whileN (fun (s1 : PyData × Int) σ G H => ∃ (w_k_ : V), σ = [some w_k_, some (V.int p_), some (V.int s1.2)] ∧ Ext Ge He G H ∧ rep K G w_k_ s1.1) hw ⟨_, rfl, e, r_k_⟩ (fun s1 σ G H h => ?_) (fun s1 σ G H h => ?_) (fun s1 f σ G H G1 H1 N h ce hc hm hN => ?_) (fun σ G H G1 H1 h ce => ?_)
  · obtain ⟨w_k_, es, e, r_k_⟩ := h
    subst es
    exact e.s
  · obtain ⟨w_k_, es, e, r_k_⟩ := h
    subst es
    exact (st_test (K := K) (se_eq (se_mod (se_prjp (f := dyI) prj_int (se_var (i := 0) (d := s1.1) rfl r_k_)) (se_iv (i := 1) (d := p_) rfl)) (se_int (n := 0))))
  · clear hw
    obtain ⟨w_k_, es, e, r_k_⟩ := h
    subst es
    replace e := e.trans ce
    replace r_k_ := Rp.mono ce.g r_k_
    try dsimp only
    refine st_seq ?_
    refine st_set (K := K) e.s (se_co (f := (PyOf.py : Int → PyData)) co_py (se_div (se_prjp (f := dyI) prj_int (se_var (i := 0) (d := s1.1) rfl r_k_)) (se_iv (i := 1) (d := p_) rfl))) hm (fun k_ w_k_ G1 H1 ce r_k_ hm => ?_)
    replace e := e.trans ce
    try dsimp only
    refine st_aug (K := K) e.s rfl (se_int (n := 1)) hm (fun y2 often_ G1 H1 ce hm => ?_)
    replace e := e.trans ce
    replace r_k_ := Rp.mono ce.g r_k_
    cases hm
    exact hN _ _ _ ⟨_, rfl, e, r_k_⟩
  · obtain ⟨w_k_, es, e, r_k_⟩ := h
    subst es
    replace e := e.trans ce
    replace r_k_ := Rp.mono ce.g r_k_
    try dsimp only
    exact st_ret (RR := RV K) e rvm (SE.xe (se_tup2p (se_iv (i := 2) (d := z1.2) rfl) (se_var (i := 0) (d := z1.1) rfl r_k_))) hm q
theorem ok_turns_at_two_ (T : Txt K mg) : FnOk P w K mg base CX0 2 T.a_turns_at_two_ T.d_turns_at_two_ ["a", "b"] (Sp2 K (RV K) Mir.turns_at_two_) := by
  refine T.F_turns_at_two_.ok sc_turns_at_two_ (Sp2.len rfl) (fun cdv A outer s He vs Q E hr h => ?_)
  obtain ⟨Ge, w_a_, w_b_, a_, b_, r, rfl, hs, r_a_, r_b_, hm, q⟩ := h
  have e : Ext Ge He Ge He := Ext.refl hs
  unfold Mir.turns_at_two_ at hm
  refine ⟨_, (pss_cons (ps_asg (pe_call (ok_split_at_ T) (hr.mono (by decide)) (by rfl) T.g_split_at_ T.F_split_at_.kp (bind_split_at_ T) .nil pass0 (pa_cons (pv 0) (pa_cons pe_int pa_nil))) (pg_tup rfl (pgs_cons (pg_name (i := 2) sc_turns_at_two_.nd rfl (Or.inl rfl)) (pgs_cons (pg_name (i := 3) sc_turns_at_two_.nd rfl (Or.inl rfl)) pgs_nil)))) (pss_cons (ps_asg (pe_call (ok_split_at_ T) (hr.mono (by decide)) (by rfl) T.g_split_at_ T.F_split_at_.kp (bind_split_at_ T) .nil pass0 (pa_cons (pv 1) (pa_cons pe_int pa_nil))) (pg_tup rfl (pgs_cons (pg_name (i := 4) sc_turns_at_two_.nd rfl (Or.inl rfl)) (pgs_cons (pg_name (i := 5) sc_turns_at_two_.nd rfl (Or.inl rfl)) pgs_nil)))) (pss_cons (ps_set (i := 6) sc_turns_at_two_.nd rfl (Or.inl rfl) (pe_op op_mulZ (pe_op op_fdivW (pe_op op_sub (pv 3) pe_int) pe_int) (pe_op op_fdivW (pe_op op_sub (pv 5) pe_int) pe_int))) (pss_cons (ps_aug (i := 6) sc_turns_at_two_.nd rfl (Or.inl rfl) (pe_op op_mulZ (pv 2) (pe_op op_fdivW (pe_op op_sub (pe_op op_mulZ (pv 5) (pv 5)) pe_int) pe_int)) ip_add) (pss_cons (ps_aug (i := 6) sc_turns_at_two_.nd rfl (Or.inl rfl) (pe_op op_mulZ (pv 4) (pe_op op_fdivW (pe_op op_sub (pe_op op_mulZ (pv 3) (pv 3)) pe_int) pe_int)) ip_add) (pss_one (ps_ret (pv 6)))))))), ?_⟩
  try dsimp only
  refine st_seq ?_
  refine st_un2 (K := K) e.s (XE.se (xe_call2p rvm (se_var (i := 0) (d := a_) rfl r_a_) (se_int (n := 2)))) hm (fun t1 w_alpha_ w_u_ G1 H1 ce r_alpha_ r_u_ hm => ?_)
  replace e := e.trans ce
  replace r_a_ := Rp.mono ce.g r_a_
  replace r_b_ := Rp.mono ce.g r_b_
  have r_alpha_ : w_alpha_ = V.int t1.1 := r_alpha_; subst r_alpha_
  try dsimp only
  refine st_seq ?_
  refine st_un2 (K := K) e.s (XE.se (xe_call2p rvm (se_var (i := 1) (d := b_) rfl r_b_) (se_int (n := 2)))) hm (fun t2 w_beta_ w_v_ G1 H1 ce r_beta_ r_v_ hm => ?_)
  replace e := e.trans ce
  replace r_a_ := Rp.mono ce.g r_a_
  replace r_b_ := Rp.mono ce.g r_b_
  replace r_u_ := Rp.mono ce.g r_u_
  have r_beta_ : w_beta_ = V.int t2.1 := r_beta_; subst r_beta_
  try dsimp only
  refine st_seq ?_
  refine st_set (K := K) e.s (se_mul (se_divc (se_sub (se_prjp (f := dyI) prj_int (se_var (i := 3) (d := t1.2) rfl r_u_)) (se_int (n := 1))) (by decide)) (se_divc (se_sub (se_prjp (f := dyI) prj_int (se_var (i := 5) (d := t2.2) rfl r_v_)) (se_int (n := 1))) (by decide))) hm (fun turns_ w_turns_ G1 H1 ce r_turns_ hm => ?_)
  replace e := e.trans ce
  replace r_a_ := Rp.mono ce.g r_a_
  replace r_b_ := Rp.mono ce.g r_b_
  replace r_u_ := Rp.mono ce.g r_u_
  replace r_v_ := Rp.mono ce.g r_v_
  have r_turns_ : w_turns_ = V.int turns_ := r_turns_; subst r_turns_
  try dsimp only
  refine st_seq ?_
  refine st_aug (K := K) e.s rfl (se_mul (se_iv (i := 2) (d := t1.1) rfl) (se_divc (se_sub (se_mul (se_prjp (f := dyI) prj_int (se_var (i := 5) (d := t2.2) rfl r_v_)) (se_prjp (f := dyI) prj_int (se_var (i := 5) (d := t2.2) rfl r_v_))) (se_int (n := 1))) (by decide))) hm (fun y3 turns_ G1 H1 ce hm => ?_)
  replace e := e.trans ce
  replace r_a_ := Rp.mono ce.g r_a_
  replace r_b_ := Rp.mono ce.g r_b_
  replace r_u_ := Rp.mono ce.g r_u_
  replace r_v_ := Rp.mono ce.g r_v_
  try dsimp only
  refine st_seq ?_
  refine st_aug (K := K) e.s rfl (se_mul (se_iv (i := 4) (d := t2.1) rfl) (se_divc (se_sub (se_mul (se_prjp (f := dyI) prj_int (se_var (i := 3) (d := t1.2) rfl r_u_)) (se_prjp (f := dyI) prj_int (se_var (i := 3) (d := t1.2) rfl r_u_))) (se_int (n := 1))) (by decide))) hm (fun y5 turns_ G1 H1 ce hm => ?_)
  replace e := e.trans ce
  replace r_a_ := Rp.mono ce.g r_a_
  replace r_b_ := Rp.mono ce.g r_b_
  replace r_u_ := Rp.mono ce.g r_u_
  replace r_v_ := Rp.mono ce.g r_v_
  try dsimp only
  exact st_ret (RR := RV K) e rvm (SE.xe (se_iv (i := 6) (d := turns_) rfl)) hm q
theorem ok_power_by_ (T : Txt K mg) : FnOk P w K mg base CX0 1 T.a_power_by_ T.d_power_by_ ["k", "often", "m"] (Sp3 K (RV K) Mir.power_by_) := by
  refine T.F_power_by_.ok sc_power_by_ (Sp3.len rfl) (fun cdv A outer s He vs Q E hr h => ?_)
  obtain ⟨Ge, w_k_, w_often_, w_m_, k_, often_, m_, r, rfl, hs, r_k_, r_often_, r_m_, hm, q⟩ := h
  have e : Ext Ge He Ge He := Ext.refl hs
  have r2_often_ : w_often_ = V.int often_ := r_often_
  subst r2_often_
  clear r_often_
  have r2_m_ : w_m_ = V.int m_ := r_m_
  subst r2_m_
  clear r_m_
  unfold Mir.power_by_ at hm
  refine ⟨_, (pss_cons (ps_set (i := 3) sc_power_by_.nd rfl (Or.inl rfl) (pe_op op_modN pe_int (pv 2))) (pss_cons (ps_set (i := 4) sc_power_by_.nd rfl (Or.inl rfl) (pe_op op_modN (pv 0) (pv 2))) (pss_cons (ps_while PassesOwn.never (pt_cmpR op_gt (pv 1) pe_int (nomark _)) (pss_cons (ps_if (pt_cmpR op_eq (pe_op op_mod (pv 1) pe_int) pe_int (nomark _)) (pss_one (ps_set (i := 3) sc_power_by_.nd rfl (Or.inl rfl) (pe_op op_modN (pe_op op_mulZ (pv 3) (pv 4)) (pv 2)))) pss_nil) (pss_cons (ps_set (i := 4) sc_power_by_.nd rfl (Or.inl rfl) (pe_op op_modN (pe_op op_mulZ (pv 4) (pv 4)) (pv 2))) (pss_one (ps_set (i := 1) sc_power_by_.nd rfl (Or.inl rfl) (pe_op op_fdivW (pv 1) pe_int)))))) (pss_one (ps_ret (pv 3)))))), ?_⟩
  try dsimp only
  refine st_seq ?_
  refine st_set (K := K) e.s (se_modp (se_int (n := 1)) (se_iv (i := 2) (d := m_) rfl)) hm (fun found_ w_found_ G1 H1 ce r_found_ hm => ?_)
  replace e := e.trans ce
  replace r_k_ := Rp.mono ce.g r_k_
  have r_found_ : w_found_ = V.int found_ := r_found_; subst r_found_
  try dsimp only
  refine st_seq ?_
  refine st_set (K := K) e.s (se_mod (se_prjp (f := dyI) prj_int (se_var (i := 0) (d := k_) rfl r_k_)) (se_iv (i := 2) (d := m_) rfl)) hm (fun base_ w_base_ G1 H1 ce r_base_ hm => ?_)
  replace e := e.trans ce
  replace r_k_ := Rp.mono ce.g r_k_
  have r_base_ : w_base_ = V.int base_ := r_base_; subst r_base_
  try dsimp only
  refine st_seq ?_
  obtain ⟨z1, hw, hm⟩ := bind_some hm
  refine st_whileN (fun (s1 : Int × Int × Int) σ G H => ∃ (w_k_ : V), σ = [some w_k_, some (V.int s1.1), some (V.int m_), some (V.int s1.2.1), some (V.int s1.2.2)] ∧ Ext Ge He G H ∧ rep K G w_k_ k_) hw ⟨_, rfl, e, r_k_⟩ (fun s1 σ G H h => ?_) (fun s1 σ G H h => ?_) (fun s1 f σ G H G1 H1 N h ce hc hm hN => ?_) (fun σ G H G1 H1 h ce => ?_)
  · obtain ⟨w_k_, es, e, r_k_⟩ := h
    subst es
    exact e.s
  · obtain ⟨w_k_, es, e, r_k_⟩ := h
    subst es
    exact (st_test (K := K) (se_gtp (se_iv (i := 1) (d := s1.1) rfl) (se_int (n := 0))))
  · clear hw
    obtain ⟨w_k_, es, e, r_k_⟩ := h
    subst es
    replace e := e.trans ce
    replace r_k_ := Rp.mono ce.g r_k_
    try dsimp only
    refine st_seq ?_
    obtain ⟨s2, hA, hm⟩ := bind_some hm
    refine st_join (fun σ H => ∃ G, ∃ (w_k_ : V), σ = [some w_k_, some (V.int s1.1), some (V.int m_), some (V.int s2), some (V.int s1.2.2)] ∧ Ext Ge He G H ∧ rep K G w_k_ k_) (fun σ H h => ?_) (fun N hN => ?_)
    · obtain ⟨G, w_k_, es, e, r_k_⟩ := h
      subst es
      try dsimp only
      refine st_seq ?_
      refine st_set (K := K) e.s (se_mod (se_mulp (se_iv (i := 4) (d := s1.2.2) rfl) (se_iv (i := 4) (d := s1.2.2) rfl)) (se_iv (i := 2) (d := m_) rfl)) hm (fun base_ w_base_ G1 H1 ce r_base_ hm => ?_)
      replace e := e.trans ce
      replace r_k_ := Rp.mono ce.g r_k_
      have r_base_ : w_base_ = V.int base_ := r_base_; subst r_base_
      try dsimp only
      refine st_set (K := K) e.s (se_divcp (se_iv (i := 1) (d := s1.1) rfl) (by decide)) hm (fun often_ w_often_ G1 H1 ce r_often_ hm => ?_)
      replace e := e.trans ce
      replace r_k_ := Rp.mono ce.g r_k_
      have r_often_ : w_often_ = V.int often_ := r_often_; subst r_often_
      cases hm
      exact hN _ _ _ ⟨_, rfl, e, r_k_⟩
    · clear hm
      refine st_if e.s (st_test (K := K) (se_eqp (se_modcp (se_iv (i := 1) (d := s1.1) rfl) (by decide)) (se_int (n := 1)))) hA (fun G1 H1 ce hm => ?_) (fun G1 H1 ce hm => ?_)
      · replace e := e.trans ce
        replace r_k_ := Rp.mono ce.g r_k_
        try dsimp only
        refine st_set (K := K) e.s (se_mod (se_mulp (se_iv (i := 3) (d := s1.2.1) rfl) (se_iv (i := 4) (d := s1.2.2) rfl)) (se_iv (i := 2) (d := m_) rfl)) hm (fun found_ w_found_ G1 H1 ce r_found_ hm => ?_)
        replace e := e.trans ce
        replace r_k_ := Rp.mono ce.g r_k_
        have r_found_ : w_found_ = V.int found_ := r_found_; subst r_found_
        cases hm
        exact hN _ _ ⟨_, _, rfl, e, r_k_⟩
      · replace e := e.trans ce
        replace r_k_ := Rp.mono ce.g r_k_
        refine st_next ?_
        cases hm
        exact hN _ _ ⟨_, _, rfl, e, r_k_⟩
  · obtain ⟨w_k_, es, e, r_k_⟩ := h
    subst es
    replace e := e.trans ce
    replace r_k_ := Rp.mono ce.g r_k_
    try dsimp only
    exact st_ret (RR := RV K) e rvm (SE.xe (se_iv (i := 3) (d := z1.2.1) rfl)) hm q
theorem ok_square_by_ (T : Txt K mg) : FnOk P w K mg base CX0 2 T.a_square_by_ T.d_square_by_ ["k", "p"] (Sp2 K (RV K) Mir.square_by_) := by
  refine T.F_square_by_.ok sc_square_by_ (Sp2.len rfl) (fun cdv A outer s He vs Q E hr h => ?_)
  obtain ⟨Ge, w_k_, w_p_, k_, p_, r, rfl, hs, r_k_, r_p_, hm, q⟩ := h
  have e : Ext Ge He Ge He := Ext.refl hs
  have r2_p_ : w_p_ = V.int p_ := r_p_
  subst r2_p_
  clear r_p_
  unfold Mir.square_by_ at hm
  refine ⟨_, (pss_cons (ps_if (pt_cmpR op_eq (pe_op op_modN (pv 0) (pv 1)) pe_int (nomark _)) (pss_one (ps_ret pe_int)) pss_nil) (pss_cons (ps_if (PW.pt (pw_or (pt_cmpR op_eq (pv 1) pe_int (nomark _)) (pw_or1 (pt_cmpR op_eq (pe_call (ok_power_by_ T) (hr.mono (by decide)) (by rfl) T.g_power_by_ T.F_power_by_.kp (bind_power_by_ T) .nil pass0 (pa_cons (pv 0) (pa_cons (pe_op op_fdivW (pe_op op_sub (pv 1) pe_int) pe_int) (pa_cons (pv 1) pa_nil)))) pe_int (nomark _))))) (pss_one (ps_ret pe_int)) pss_nil) (pss_one (ps_ret (pe_un un_neg pe_int))))), ?_⟩
  try dsimp only
  refine st_seq ?_
  refine st_if e.s (st_test (K := K) (se_eq (se_mod (se_prjp (f := dyI) prj_int (se_var (i := 0) (d := k_) rfl r_k_)) (se_iv (i := 1) (d := p_) rfl)) (se_int (n := 0)))) hm (fun G1 H1 ce hm => ?_) (fun G1 H1 ce hm => ?_)
  · replace e := e.trans ce
    replace r_k_ := Rp.mono ce.g r_k_
    try dsimp only
    exact st_ret (RR := RV K) e rvm (SE.xe (se_int (n := 0))) hm q
  · replace e := e.trans ce
    replace r_k_ := Rp.mono ce.g r_k_
    refine st_next ?_
    try dsimp only
    refine st_seq ?_
    refine st_if e.s (st_or (st_test (K := K) (se_eqp (se_iv (i := 1) (d := p_) rfl) (se_int (n := 2)))) (st_test (K := K) (se_eq (XE.se (xe_call3p rvm (se_var (i := 0) (d := k_) rfl r_k_) (se_divcp (se_subp (se_iv (i := 1) (d := p_) rfl) (se_int (n := 1))) (by decide)) (se_iv (i := 1) (d := p_) rfl))) (se_int (n := 1))))) hm (fun G1 H1 ce hm => ?_) (fun G1 H1 ce hm => ?_)
    · replace e := e.trans ce
      replace r_k_ := Rp.mono ce.g r_k_
      try dsimp only
      exact st_ret (RR := RV K) e rvm (SE.xe (se_int (n := 1))) hm q
    · replace e := e.trans ce
      replace r_k_ := Rp.mono ce.g r_k_
      refine st_next ?_
      try dsimp only
      exact st_ret (RR := RV K) e rvm (SE.xe (se_negp (se_int (n := 1)))) hm q
theorem ok_turns_at_odd_ (T : Txt K mg) : FnOk P w K mg base CX0 3 T.a_turns_at_odd_ T.d_turns_at_odd_ ["a", "b", "p"] (Sp3 K (RV K) Mir.turns_at_odd_) := by
  refine T.F_turns_at_odd_.ok sc_turns_at_odd_ (Sp3.len rfl) (fun cdv A outer s He vs Q E hr h => ?_)
  obtain ⟨Ge, w_a_, w_b_, w_p_, a_, b_, p_, r, rfl, hs, r_a_, r_b_, r_p_, hm, q⟩ := h
  have e : Ext Ge He Ge He := Ext.refl hs
  have r2_p_ : w_p_ = V.int p_ := r_p_
  subst r2_p_
  clear r_p_
  unfold Mir.turns_at_odd_ at hm
  refine ⟨_, (pss_cons (ps_asg (pe_call (ok_split_at_ T) (hr.mono (by decide)) (by rfl) T.g_split_at_ T.F_split_at_.kp (bind_split_at_ T) .nil pass0 (pa_cons (pv 0) (pa_cons (pv 2) pa_nil))) (pg_tup rfl (pgs_cons (pg_name (i := 3) sc_turns_at_odd_.nd rfl (Or.inl rfl)) (pgs_cons (pg_name (i := 4) sc_turns_at_odd_.nd rfl (Or.inl rfl)) pgs_nil)))) (pss_cons (ps_asg (pe_call (ok_split_at_ T) (hr.mono (by decide)) (by rfl) T.g_split_at_ T.F_split_at_.kp (bind_split_at_ T) .nil pass0 (pa_cons (pv 1) (pa_cons (pv 2) pa_nil))) (pg_tup rfl (pgs_cons (pg_name (i := 5) sc_turns_at_odd_.nd rfl (Or.inl rfl)) (pgs_cons (pg_name (i := 6) sc_turns_at_odd_.nd rfl (Or.inl rfl)) pgs_nil)))) (pss_cons (ps_set (i := 7) sc_turns_at_odd_.nd rfl (Or.inl rfl) (pe_op op_mulZ (pe_op op_mulZ (pv 3) (pv 5)) (pe_op op_fdivW (pe_op op_sub (pv 2) pe_int) pe_int))) (pss_cons (ps_if (pt_cmpR op_eq (pe_call (ok_square_by_ T) (hr.mono (by decide)) (by rfl) T.g_square_by_ T.F_square_by_.kp (bind_square_by_ T) .nil pass0 (pa_cons (pv 4) (pa_cons (pv 2) pa_nil))) (pe_un un_neg pe_int) (nomark _)) (pss_one (ps_aug (i := 7) sc_turns_at_odd_.nd rfl (Or.inl rfl) (pv 5) ip_add)) pss_nil) (pss_cons (ps_if (pt_cmpR op_eq (pe_call (ok_square_by_ T) (hr.mono (by decide)) (by rfl) T.g_square_by_ T.F_square_by_.kp (bind_square_by_ T) .nil pass0 (pa_cons (pv 6) (pa_cons (pv 2) pa_nil))) (pe_un un_neg pe_int) (nomark _)) (pss_one (ps_aug (i := 7) sc_turns_at_odd_.nd rfl (Or.inl rfl) (pv 3) ip_add)) pss_nil) (pss_one (ps_ret (pv 7)))))))), ?_⟩
  try dsimp only
  refine st_seq ?_
  refine st_un2 (K := K) e.s (XE.se (xe_call2p rvm (se_var (i := 0) (d := a_) rfl r_a_) (se_iv (i := 2) (d := p_) rfl))) hm (fun t1 w_alpha_ w_u_ G1 H1 ce r_alpha_ r_u_ hm => ?_)
  replace e := e.trans ce
  replace r_a_ := Rp.mono ce.g r_a_
  replace r_b_ := Rp.mono ce.g r_b_
  have r_alpha_ : w_alpha_ = V.int t1.1 := r_alpha_; subst r_alpha_
  try dsimp only
  refine st_seq ?_
  refine st_un2 (K := K) e.s (XE.se (xe_call2p rvm (se_var (i := 1) (d := b_) rfl r_b_) (se_iv (i := 2) (d := p_) rfl))) hm (fun t2 w_beta_ w_v_ G1 H1 ce r_beta_ r_v_ hm => ?_)
  replace e := e.trans ce
  replace r_a_ := Rp.mono ce.g r_a_
  replace r_b_ := Rp.mono ce.g r_b_
  replace r_u_ := Rp.mono ce.g r_u_
  have r_beta_ : w_beta_ = V.int t2.1 := r_beta_; subst r_beta_
  try dsimp only
  refine st_seq ?_
  refine st_set (K := K) e.s (se_mul (se_mulp (se_iv (i := 3) (d := t1.1) rfl) (se_iv (i := 5) (d := t2.1) rfl)) (se_divcp (se_subp (se_iv (i := 2) (d := p_) rfl) (se_int (n := 1))) (by decide))) hm (fun turns_ w_turns_ G1 H1 ce r_turns_ hm => ?_)
  replace e := e.trans ce
  replace r_a_ := Rp.mono ce.g r_a_
  replace r_b_ := Rp.mono ce.g r_b_
  replace r_u_ := Rp.mono ce.g r_u_
  replace r_v_ := Rp.mono ce.g r_v_
  have r_turns_ : w_turns_ = V.int turns_ := r_turns_; subst r_turns_
  try dsimp only
  refine st_seq ?_
  obtain ⟨s3, hA, hm⟩ := bind_some hm
  refine st_join (fun σ H => ∃ G, ∃ (w_a_ : V) (w_b_ : V) (w_u_ : V) (w_v_ : V), σ = [some w_a_, some w_b_, some (V.int p_), some (V.int t1.1), some w_u_, some (V.int t2.1), some w_v_, some (V.int s3)] ∧ Ext Ge He G H ∧ rep K G w_a_ a_ ∧ rep K G w_b_ b_ ∧ rep K G w_u_ t1.2 ∧ rep K G w_v_ t2.2) (fun σ H h => ?_) (fun N hN => ?_)
  · obtain ⟨G, w_a_, w_b_, w_u_, w_v_, es, e, r_a_, r_b_, r_u_, r_v_⟩ := h
    subst es
    try dsimp only
    refine st_seq ?_
    obtain ⟨s6, hA, hm⟩ := bind_some hm
    refine st_join (fun σ H => ∃ G, ∃ (w_a_ : V) (w_b_ : V) (w_u_ : V) (w_v_ : V), σ = [some w_a_, some w_b_, some (V.int p_), some (V.int t1.1), some w_u_, some (V.int t2.1), some w_v_, some (V.int s6)] ∧ Ext Ge He G H ∧ rep K G w_a_ a_ ∧ rep K G w_b_ b_ ∧ rep K G w_u_ t1.2 ∧ rep K G w_v_ t2.2) (fun σ H h => ?_) (fun N hN => ?_)
    · obtain ⟨G, w_a_, w_b_, w_u_, w_v_, es, e, r_a_, r_b_, r_u_, r_v_⟩ := h
      subst es
      try dsimp only
      exact st_ret (RR := RV K) e rvm (SE.xe (se_iv (i := 7) (d := s6) rfl)) hm q
    · clear hm
      refine st_if e.s (st_test (K := K) (se_eq (XE.se (xe_call2p rvm (se_var (i := 6) (d := t2.2) rfl r_v_) (se_iv (i := 2) (d := p_) rfl))) (se_negp (se_int (n := 1))))) hA (fun G1 H1 ce hm => ?_) (fun G1 H1 ce hm => ?_)
      · replace e := e.trans ce
        replace r_a_ := Rp.mono ce.g r_a_
        replace r_b_ := Rp.mono ce.g r_b_
        replace r_u_ := Rp.mono ce.g r_u_
        replace r_v_ := Rp.mono ce.g r_v_
        try dsimp only
        refine st_aug (K := K) e.s rfl (se_iv (i := 3) (d := t1.1) rfl) hm (fun y7 turns_ G1 H1 ce hm => ?_)
        replace e := e.trans ce
        replace r_a_ := Rp.mono ce.g r_a_
        replace r_b_ := Rp.mono ce.g r_b_
        replace r_u_ := Rp.mono ce.g r_u_
        replace r_v_ := Rp.mono ce.g r_v_
        cases hm
        exact hN _ _ ⟨_, _, _, _, _, rfl, e, r_a_, r_b_, r_u_, r_v_⟩
      · replace e := e.trans ce
        replace r_a_ := Rp.mono ce.g r_a_
        replace r_b_ := Rp.mono ce.g r_b_
        replace r_u_ := Rp.mono ce.g r_u_
        replace r_v_ := Rp.mono ce.g r_v_
        refine st_next ?_
        cases hm
        exact hN _ _ ⟨_, _, _, _, _, rfl, e, r_a_, r_b_, r_u_, r_v_⟩
  · clear hm
    refine st_if e.s (st_test (K := K) (se_eq (XE.se (xe_call2p rvm (se_var (i := 4) (d := t1.2) rfl r_u_) (se_iv (i := 2) (d := p_) rfl))) (se_negp (se_int (n := 1))))) hA (fun G1 H1 ce hm => ?_) (fun G1 H1 ce hm => ?_)
    · replace e := e.trans ce
      replace r_a_ := Rp.mono ce.g r_a_
      replace r_b_ := Rp.mono ce.g r_b_
      replace r_u_ := Rp.mono ce.g r_u_
      replace r_v_ := Rp.mono ce.g r_v_
      try dsimp only
      refine st_aug (K := K) e.s rfl (se_iv (i := 5) (d := t2.1) rfl) hm (fun y4 turns_ G1 H1 ce hm => ?_)
      replace e := e.trans ce
      replace r_a_ := Rp.mono ce.g r_a_
      replace r_b_ := Rp.mono ce.g r_b_
      replace r_u_ := Rp.mono ce.g r_u_
      replace r_v_ := Rp.mono ce.g r_v_
      cases hm
      exact hN _ _ ⟨_, _, _, _, _, rfl, e, r_a_, r_b_, r_u_, r_v_⟩
    · replace e := e.trans ce
      replace r_a_ := Rp.mono ce.g r_a_
      replace r_b_ := Rp.mono ce.g r_b_
      replace r_u_ := Rp.mono ce.g r_u_
      replace r_v_ := Rp.mono ce.g r_v_
      refine st_next ?_
      cases hm
      exact hN _ _ ⟨_, _, _, _, _, rfl, e, r_a_, r_b_, r_u_, r_v_⟩
theorem ok_says_ (T : Txt K mg) : FnOk P w K mg base CX0 4 T.a_says_ T.d_says_ ["a", "b", "p"] (Sp3 K (RV K) Mir.says_) := by
  refine T.F_says_.ok sc_says_ (Sp3.len rfl) (fun cdv A outer s He vs Q E hr h => ?_)
  obtain ⟨Ge, w_a_, w_b_, w_p_, a_, b_, p_, r, rfl, hs, r_a_, r_b_, r_p_, hm, q⟩ := h
  have e : Ext Ge He Ge He := Ext.refl hs
  have r2_p_ : w_p_ = V.int p_ := r_p_
  subst r2_p_
  clear r_p_
  unfold Mir.says_ at hm
  refine ⟨_, (pss_cons (ps_if (pt_cmpR op_eq (pv 2) pe_int (nomark _)) (pss_one (ps_ret (pe_or (pe_cmpR op_gt (pv 0) pe_int (nomark _)) (pe_one (pe_cmpR op_gt (pv 1) pe_int (nomark _)))))) pss_nil) (pss_cons (ps_if (pt_cmpR op_eq (pv 2) pe_int (nomark _)) (pss_one (ps_ret (pe_cmpR op_eq (pe_op op_mod (pe_call (ok_turns_at_two_ T) (hr.mono (by decide)) (by rfl) T.g_turns_at_two_ T.F_turns_at_two_.kp (bind_turns_at_two_ T) .nil pass0 (pa_cons (pv 0) (pa_cons (pv 1) pa_nil))) pe_int) pe_int (nomark _)))) pss_nil) (pss_one (ps_ret (pe_cmpR op_eq (pe_op op_mod (pe_call (ok_turns_at_odd_ T) (hr.mono (by decide)) (by rfl) T.g_turns_at_odd_ T.F_turns_at_odd_.kp (bind_turns_at_odd_ T) .nil pass0 (pa_cons (pv 0) (pa_cons (pv 1) (pa_cons (pv 2) pa_nil)))) pe_int) pe_int (nomark _)))))), ?_⟩
  try dsimp only
  refine st_seq ?_
  refine st_if e.s (st_test (K := K) (se_eqp (se_iv (i := 2) (d := p_) rfl) (se_int (n := 0)))) hm (fun G1 H1 ce hm => ?_) (fun G1 H1 ce hm => ?_)
  · replace e := e.trans ce
    replace r_a_ := Rp.mono ce.g r_a_
    replace r_b_ := Rp.mono ce.g r_b_
    try dsimp only
    exact st_ret (RR := RV K) e rvm (SE.xe (se_or (se_gt (se_prjp (f := dyI) prj_int (se_var (i := 0) (d := a_) rfl r_a_)) (se_int (n := 0))) (se_gt (se_prjp (f := dyI) prj_int (se_var (i := 1) (d := b_) rfl r_b_)) (se_int (n := 0))))) hm q
  · replace e := e.trans ce
    replace r_a_ := Rp.mono ce.g r_a_
    replace r_b_ := Rp.mono ce.g r_b_
    refine st_next ?_
    try dsimp only
    refine st_seq ?_
    refine st_if e.s (st_test (K := K) (se_eqp (se_iv (i := 2) (d := p_) rfl) (se_int (n := 2)))) hm (fun G1 H1 ce hm => ?_) (fun G1 H1 ce hm => ?_)
    · replace e := e.trans ce
      replace r_a_ := Rp.mono ce.g r_a_
      replace r_b_ := Rp.mono ce.g r_b_
      try dsimp only
      exact st_ret (RR := RV K) e rvm (SE.xe (se_eq (se_modc (XE.se (xe_call2p rvm (se_var (i := 0) (d := a_) rfl r_a_) (se_var (i := 1) (d := b_) rfl r_b_))) (by decide)) (se_int (n := 0)))) hm q
    · replace e := e.trans ce
      replace r_a_ := Rp.mono ce.g r_a_
      replace r_b_ := Rp.mono ce.g r_b_
      refine st_next ?_
      try dsimp only
      exact st_ret (RR := RV K) e rvm (SE.xe (se_eq (se_modc (XE.se (xe_call3p rvm (se_var (i := 0) (d := a_) rfl r_a_) (se_var (i := 1) (d := b_) rfl r_b_) (se_iv (i := 2) (d := p_) rfl))) (by decide)) (se_int (n := 0)))) hm q
theorem ok_is_odd_at_ (T : Txt K mg) : FnOk P w K mg base CX0 5 T.a_is_odd_at_ T.d_is_odd_at_ ["row", "p"] (Sp2 K (RV K) Mir.is_odd_at_) := by
  refine T.F_is_odd_at_.ok sc_is_odd_at_ (Sp2.len rfl) (fun cdv A outer s He vs Q E hr h => ?_)
  obtain ⟨Ge, w_row_, w_p_, row_, p_, r, rfl, hs, r_row_, r_p_, hm, q⟩ := h
  have e : Ext Ge He Ge He := Ext.refl hs
  have r2_p_ : w_p_ = V.int p_ := r_p_
  subst r2_p_
  clear r_p_
  unfold Mir.is_odd_at_ at hm
  refine ⟨_, (pss_cons (ps_set (i := 2) sc_is_odd_at_.nd rfl (Or.inl rfl) pe_int) (pss_cons (ps_for PassesOwn.never rfl (pi_range1 (by rfl) T.n_range (pa_cons (pe_callB call_len_seq (by rfl) T.n_len (by decide +kernel) (pa_cons (pv 0) pa_nil)) pa_nil)) (pg_name (i := 3) sc_is_odd_at_.nd rfl (Or.inl rfl)) (pss_one (ps_for PassesOwn.never rfl (pi_range2 (by rfl) T.n_range (pa_cons (pe_op op_add (pv 3) pe_int) (pa_cons (pe_callB call_len_seq (by rfl) T.n_len (by decide +kernel) (pa_cons (pv 0) pa_nil)) pa_nil))) (pg_name (i := 4) sc_is_odd_at_.nd rfl (Or.inl rfl)) (pss_one (ps_if (pt_not (pt_val (pe_call (ok_says_ T) (hr.mono (by decide)) (by rfl) T.g_says_ T.F_says_.kp (bind_says_ T) .nil pass0 (pa_cons (pe_ix ix_list (pv 0) (pv 3) (fun _ _ => rfl)) (pa_cons (pe_ix ix_list (pv 0) (pv 4) (fun _ _ => rfl)) (pa_cons (pv 1) pa_nil)))))) (pss_one (ps_aug (i := 2) sc_is_odd_at_.nd rfl (Or.inl rfl) pe_int ip_add)) pss_nil))))) (pss_one (ps_ret (pe_cmpR op_eq (pe_op op_mod (pv 2) pe_int) pe_int (nomark _)))))), ?_⟩
  try dsimp only
  refine st_seq ?_
  refine st_set (K := K) e.s (se_int (n := 0)) hm (fun noes_ w_noes_ G1 H1 ce r_noes_ hm => ?_)
  replace e := e.trans ce
  replace r_row_ := Rp.mono ce.g r_row_
  have r_noes_ : w_noes_ = V.int noes_ := r_noes_; subst r_noes_
  try dsimp only
  refine st_seq ?_
  refine st_for (K := K) e.s (ie_range1p (se_lenp (se_var (i := 0) (d := row_) rfl r_row_))) hm (fun xs J Gs1 Hs1 ce it hm => ?_)
  replace e := e.trans ce
  replace r_row_ := Rp.mono ce.g r_row_
  have sg1 : Same Gs1 Gs1 := Same.refl _
  obtain ⟨z1, hw, hm⟩ := bind_some hm
  refine lg_N (K := K) (fun (s1 : Int) σ G H => ∃ (w_row_ : V) (j3 : Option V) (j4 : Option V), σ = [some w_row_, some (V.int p_), some (V.int s1), j3, j4] ∧ Ext Ge He G H ∧ Same Gs1 G ∧ rep K G w_row_ row_) it hw ⟨_, _, _, rfl, e, sg1, r_row_⟩ (fun s1 σ G H h => ?_) (fun s1 i1 f w1 σ G H G1 H1 N hx h ce hv hm hN => ?_) (fun σ G H h => ?_)
  · obtain ⟨w_row_, j3, j4, es, e, sg1, r_row_⟩ := h
    subst es
    exact ⟨sg1, e.s⟩
  · clear hw it
    obtain ⟨w_row_, j3, j4, es, e, sg1, r_row_⟩ := h
    subst es
    replace e := e.trans ce
    replace sg1 := sg1.trans ce.g
    replace r_row_ := Rp.mono ce.g r_row_
    refine g_name ?_
    have hv2 : w1 = V.int i1 := hv
    subst hv2
    clear hv
    try dsimp only
    refine st_for (K := K) e.s (ie_range2p (se_addp (se_iv (i := 3) (d := i1) rfl) (se_int (n := 1))) (se_lenp (se_var (i := 0) (d := row_) rfl r_row_))) hm (fun xs J Gs2 Hs2 ce it hm => ?_)
    replace e := e.trans ce
    replace sg1 := sg1.trans ce.g
    replace r_row_ := Rp.mono ce.g r_row_
    have sg2 : Same Gs2 Gs2 := Same.refl _
    obtain ⟨z2, hw, hm⟩ := bind_some hm
    refine lg_N (K := K) (fun (s2 : Int) σ G H => ∃ (w_row_ : V) (j4 : Option V), σ = [some w_row_, some (V.int p_), some (V.int s2), some (V.int i1), j4] ∧ Ext Ge He G H ∧ Same Gs1 G ∧ Same Gs2 G ∧ rep K G w_row_ row_) it hw ⟨_, _, rfl, e, sg1, sg2, r_row_⟩ (fun s2 σ G H h => ?_) (fun s2 i2 f w2 σ G H G1 H1 N hx h ce hv hm hN => ?_) (fun σ G H h => ?_)
    · obtain ⟨w_row_, j4, es, e, sg1, sg2, r_row_⟩ := h
      subst es
      exact ⟨sg2, e.s⟩
    · clear hw it
      obtain ⟨w_row_, j4, es, e, sg1, sg2, r_row_⟩ := h
      subst es
      replace e := e.trans ce
      replace sg1 := sg1.trans ce.g
      replace sg2 := sg2.trans ce.g
      replace r_row_ := Rp.mono ce.g r_row_
      refine g_name ?_
      have hv2 : w2 = V.int i2 := hv
      subst hv2
      clear hv
      try dsimp only
      refine st_if e.s (st_not (st_val (K := K) (XE.se (xe_call3 rvm (se_ixp (se_var (i := 0) (d := row_) rfl r_row_) (se_iv (i := 3) (d := i1) rfl)) (se_ixp (se_var (i := 0) (d := row_) rfl r_row_) (se_iv (i := 4) (d := i2) rfl)) (se_iv (i := 1) (d := p_) rfl))))) hm (fun G1 H1 ce hm => ?_) (fun G1 H1 ce hm => ?_)
      · replace e := e.trans ce
        replace sg1 := sg1.trans ce.g
        replace sg2 := sg2.trans ce.g
        replace r_row_ := Rp.mono ce.g r_row_
        try dsimp only
        refine st_aug (K := K) e.s rfl (se_int (n := 1)) hm (fun y3 noes_ G1 H1 ce hm => ?_)
        replace e := e.trans ce
        replace sg1 := sg1.trans ce.g
        replace sg2 := sg2.trans ce.g
        replace r_row_ := Rp.mono ce.g r_row_
        cases hm
        exact hN _ _ _ ⟨_, _, rfl, e, sg1, sg2, r_row_⟩
      · replace e := e.trans ce
        replace sg1 := sg1.trans ce.g
        replace sg2 := sg2.trans ce.g
        replace r_row_ := Rp.mono ce.g r_row_
        refine st_next ?_
        cases hm
        exact hN _ _ _ ⟨_, _, rfl, e, sg1, sg2, r_row_⟩
    · clear hw it
      obtain ⟨w_row_, j4, es, e, sg1, sg2, r_row_⟩ := h
      subst es
      clear sg2
      cases hm
      exact hN _ _ _ ⟨_, _, _, rfl, e, sg1, r_row_⟩
  · clear hw it
    obtain ⟨w_row_, j3, j4, es, e, sg1, r_row_⟩ := h
    subst es
    clear sg1
    try dsimp only
    exact st_ret (RR := RV K) e rvm (SE.xe (se_eqp (se_modcp (se_iv (i := 2) (d := z1) rfl) (by decide)) (se_int (n := 1)))) hm q
theorem ok_noes_of_X (T : Txt K mg) : FnOk P w K mg base (L2.CX P w) 6 T.a_noes_of_ T.d_noes_of_ ["row"] (SpX1 K T.adr (RF K) Mir.noes_of_X) := by
  refine T.F_noes_of_.okX sc_noes_of_ (SpX1.len rfl) (fun cdv A outer s He vs Q E hr h => ?_)
  obtain ⟨Ge, w_row_, row_, r, rfl, hs, r_row_, hm, q⟩ := h
  have e : Ext Ge He Ge He := Ext.refl hs
  unfold Mir.noes_of_X at hm
  refine ⟨_, (pss_cons (ps_expr (pe_callS (ok_must_be_row_X_2 T) (hr.mono (by decide)) (by rfl) T.g_must_be_row_ T.F_must_be_row_.kp (bind_must_be_row_ T) (fun σ => passAt (takes_of rfl rfl rfl rfl) σ) (pa_cons (pv 0) pa_nil))) (pss_one (ps_ret (pe_lc (own := [("p", 1)]) (by rfl) sc_noes_of_.nd (pi_list (pe_call (ok_places_of_ T) (hr.mono (by decide)) (by rfl) T.g_places_of_ T.F_places_of_.kp (bind_places_of_ T) .nil pass0 (pa_cons (pv 0) pa_nil))) (blkOk_by (own := [("p", 1)]) (N := N_noes_of_) (sc := defScope s_noes_of_) (by decide +kernel)) (fun _ _ _ _ _ => pg_name (i := 1) sc_noes_of_.nd rfl (Or.inl rfl)) (fun _ _ _ _ _ => pts_one (pt_val (pe_call (ok_is_odd_at_ T) (hr.mono (by decide)) (by rfl) T.g_is_odd_at_ T.F_is_odd_at_.kp (bind_is_odd_at_ T) .nil pass0 (pa_cons (pv 0) (pa_cons (pv 1) pa_nil))))) (fun _ _ _ _ _ => (pv 1)))))), ?_⟩
  try dsimp only
  refine st_seq ?_
  refine st_err e.s (sr_callX1p (se_var (i := 0) (d := row_) rfl r_row_)) (fun h => h) hm (fun hm => ?_) (fun j hm G2 H2 ce => by cases hm; exact q (.inr _) _ _ (e.trans ce) rfl)
  refine st_drop2 (K := K) e.s (XE.se (xe_callX1p rvm (se_var (i := 0) (d := row_) rfl r_row_))) hm (fun u1 G1 H1 ce hm => ?_)
  replace e := e.trans ce
  replace r_row_ := Rp.mono ce.g r_row_
  try dsimp only
  exact st_retX (RR := RF K) e rfm (FE.xe (fe_lc _ (ib_list (FE.se (XE.fe (xe_call1p rfm (se_var (i := 0) (d := row_) rfl r_row_))))) tg_name (fun p_ s2 G2 H2 ce2 ⟨w2, es2, h2⟩ => by subst es2; have h2 : w2 = V.int p_ := h2; subst h2; exact (st_val (K := K) (XE.se (xe_call2p rvm (se_var (i := 0) (d := row_) rfl (Rp.mono ce2.g r_row_)) (se_iv (i := 1) (d := p_) rfl))))) (fun p_ s2 G2 H2 ce2 ⟨w2, es2, h2⟩ => by subst es2; have h2 : w2 = V.int p_ := h2; subst h2; exact (se_iv (i := 1) (d := p_) rfl)))) hm q
theorem ok_how_many_pairs_X (T : Txt K mg) : FnOk P w K mg base (L2.CX P w) 7 T.a_how_many_pairs_ T.d_how_many_pairs_ ["row"] (SpX1 K T.adr (RV K) Mir.how_many_pairs_X) := by
  refine T.F_how_many_pairs_.okX sc_how_many_pairs_ (SpX1.len rfl) (fun cdv A outer s He vs Q E hr h => ?_)
  obtain ⟨Ge, w_row_, row_, r, rfl, hs, r_row_, hm, q⟩ := h
  have e : Ext Ge He Ge He := Ext.refl hs
  unfold Mir.how_many_pairs_X at hm
  refine ⟨_, (pss_cons (ps_set (i := 1) sc_how_many_pairs_.nd rfl (Or.inl rfl) (pe_callS (ok_noes_of_X T) (hr.mono (by decide)) (by rfl) T.g_noes_of_ T.F_noes_of_.kp (bind_noes_of_ T) (fun σ => passAt (takes_of rfl rfl rfl rfl) σ) (pa_cons (pv 0) pa_nil))) (pss_cons ps_never (pss_cons ps_never (pss_cons ps_never (pss_cons ps_never (pss_cons ps_never (pss_cons ps_never (pss_one ps_never)))))))), ?_⟩
  try dsimp only
  refine st_seq ?_
  refine st_err e.s (sr_callX1p (se_var (i := 0) (d := row_) rfl r_row_)) (fun h => h) hm (fun hm => ?_) (fun j hm G2 H2 ce => by cases hm; exact q (.inr _) _ _ (e.trans ce) rfl)
  refine st_set (K := K) e.s (FE.se (XE.fe (xe_callX1p rfm (se_var (i := 0) (d := row_) rfl r_row_)))) hm (fun noes_ w_noes_ G1 H1 ce r_noes_ hm => ?_)
  replace e := e.trans ce
  replace r_row_ := Rp.mono ce.g r_row_
  try dsimp only
  cases hm
theorem ok_must_be_free_X (T : Txt K mg) : FnOk P w K mg base (L2.CX P w) 6 T.a_must_be_free_ T.d_must_be_free_ ["row", "most"] (SpX2 K T.adr (RV K) Mir.must_be_free_X) := by
  refine T.F_must_be_free_.okX sc_must_be_free_ (SpX2.len rfl) (fun cdv A outer s He vs Q E hr h => ?_)
  obtain ⟨Ge, w_row_, w_most_, row_, most_, r, rfl, hs, r_row_, r_most_, hm, q⟩ := h
  have e : Ext Ge He Ge He := Ext.refl hs
  have r2_most_ : w_most_ = V.int most_ := r_most_
  subst r2_most_
  clear r_most_
  unfold Mir.must_be_free_X at hm
  refine ⟨_, (pss_cons (ps_expr (pe_callS (ok_must_be_small_X_2 T) (hr.mono (by decide)) (by rfl) T.g_must_be_small_ T.F_must_be_small_.kp (bind_must_be_small_ T) (fun σ => passAt (takes_of rfl rfl rfl rfl) σ) (pa_cons (pv 0) pa_nil))) (pss_cons ps_never (pss_one ps_never))), ?_⟩
  try dsimp only
  refine st_seq ?_
  refine st_err e.s (sr_callX1p (se_var (i := 0) (d := row_) rfl r_row_)) (fun h => h) hm (fun hm => ?_) (fun j hm G2 H2 ce => by cases hm; exact q (.inr _) _ _ (e.trans ce) rfl)
  refine st_drop2 (K := K) e.s (XE.se (xe_callX1p rvm (se_var (i := 0) (d := row_) rfl r_row_))) hm (fun u1 G1 H1 ce hm => ?_)
  replace e := e.trans ce
  replace r_row_ := Rp.mono ce.g r_row_
  try dsimp only
  cases hm
theorem ok_parted_X (T : Txt K mg) : FnOk P w K mg base (L2.CX P w) 7 T.a_parted_ T.d_parted_ ["row"] (SpX1 K T.adr (RV K) Mir.parted_X) := by
  refine T.F_parted_.okX sc_parted_ (SpX1.len rfl) (fun cdv A outer s He vs Q E hr h => ?_)
  obtain ⟨Ge, w_row_, row_, r, rfl, hs, r_row_, hm, q⟩ := h
  have e : Ext Ge He Ge He := Ext.refl hs
  unfold Mir.parted_X at hm
  refine ⟨_, (pss_cons (ps_expr (pe_callS (ok_must_be_free_X T) (hr.mono (by decide)) (by rfl) T.g_must_be_free_ T.F_must_be_free_.kp (bind_must_be_free_ T) (fun σ => passAt (takes_of rfl rfl rfl rfl) σ) (pa_cons (pv 0) (pa_cons pe_int pa_nil)))) (pss_cons ps_never (pss_cons ps_never (pss_cons ps_never (pss_cons ps_never (pss_one ps_never)))))), ?_⟩
  try dsimp only
  refine st_seq ?_
  refine st_err e.s (sr_callX2p (se_var (i := 0) (d := row_) rfl r_row_) (se_int (n := 4))) (fun h => h) hm (fun hm => ?_) (fun j hm G2 H2 ce => by cases hm; exact q (.inr _) _ _ (e.trans ce) rfl)
  refine st_drop2 (K := K) e.s (XE.se (xe_callX2p rvm (se_var (i := 0) (d := row_) rfl r_row_) (se_int (n := 4)))) hm (fun u1 G1 H1 ce hm => ?_)
  replace e := e.trans ce
  replace r_row_ := Rp.mono ce.g r_row_
  try dsimp only
  cases hm
theorem ok_leading_X (T : Txt K mg) : FnOk P w K mg base (L2.CX P w) 3 T.a_leading_ T.d_leading_ ["one", "other"] (SpX2 K T.adr (RV K) Mir.leading_X) := by
  refine T.F_leading_.okX sc_leading_ (SpX2.len rfl) (fun cdv A outer s He vs Q E hr h => ?_)
  obtain ⟨Ge, w_one_, w_other_, one_, other_, r, rfl, hs, r_one_, r_other_, hm, q⟩ := h
  have e : Ext Ge He Ge He := Ext.refl hs
  unfold Mir.leading_X at hm
  refine ⟨_, (pss_cons (ps_expr (pe_callS (ok_must_be_row_X_2 T) (hr.mono (by decide)) (by rfl) T.g_must_be_row_ T.F_must_be_row_.kp (bind_must_be_row_ T) (fun σ => passAt (takes_of rfl rfl rfl rfl) σ) (pa_cons (pv 0) pa_nil))) (pss_cons (ps_expr (pe_callS (ok_must_be_row_X T) (hr.mono (by decide)) (by rfl) T.g_must_be_row_ T.F_must_be_row_.kp (bind_must_be_row_ T) (fun σ => passAt (takes_of rfl rfl rfl rfl) σ) (pa_cons (pv 1) pa_nil))) (pss_cons ps_never (pss_cons ps_never (pss_cons ps_never (pss_cons ps_never (pss_cons ps_never (pss_one ps_never)))))))), ?_⟩
  try dsimp only
  refine st_seq ?_
  refine st_err e.s (sr_callX1p (se_var (i := 0) (d := one_) rfl r_one_)) (fun h => h) hm (fun hm => ?_) (fun j hm G2 H2 ce => by cases hm; exact q (.inr _) _ _ (e.trans ce) rfl)
  refine st_drop2 (K := K) e.s (XE.se (xe_callX1p rvm (se_var (i := 0) (d := one_) rfl r_one_))) hm (fun u1 G1 H1 ce hm => ?_)
  replace e := e.trans ce
  replace r_one_ := Rp.mono ce.g r_one_
  replace r_other_ := Rp.mono ce.g r_other_
  try dsimp only
  refine st_seq ?_
  refine st_err e.s (sr_callX1p (se_var (i := 1) (d := other_) rfl r_other_)) (fun h => h) hm (fun hm => ?_) (fun j hm G2 H2 ce => by cases hm; exact q (.inr _) _ _ (e.trans ce) rfl)
  refine st_drop2 (K := K) e.s (XE.se (xe_callX1p rvm (se_var (i := 1) (d := other_) rfl r_other_))) hm (fun u2 G1 H1 ce hm => ?_)
  replace e := e.trans ce
  replace r_one_ := Rp.mono ce.g r_one_
  replace r_other_ := Rp.mono ce.g r_other_
  try dsimp only
  cases hm
theorem ok_leading_X_2 (T : Txt K mg) : FnOk P w K mg base (L2.CX P w) 3 T.a_leading_ T.d_leading_ ["one", "other"] (SpX2 K T.adr (RV K) Mir.leading_X_2) := by
  refine T.F_leading_.okX sc_leading_ (SpX2.len rfl) (fun cdv A outer s He vs Q E hr h => ?_)
  obtain ⟨Ge, w_one_, w_other_, one_, other_, r, rfl, hs, r_one_, r_other_, hm, q⟩ := h
  have e : Ext Ge He Ge He := Ext.refl hs
  unfold Mir.leading_X_2 at hm
  refine ⟨_, (pss_cons (ps_expr (pe_callS (ok_must_be_row_X T) (hr.mono (by decide)) (by rfl) T.g_must_be_row_ T.F_must_be_row_.kp (bind_must_be_row_ T) (fun σ => passAt (takes_of rfl rfl rfl rfl) σ) (pa_cons (pv 0) pa_nil))) (pss_cons (ps_expr (pe_callS (ok_must_be_row_X_2 T) (hr.mono (by decide)) (by rfl) T.g_must_be_row_ T.F_must_be_row_.kp (bind_must_be_row_ T) (fun σ => passAt (takes_of rfl rfl rfl rfl) σ) (pa_cons (pv 1) pa_nil))) (pss_cons ps_never (pss_cons ps_never (pss_cons ps_never (pss_cons ps_never (pss_cons ps_never (pss_one ps_never)))))))), ?_⟩
  try dsimp only
  refine st_seq ?_
  refine st_err e.s (sr_callX1p (se_var (i := 0) (d := one_) rfl r_one_)) (fun h => h) hm (fun hm => ?_) (fun j hm G2 H2 ce => by cases hm; exact q (.inr _) _ _ (e.trans ce) rfl)
  refine st_drop2 (K := K) e.s (XE.se (xe_callX1p rvm (se_var (i := 0) (d := one_) rfl r_one_))) hm (fun u1 G1 H1 ce hm => ?_)
  replace e := e.trans ce
  replace r_one_ := Rp.mono ce.g r_one_
  replace r_other_ := Rp.mono ce.g r_other_
  try dsimp only
  refine st_seq ?_
  refine st_err e.s (sr_callX1p (se_var (i := 1) (d := other_) rfl r_other_)) (fun h => h) hm (fun hm => ?_) (fun j hm G2 H2 ce => by cases hm; exact q (.inr _) _ _ (e.trans ce) rfl)
  refine st_drop2 (K := K) e.s (XE.se (xe_callX1p rvm (se_var (i := 1) (d := other_) rfl r_other_))) hm (fun u2 G1 H1 ce hm => ?_)
  replace e := e.trans ce
  replace r_one_ := Rp.mono ce.g r_one_
  replace r_other_ := Rp.mono ce.g r_other_
  try dsimp only
  cases hm
theorem ok_places_of__2 (T : Txt K mg) : FnOk P w K mg base CX0 3 T.a_places_of_ T.d_places_of_ ["numbers"] (Sp1 K (RF K) Mir.places_of__2) := by
  refine T.F_places_of_.ok sc_places_of_ (Sp1.len rfl) (fun cdv A outer s He vs Q E hr h => ?_)
  obtain ⟨Ge, w_numbers_, numbers_, r, rfl, hs, r_numbers_, hm, q⟩ := h
  have e : Ext Ge He Ge He := Ext.refl hs
  unfold Mir.places_of__2 at hm
  refine ⟨_, (pss_cons (ps_set (i := 1) sc_places_of_.nd rfl (Or.inl rfl) (pe_disp (pps_cons pe_int pe_bl (pps_cons pe_int pe_bl pps_nil)) rfl rfl (List.cons_ne_nil _ _) (Nat.le_of_ble_eq_true rfl))) (pss_cons (ps_for PassesOwn.never rfl (pi_list (pv 0)) (pg_name (i := 2) sc_places_of_.nd rfl (Or.inl rfl)) (pss_one (ps_for PassesOwn.never rfl (pi_list (pe_call (ok_parts_ T) (hr.mono (by decide)) (by rfl) T.g_parts_ T.F_parts_.kp (bind_parts_ T) .nil pass0 (pa_cons (pe_callB call_abs (by rfl) T.n_abs (by decide +kernel) (pa_cons (pv 2) pa_nil)) pa_nil))) (pg_tup rfl (pgs_cons (pg_name (i := 3) sc_places_of_.nd rfl (Or.inl rfl)) (pgs_cons (pg_name (i := 4) sc_places_of_.nd rfl (Or.inl rfl)) pgs_nil))) (pss_one (ps_dput (hu1 hr.units) (pv 1) (pv 3) pe_bl rfl))))) (pss_one (ps_ret (pe_callB (cr_sortedD rfl) (by rfl) T.n_sorted (by decide +kernel) (pa_cons (pv 1) pa_nil)))))), ?_⟩
  try dsimp only
  refine st_seq ?_
  refine st_setD (K := K) e.s (fd_disp (pe2_cons (pe2_cons pe2_nil)) (fun _ => (.cons ⟨rfl, rfl⟩ (.cons ⟨rfl, rfl⟩ .nil)))) hm (fun found_ p_found_ G1 H1 ce r_found_ hm => ?_)
  replace r_found_ := r_found_.up e.h
  replace e := e.trans ce
  replace r_numbers_ := Rp.mono ce.g r_numbers_
  try dsimp only
  refine st_seq ?_
  refine st_for (K := K) e.s (IB.ie (ib_list (se_var (i := 0) (d := numbers_) rfl r_numbers_))) hm (fun xs J Gs1 Hs1 ce it hm => ?_)
  replace e := e.trans ce
  replace r_numbers_ := Rp.mono ce.g r_numbers_
  replace r_found_ := r_found_.mono ce
  have sg1 : Same Gs1 Gs1 := Same.refl _
  obtain ⟨z1, hw, hm⟩ := bind_some hm
  refine lg_N (K := K) (fun (s1 : (DI Bool)) σ G H => ∃ (w_numbers_ : V) (p_found_ : Addr) (j2 : Option V) (j3 : Option V) (j4 : Option V), σ = [some w_numbers_, some (V.ref p_found_), j2, j3, j4] ∧ Ext Ge He G H ∧ Same Gs1 G ∧ rep K G w_numbers_ numbers_ ∧ OwnD K He G H p_found_ s1) it hw ⟨_, _, _, _, _, rfl, e, sg1, r_numbers_, r_found_⟩ (fun s1 σ G H h => ?_) (fun s1 i1 f w1 σ G H G1 H1 N hx h ce hv hm hN => ?_) (fun σ G H h => ?_)
  · obtain ⟨w_numbers_, p_found_, j2, j3, j4, es, e, sg1, r_numbers_, r_found_⟩ := h
    subst es
    exact ⟨sg1, e.s⟩
  · clear hw it
    obtain ⟨w_numbers_, p_found_, j2, j3, j4, es, e, sg1, r_numbers_, r_found_⟩ := h
    subst es
    replace e := e.trans ce
    replace sg1 := sg1.trans ce.g
    replace r_numbers_ := Rp.mono ce.g r_numbers_
    replace r_found_ := r_found_.mono ce
    refine g_name ?_
    have hv2 : w1 = V.int i1 := hv
    subst hv2
    clear hv
    try dsimp only
    refine st_for (K := K) e.s (IB.ie (ib_list (FE.se (XE.fe (xe_call1p rfm (se_absp (se_iv (i := 2) (d := i1) rfl))))))) hm (fun xs J Gs2 Hs2 ce it hm => ?_)
    replace e := e.trans ce
    replace sg1 := sg1.trans ce.g
    replace r_numbers_ := Rp.mono ce.g r_numbers_
    replace r_found_ := r_found_.mono ce
    have sg2 : Same Gs2 Gs2 := Same.refl _
    obtain ⟨z2, hw, hm⟩ := bind_some hm
    refine lg_N (K := K) (fun (s2 : (DI Bool)) σ G H => ∃ (w_numbers_ : V) (p_found_ : Addr) (j3 : Option V) (j4 : Option V), σ = [some w_numbers_, some (V.ref p_found_), some (V.int i1), j3, j4] ∧ Ext Ge He G H ∧ Same Gs1 G ∧ Same Gs2 G ∧ rep K G w_numbers_ numbers_ ∧ OwnD K He G H p_found_ s2) it hw ⟨_, _, _, _, rfl, e, sg1, sg2, r_numbers_, r_found_⟩ (fun s2 σ G H h => ?_) (fun s2 i2 f w2 σ G H G1 H1 N hx h ce hv hm hN => ?_) (fun σ G H h => ?_)
    · obtain ⟨w_numbers_, p_found_, j3, j4, es, e, sg1, sg2, r_numbers_, r_found_⟩ := h
      subst es
      exact ⟨sg2, e.s⟩
    · clear hw it
      obtain ⟨w_numbers_, p_found_, j3, j4, es, e, sg1, sg2, r_numbers_, r_found_⟩ := h
      subst es
      replace e := e.trans ce
      replace sg1 := sg1.trans ce.g
      replace sg2 := sg2.trans ce.g
      replace r_numbers_ := Rp.mono ce.g r_numbers_
      replace r_found_ := r_found_.mono ce
      refine g_two (K := K) e.s hv (fun w_prime_ w_often_ r_prime_ r_often_ => ?_)
      clear hv
      have r_prime_ : w_prime_ = V.int i2.1 := r_prime_; subst r_prime_
      have r_often_ : w_often_ = V.int i2.2 := r_often_; subst r_often_
      try dsimp only
      refine st_dput (K := K) e.s rfl r_found_ se_bl (se_iv (i := 3) (d := i2.1) rfl) hm (fun found_ h_found_ G1 H1 ce ro g0 hm => ?_)
      replace e := e.trans ce
      replace sg1 := sg1.trans ce.g
      replace sg2 := sg2.trans ce.g
      replace r_numbers_ := Rp.mono ce.g r_numbers_
      replace e := e.put (o := h_found_) ro.z g0 (r_found_.mono ce).pn
      clear r_found_ g0
      have r_found_ := ro
      clear ro
      cases hm
      exact hN _ _ _ ⟨_, _, _, _, rfl, e, sg1, sg2, r_numbers_, r_found_⟩
    · clear hw it
      obtain ⟨w_numbers_, p_found_, j3, j4, es, e, sg1, sg2, r_numbers_, r_found_⟩ := h
      subst es
      clear sg2
      cases hm
      exact hN _ _ _ ⟨_, _, _, _, _, rfl, e, sg1, r_numbers_, r_found_⟩
  · clear hw it
    obtain ⟨w_numbers_, p_found_, j2, j3, j4, es, e, sg1, r_numbers_, r_found_⟩ := h
    subst es
    clear sg1
    try dsimp only
    obtain ⟨vs_found_, e, sg_found_, q_found_⟩ := r_found_.show e
    replace r_numbers_ := Rp.mono sg_found_ r_numbers_
    clear r_found_
    have r_found_ := q_found_
    clear q_found_
    exact st_ret (RR := RF K) e rfm (FE.xe (fe_sortedDp (se_var (i := 1) (d := z1) rfl r_found_))) hm q
theorem ok_split_at__2 (T : Txt K mg) : FnOk P w K mg base CX0 1 T.a_split_at_ T.d_split_at_ ["k", "p"] (Sp2 K (RV K) Mir.split_at__2) := by
  refine T.F_split_at_.ok sc_split_at_ (Sp2.len rfl) (fun cdv A outer s He vs Q E hr h => ?_)
  obtain ⟨Ge, w_k_, w_p_, k_, p_, r, rfl, hs, r_k_, r_p_, hm, q⟩ := h
  have e : Ext Ge He Ge He := Ext.refl hs
  have r2_k_ : w_k_ = V.int k_ := r_k_
  subst r2_k_
  clear r_k_
  have r2_p_ : w_p_ = V.int p_ := r_p_
  subst r2_p_
  clear r_p_
  unfold Mir.split_at__2 at hm
  refine ⟨_, (pss_cons (ps_set (i := 2) sc_split_at_.nd rfl (Or.inl rfl) pe_int) (pss_cons (ps_while PassesOwn.never (pt_cmpR op_eq (pe_op op_modN (pv 0) (pv 1)) pe_int (nomark _)) (pss_cons (ps_set (i := 0) sc_split_at_.nd rfl (Or.inl rfl) (pe_op op_divZ (pv 0) (pv 1))) (pss_one (ps_aug (i := 2) sc_split_at_.nd rfl (Or.inl rfl) pe_int ip_add)))) (pss_one (ps_ret (pe_tup (pa_cons (pv 2) (pa_cons (pv 0) pa_nil))))))), ?_⟩
  try dsimp only
  refine st_seq ?_
  refine st_set (K := K) e.s (se_int (n := 0)) hm (fun often_ w_often_ G1 H1 ce r_often_ hm => ?_)
  replace e := e.trans ce
  have r_often_ : w_often_ = V.int often_ := r_often_; subst r_often_
  try dsimp only
  refine st_seq ?_
  obtain ⟨z1, hw, hm⟩ := bind_some hm
  refine st_whileN (fun (s1 : Int × Int) σ G H => σ = [some (V.int s1.1), some (V.int p_), some (V.int s1.2)] ∧ Ext Ge He G H) hw ⟨rfl, e⟩ (fun s1 σ G H h => ?_) (fun s1 σ G H h => ?_) (fun s1 f σ G H G1 H1 N h ce hc hm hN => ?_) (fun σ G H G1 H1 h ce => ?_)
  · obtain ⟨es, e⟩ := h
    subst es
    exact e.s
  · obtain ⟨es, e⟩ := h
    subst es
    exact (st_test (K := K) (se_eq (se_modp (se_iv (i := 0) (d := s1.1) rfl) (se_iv (i := 1) (d := p_) rfl)) (se_int (n := 0))))
  · clear hw
    obtain ⟨es, e⟩ := h
    subst es
    replace e := e.trans ce
    try dsimp only
    refine st_seq ?_
    refine st_set (K := K) e.s (se_divp (se_iv (i := 0) (d := s1.1) rfl) (se_iv (i := 1) (d := p_) rfl)) hm (fun k_ w_k_ G1 H1 ce r_k_ hm => ?_)
    replace e := e.trans ce
    have r_k_ : w_k_ = V.int k_ := r_k_; subst r_k_
    try dsimp only
    refine st_aug (K := K) e.s rfl (se_int (n := 1)) hm (fun y2 often_ G1 H1 ce hm => ?_)
    replace e := e.trans ce
    cases hm
    exact hN _ _ _ ⟨rfl, e⟩
  · obtain ⟨es, e⟩ := h
    subst es
    replace e := e.trans ce
    try dsimp only
    exact st_ret (RR := RV K) e rvm (SE.xe (se_tup2p (se_iv (i := 2) (d := z1.2) rfl) (se_iv (i := 0) (d := z1.1) rfl))) hm q
theorem ok_turns_at_two__2 (T : Txt K mg) : FnOk P w K mg base CX0 2 T.a_turns_at_two_ T.d_turns_at_two_ ["a", "b"] (Sp2 K (RV K) Mir.turns_at_two__2) := by
  refine T.F_turns_at_two_.ok sc_turns_at_two_ (Sp2.len rfl) (fun cdv A outer s He vs Q E hr h => ?_)
  obtain ⟨Ge, w_a_, w_b_, a_, b_, r, rfl, hs, r_a_, r_b_, hm, q⟩ := h
  have e : Ext Ge He Ge He := Ext.refl hs
  have r2_a_ : w_a_ = V.int a_ := r_a_
  subst r2_a_
  clear r_a_
  have r2_b_ : w_b_ = V.int b_ := r_b_
  subst r2_b_
  clear r_b_
  unfold Mir.turns_at_two__2 at hm
  refine ⟨_, (pss_cons (ps_asg (pe_call (ok_split_at__2 T) (hr.mono (by decide)) (by rfl) T.g_split_at_ T.F_split_at_.kp (bind_split_at_ T) .nil pass0 (pa_cons (pv 0) (pa_cons pe_int pa_nil))) (pg_tup rfl (pgs_cons (pg_name (i := 2) sc_turns_at_two_.nd rfl (Or.inl rfl)) (pgs_cons (pg_name (i := 3) sc_turns_at_two_.nd rfl (Or.inl rfl)) pgs_nil)))) (pss_cons (ps_asg (pe_call (ok_split_at__2 T) (hr.mono (by decide)) (by rfl) T.g_split_at_ T.F_split_at_.kp (bind_split_at_ T) .nil pass0 (pa_cons (pv 1) (pa_cons pe_int pa_nil))) (pg_tup rfl (pgs_cons (pg_name (i := 4) sc_turns_at_two_.nd rfl (Or.inl rfl)) (pgs_cons (pg_name (i := 5) sc_turns_at_two_.nd rfl (Or.inl rfl)) pgs_nil)))) (pss_cons (ps_set (i := 6) sc_turns_at_two_.nd rfl (Or.inl rfl) (pe_op op_mulZ (pe_op op_fdivW (pe_op op_sub (pv 3) pe_int) pe_int) (pe_op op_fdivW (pe_op op_sub (pv 5) pe_int) pe_int))) (pss_cons (ps_aug (i := 6) sc_turns_at_two_.nd rfl (Or.inl rfl) (pe_op op_mulZ (pv 2) (pe_op op_fdivW (pe_op op_sub (pe_op op_mulZ (pv 5) (pv 5)) pe_int) pe_int)) ip_add) (pss_cons (ps_aug (i := 6) sc_turns_at_two_.nd rfl (Or.inl rfl) (pe_op op_mulZ (pv 4) (pe_op op_fdivW (pe_op op_sub (pe_op op_mulZ (pv 3) (pv 3)) pe_int) pe_int)) ip_add) (pss_one (ps_ret (pv 6)))))))), ?_⟩
  try dsimp only
  refine st_seq ?_
  refine st_un2 (K := K) e.s (XE.se (xe_call2p rvm (se_iv (i := 0) (d := a_) rfl) (se_int (n := 2)))) hm (fun t1 w_alpha_ w_u_ G1 H1 ce r_alpha_ r_u_ hm => ?_)
  replace e := e.trans ce
  have r_alpha_ : w_alpha_ = V.int t1.1 := r_alpha_; subst r_alpha_
  have r_u_ : w_u_ = V.int t1.2 := r_u_; subst r_u_
  try dsimp only
  refine st_seq ?_
  refine st_un2 (K := K) e.s (XE.se (xe_call2p rvm (se_iv (i := 1) (d := b_) rfl) (se_int (n := 2)))) hm (fun t2 w_beta_ w_v_ G1 H1 ce r_beta_ r_v_ hm => ?_)
  replace e := e.trans ce
  have r_beta_ : w_beta_ = V.int t2.1 := r_beta_; subst r_beta_
  have r_v_ : w_v_ = V.int t2.2 := r_v_; subst r_v_
  try dsimp only
  refine st_seq ?_
  refine st_set (K := K) e.s (se_mulp (se_divcp (se_subp (se_iv (i := 3) (d := t1.2) rfl) (se_int (n := 1))) (by decide)) (se_divcp (se_subp (se_iv (i := 5) (d := t2.2) rfl) (se_int (n := 1))) (by decide))) hm (fun turns_ w_turns_ G1 H1 ce r_turns_ hm => ?_)
  replace e := e.trans ce
  have r_turns_ : w_turns_ = V.int turns_ := r_turns_; subst r_turns_
  try dsimp only
  refine st_seq ?_
  refine st_aug (K := K) e.s rfl (se_mul (se_iv (i := 2) (d := t1.1) rfl) (se_divc (se_sub (se_mulp (se_iv (i := 5) (d := t2.2) rfl) (se_iv (i := 5) (d := t2.2) rfl)) (se_int (n := 1))) (by decide))) hm (fun y3 turns_ G1 H1 ce hm => ?_)
  replace e := e.trans ce
  try dsimp only
  refine st_seq ?_
  refine st_aug (K := K) e.s rfl (se_mul (se_iv (i := 4) (d := t2.1) rfl) (se_divc (se_sub (se_mulp (se_iv (i := 3) (d := t1.2) rfl) (se_iv (i := 3) (d := t1.2) rfl)) (se_int (n := 1))) (by decide))) hm (fun y5 turns_ G1 H1 ce hm => ?_)
  replace e := e.trans ce
  try dsimp only
  exact st_ret (RR := RV K) e rvm (SE.xe (se_iv (i := 6) (d := turns_) rfl)) hm q
theorem ok_power_by__2 (T : Txt K mg) : FnOk P w K mg base CX0 1 T.a_power_by_ T.d_power_by_ ["k", "often", "m"] (Sp3 K (RV K) Mir.power_by__2) := by
  refine T.F_power_by_.ok sc_power_by_ (Sp3.len rfl) (fun cdv A outer s He vs Q E hr h => ?_)
  obtain ⟨Ge, w_k_, w_often_, w_m_, k_, often_, m_, r, rfl, hs, r_k_, r_often_, r_m_, hm, q⟩ := h
  have e : Ext Ge He Ge He := Ext.refl hs
  have r2_k_ : w_k_ = V.int k_ := r_k_
  subst r2_k_
  clear r_k_
  have r2_often_ : w_often_ = V.int often_ := r_often_
  subst r2_often_
  clear r_often_
  have r2_m_ : w_m_ = V.int m_ := r_m_
  subst r2_m_
  clear r_m_
  unfold Mir.power_by__2 at hm
  refine ⟨_, (pss_cons (ps_set (i := 3) sc_power_by_.nd rfl (Or.inl rfl) (pe_op op_modN pe_int (pv 2))) (pss_cons (ps_set (i := 4) sc_power_by_.nd rfl (Or.inl rfl) (pe_op op_modN (pv 0) (pv 2))) (pss_cons (ps_while PassesOwn.never (pt_cmpR op_gt (pv 1) pe_int (nomark _)) (pss_cons (ps_if (pt_cmpR op_eq (pe_op op_mod (pv 1) pe_int) pe_int (nomark _)) (pss_one (ps_set (i := 3) sc_power_by_.nd rfl (Or.inl rfl) (pe_op op_modN (pe_op op_mulZ (pv 3) (pv 4)) (pv 2)))) pss_nil) (pss_cons (ps_set (i := 4) sc_power_by_.nd rfl (Or.inl rfl) (pe_op op_modN (pe_op op_mulZ (pv 4) (pv 4)) (pv 2))) (pss_one (ps_set (i := 1) sc_power_by_.nd rfl (Or.inl rfl) (pe_op op_fdivW (pv 1) pe_int)))))) (pss_one (ps_ret (pv 3)))))), ?_⟩
  try dsimp only
  refine st_seq ?_
  refine st_set (K := K) e.s (se_modp (se_int (n := 1)) (se_iv (i := 2) (d := m_) rfl)) hm (fun found_ w_found_ G1 H1 ce r_found_ hm => ?_)
  replace e := e.trans ce
  have r_found_ : w_found_ = V.int found_ := r_found_; subst r_found_
  try dsimp only
  refine st_seq ?_
  refine st_set (K := K) e.s (se_modp (se_iv (i := 0) (d := k_) rfl) (se_iv (i := 2) (d := m_) rfl)) hm (fun base_ w_base_ G1 H1 ce r_base_ hm => ?_)
  replace e := e.trans ce
  have r_base_ : w_base_ = V.int base_ := r_base_; subst r_base_
  try dsimp only
  refine st_seq ?_
  obtain ⟨z1, hw, hm⟩ := bind_some hm
  refine st_whileN (fun (s1 : Int × Int × Int) σ G H => σ = [some (V.int k_), some (V.int s1.1), some (V.int m_), some (V.int s1.2.1), some (V.int s1.2.2)] ∧ Ext Ge He G H) hw ⟨rfl, e⟩ (fun s1 σ G H h => ?_) (fun s1 σ G H h => ?_) (fun s1 f σ G H G1 H1 N h ce hc hm hN => ?_) (fun σ G H G1 H1 h ce => ?_)
  · obtain ⟨es, e⟩ := h
    subst es
    exact e.s
  · obtain ⟨es, e⟩ := h
    subst es
    exact (st_test (K := K) (se_gtp (se_iv (i := 1) (d := s1.1) rfl) (se_int (n := 0))))
  · clear hw
    obtain ⟨es, e⟩ := h
    subst es
    replace e := e.trans ce
    try dsimp only
    refine st_seq ?_
    obtain ⟨s2, hA, hm⟩ := bind_some hm
    refine st_join (fun σ H => ∃ G, σ = [some (V.int k_), some (V.int s1.1), some (V.int m_), some (V.int s2), some (V.int s1.2.2)] ∧ Ext Ge He G H) (fun σ H h => ?_) (fun N hN => ?_)
    · obtain ⟨G, es, e⟩ := h
      subst es
      try dsimp only
      refine st_seq ?_
      refine st_set (K := K) e.s (se_mod (se_mulp (se_iv (i := 4) (d := s1.2.2) rfl) (se_iv (i := 4) (d := s1.2.2) rfl)) (se_iv (i := 2) (d := m_) rfl)) hm (fun base_ w_base_ G1 H1 ce r_base_ hm => ?_)
      replace e := e.trans ce
      have r_base_ : w_base_ = V.int base_ := r_base_; subst r_base_
      try dsimp only
      refine st_set (K := K) e.s (se_divcp (se_iv (i := 1) (d := s1.1) rfl) (by decide)) hm (fun often_ w_often_ G1 H1 ce r_often_ hm => ?_)
      replace e := e.trans ce
      have r_often_ : w_often_ = V.int often_ := r_often_; subst r_often_
      cases hm
      exact hN _ _ _ ⟨rfl, e⟩
    · clear hm
      refine st_if e.s (st_test (K := K) (se_eqp (se_modcp (se_iv (i := 1) (d := s1.1) rfl) (by decide)) (se_int (n := 1)))) hA (fun G1 H1 ce hm => ?_) (fun G1 H1 ce hm => ?_)
      · replace e := e.trans ce
        try dsimp only
        refine st_set (K := K) e.s (se_mod (se_mulp (se_iv (i := 3) (d := s1.2.1) rfl) (se_iv (i := 4) (d := s1.2.2) rfl)) (se_iv (i := 2) (d := m_) rfl)) hm (fun found_ w_found_ G1 H1 ce r_found_ hm => ?_)
        replace e := e.trans ce
        have r_found_ : w_found_ = V.int found_ := r_found_; subst r_found_
        cases hm
        exact hN _ _ ⟨_, rfl, e⟩
      · replace e := e.trans ce
        refine st_next ?_
        cases hm
        exact hN _ _ ⟨_, rfl, e⟩
  · obtain ⟨es, e⟩ := h
    subst es
    replace e := e.trans ce
    try dsimp only
    exact st_ret (RR := RV K) e rvm (SE.xe (se_iv (i := 3) (d := z1.2.1) rfl)) hm q
theorem ok_square_by__2 (T : Txt K mg) : FnOk P w K mg base CX0 2 T.a_square_by_ T.d_square_by_ ["k", "p"] (Sp2 K (RV K) Mir.square_by__2) := by
  refine T.F_square_by_.ok sc_square_by_ (Sp2.len rfl) (fun cdv A outer s He vs Q E hr h => ?_)
  obtain ⟨Ge, w_k_, w_p_, k_, p_, r, rfl, hs, r_k_, r_p_, hm, q⟩ := h
  have e : Ext Ge He Ge He := Ext.refl hs
  have r2_k_ : w_k_ = V.int k_ := r_k_
  subst r2_k_
  clear r_k_
  have r2_p_ : w_p_ = V.int p_ := r_p_
  subst r2_p_
  clear r_p_
  unfold Mir.square_by__2 at hm
  refine ⟨_, (pss_cons (ps_if (pt_cmpR op_eq (pe_op op_modN (pv 0) (pv 1)) pe_int (nomark _)) (pss_one (ps_ret pe_int)) pss_nil) (pss_cons (ps_if (PW.pt (pw_or (pt_cmpR op_eq (pv 1) pe_int (nomark _)) (pw_or1 (pt_cmpR op_eq (pe_call (ok_power_by__2 T) (hr.mono (by decide)) (by rfl) T.g_power_by_ T.F_power_by_.kp (bind_power_by_ T) .nil pass0 (pa_cons (pv 0) (pa_cons (pe_op op_fdivW (pe_op op_sub (pv 1) pe_int) pe_int) (pa_cons (pv 1) pa_nil)))) pe_int (nomark _))))) (pss_one (ps_ret pe_int)) pss_nil) (pss_one (ps_ret (pe_un un_neg pe_int))))), ?_⟩
  try dsimp only
  refine st_seq ?_
  refine st_if e.s (st_test (K := K) (se_eq (se_modp (se_iv (i := 0) (d := k_) rfl) (se_iv (i := 1) (d := p_) rfl)) (se_int (n := 0)))) hm (fun G1 H1 ce hm => ?_) (fun G1 H1 ce hm => ?_)
  · replace e := e.trans ce
    try dsimp only
    exact st_ret (RR := RV K) e rvm (SE.xe (se_int (n := 0))) hm q
  · replace e := e.trans ce
    refine st_next ?_
    try dsimp only
    refine st_seq ?_
    refine st_if e.s (st_or (st_test (K := K) (se_eqp (se_iv (i := 1) (d := p_) rfl) (se_int (n := 2)))) (st_test (K := K) (se_eq (XE.se (xe_call3p rvm (se_iv (i := 0) (d := k_) rfl) (se_divcp (se_subp (se_iv (i := 1) (d := p_) rfl) (se_int (n := 1))) (by decide)) (se_iv (i := 1) (d := p_) rfl))) (se_int (n := 1))))) hm (fun G1 H1 ce hm => ?_) (fun G1 H1 ce hm => ?_)
    · replace e := e.trans ce
      try dsimp only
      exact st_ret (RR := RV K) e rvm (SE.xe (se_int (n := 1))) hm q
    · replace e := e.trans ce
      refine st_next ?_
      try dsimp only
      exact st_ret (RR := RV K) e rvm (SE.xe (se_negp (se_int (n := 1)))) hm q
theorem ok_turns_at_odd__2 (T : Txt K mg) : FnOk P w K mg base CX0 3 T.a_turns_at_odd_ T.d_turns_at_odd_ ["a", "b", "p"] (Sp3 K (RV K) Mir.turns_at_odd__2) := by
  refine T.F_turns_at_odd_.ok sc_turns_at_odd_ (Sp3.len rfl) (fun cdv A outer s He vs Q E hr h => ?_)
  obtain ⟨Ge, w_a_, w_b_, w_p_, a_, b_, p_, r, rfl, hs, r_a_, r_b_, r_p_, hm, q⟩ := h
  have e : Ext Ge He Ge He := Ext.refl hs
  have r2_a_ : w_a_ = V.int a_ := r_a_
  subst r2_a_
  clear r_a_
  have r2_b_ : w_b_ = V.int b_ := r_b_
  subst r2_b_
  clear r_b_
  have r2_p_ : w_p_ = V.int p_ := r_p_
  subst r2_p_
  clear r_p_
  unfold Mir.turns_at_odd__2 at hm
  refine ⟨_, (pss_cons (ps_asg (pe_call (ok_split_at__2 T) (hr.mono (by decide)) (by rfl) T.g_split_at_ T.F_split_at_.kp (bind_split_at_ T) .nil pass0 (pa_cons (pv 0) (pa_cons (pv 2) pa_nil))) (pg_tup rfl (pgs_cons (pg_name (i := 3) sc_turns_at_odd_.nd rfl (Or.inl rfl)) (pgs_cons (pg_name (i := 4) sc_turns_at_odd_.nd rfl (Or.inl rfl)) pgs_nil)))) (pss_cons (ps_asg (pe_call (ok_split_at__2 T) (hr.mono (by decide)) (by rfl) T.g_split_at_ T.F_split_at_.kp (bind_split_at_ T) .nil pass0 (pa_cons (pv 1) (pa_cons (pv 2) pa_nil))) (pg_tup rfl (pgs_cons (pg_name (i := 5) sc_turns_at_odd_.nd rfl (Or.inl rfl)) (pgs_cons (pg_name (i := 6) sc_turns_at_odd_.nd rfl (Or.inl rfl)) pgs_nil)))) (pss_cons (ps_set (i := 7) sc_turns_at_odd_.nd rfl (Or.inl rfl) (pe_op op_mulZ (pe_op op_mulZ (pv 3) (pv 5)) (pe_op op_fdivW (pe_op op_sub (pv 2) pe_int) pe_int))) (pss_cons (ps_if (pt_cmpR op_eq (pe_call (ok_square_by__2 T) (hr.mono (by decide)) (by rfl) T.g_square_by_ T.F_square_by_.kp (bind_square_by_ T) .nil pass0 (pa_cons (pv 4) (pa_cons (pv 2) pa_nil))) (pe_un un_neg pe_int) (nomark _)) (pss_one (ps_aug (i := 7) sc_turns_at_odd_.nd rfl (Or.inl rfl) (pv 5) ip_add)) pss_nil) (pss_cons (ps_if (pt_cmpR op_eq (pe_call (ok_square_by__2 T) (hr.mono (by decide)) (by rfl) T.g_square_by_ T.F_square_by_.kp (bind_square_by_ T) .nil pass0 (pa_cons (pv 6) (pa_cons (pv 2) pa_nil))) (pe_un un_neg pe_int) (nomark _)) (pss_one (ps_aug (i := 7) sc_turns_at_odd_.nd rfl (Or.inl rfl) (pv 3) ip_add)) pss_nil) (pss_one (ps_ret (pv 7)))))))), ?_⟩
  try dsimp only
  refine st_seq ?_
  refine st_un2 (K := K) e.s (XE.se (xe_call2p rvm (se_iv (i := 0) (d := a_) rfl) (se_iv (i := 2) (d := p_) rfl))) hm (fun t1 w_alpha_ w_u_ G1 H1 ce r_alpha_ r_u_ hm => ?_)
  replace e := e.trans ce
  have r_alpha_ : w_alpha_ = V.int t1.1 := r_alpha_; subst r_alpha_
  have r_u_ : w_u_ = V.int t1.2 := r_u_; subst r_u_
  try dsimp only
  refine st_seq ?_
  refine st_un2 (K := K) e.s (XE.se (xe_call2p rvm (se_iv (i := 1) (d := b_) rfl) (se_iv (i := 2) (d := p_) rfl))) hm (fun t2 w_beta_ w_v_ G1 H1 ce r_beta_ r_v_ hm => ?_)
  replace e := e.trans ce
  have r_beta_ : w_beta_ = V.int t2.1 := r_beta_; subst r_beta_
  have r_v_ : w_v_ = V.int t2.2 := r_v_; subst r_v_
  try dsimp only
  refine st_seq ?_
  refine st_set (K := K) e.s (se_mul (se_mulp (se_iv (i := 3) (d := t1.1) rfl) (se_iv (i := 5) (d := t2.1) rfl)) (se_divcp (se_subp (se_iv (i := 2) (d := p_) rfl) (se_int (n := 1))) (by decide))) hm (fun turns_ w_turns_ G1 H1 ce r_turns_ hm => ?_)
  replace e := e.trans ce
  have r_turns_ : w_turns_ = V.int turns_ := r_turns_; subst r_turns_
  try dsimp only
  refine st_seq ?_
  obtain ⟨s3, hA, hm⟩ := bind_some hm
  refine st_join (fun σ H => ∃ G, σ = [some (V.int a_), some (V.int b_), some (V.int p_), some (V.int t1.1), some (V.int t1.2), some (V.int t2.1), some (V.int t2.2), some (V.int s3)] ∧ Ext Ge He G H) (fun σ H h => ?_) (fun N hN => ?_)
  · obtain ⟨G, es, e⟩ := h
    subst es
    try dsimp only
    refine st_seq ?_
    obtain ⟨s6, hA, hm⟩ := bind_some hm
    refine st_join (fun σ H => ∃ G, σ = [some (V.int a_), some (V.int b_), some (V.int p_), some (V.int t1.1), some (V.int t1.2), some (V.int t2.1), some (V.int t2.2), some (V.int s6)] ∧ Ext Ge He G H) (fun σ H h => ?_) (fun N hN => ?_)
    · obtain ⟨G, es, e⟩ := h
      subst es
      try dsimp only
      exact st_ret (RR := RV K) e rvm (SE.xe (se_iv (i := 7) (d := s6) rfl)) hm q
    · clear hm
      refine st_if e.s (st_test (K := K) (se_eq (XE.se (xe_call2p rvm (se_iv (i := 6) (d := t2.2) rfl) (se_iv (i := 2) (d := p_) rfl))) (se_negp (se_int (n := 1))))) hA (fun G1 H1 ce hm => ?_) (fun G1 H1 ce hm => ?_)
      · replace e := e.trans ce
        try dsimp only
        refine st_aug (K := K) e.s rfl (se_iv (i := 3) (d := t1.1) rfl) hm (fun y7 turns_ G1 H1 ce hm => ?_)
        replace e := e.trans ce
        cases hm
        exact hN _ _ ⟨_, rfl, e⟩
      · replace e := e.trans ce
        refine st_next ?_
        cases hm
        exact hN _ _ ⟨_, rfl, e⟩
  · clear hm
    refine st_if e.s (st_test (K := K) (se_eq (XE.se (xe_call2p rvm (se_iv (i := 4) (d := t1.2) rfl) (se_iv (i := 2) (d := p_) rfl))) (se_negp (se_int (n := 1))))) hA (fun G1 H1 ce hm => ?_) (fun G1 H1 ce hm => ?_)
    · replace e := e.trans ce
      try dsimp only
      refine st_aug (K := K) e.s rfl (se_iv (i := 5) (d := t2.1) rfl) hm (fun y4 turns_ G1 H1 ce hm => ?_)
      replace e := e.trans ce
      cases hm
      exact hN _ _ ⟨_, rfl, e⟩
    · replace e := e.trans ce
      refine st_next ?_
      cases hm
      exact hN _ _ ⟨_, rfl, e⟩
theorem ok_says__2 (T : Txt K mg) : FnOk P w K mg base CX0 4 T.a_says_ T.d_says_ ["a", "b", "p"] (Sp3 K (RV K) Mir.says__2) := by
  refine T.F_says_.ok sc_says_ (Sp3.len rfl) (fun cdv A outer s He vs Q E hr h => ?_)
  obtain ⟨Ge, w_a_, w_b_, w_p_, a_, b_, p_, r, rfl, hs, r_a_, r_b_, r_p_, hm, q⟩ := h
  have e : Ext Ge He Ge He := Ext.refl hs
  have r2_a_ : w_a_ = V.int a_ := r_a_
  subst r2_a_
  clear r_a_
  have r2_b_ : w_b_ = V.int b_ := r_b_
  subst r2_b_
  clear r_b_
  have r2_p_ : w_p_ = V.int p_ := r_p_
  subst r2_p_
  clear r_p_
  unfold Mir.says__2 at hm
  refine ⟨_, (pss_cons (ps_if (pt_cmpR op_eq (pv 2) pe_int (nomark _)) (pss_one (ps_ret (pe_or (pe_cmpR op_gt (pv 0) pe_int (nomark _)) (pe_one (pe_cmpR op_gt (pv 1) pe_int (nomark _)))))) pss_nil) (pss_cons (ps_if (pt_cmpR op_eq (pv 2) pe_int (nomark _)) (pss_one (ps_ret (pe_cmpR op_eq (pe_op op_mod (pe_call (ok_turns_at_two__2 T) (hr.mono (by decide)) (by rfl) T.g_turns_at_two_ T.F_turns_at_two_.kp (bind_turns_at_two_ T) .nil pass0 (pa_cons (pv 0) (pa_cons (pv 1) pa_nil))) pe_int) pe_int (nomark _)))) pss_nil) (pss_one (ps_ret (pe_cmpR op_eq (pe_op op_mod (pe_call (ok_turns_at_odd__2 T) (hr.mono (by decide)) (by rfl) T.g_turns_at_odd_ T.F_turns_at_odd_.kp (bind_turns_at_odd_ T) .nil pass0 (pa_cons (pv 0) (pa_cons (pv 1) (pa_cons (pv 2) pa_nil)))) pe_int) pe_int (nomark _)))))), ?_⟩
  try dsimp only
  refine st_seq ?_
  refine st_if e.s (st_test (K := K) (se_eqp (se_iv (i := 2) (d := p_) rfl) (se_int (n := 0)))) hm (fun G1 H1 ce hm => ?_) (fun G1 H1 ce hm => ?_)
  · replace e := e.trans ce
    try dsimp only
    exact st_ret (RR := RV K) e rvm (SE.xe (se_orp (se_gtp (se_iv (i := 0) (d := a_) rfl) (se_int (n := 0))) (se_gtp (se_iv (i := 1) (d := b_) rfl) (se_int (n := 0))))) hm q
  · replace e := e.trans ce
    refine st_next ?_
    try dsimp only
    refine st_seq ?_
    refine st_if e.s (st_test (K := K) (se_eqp (se_iv (i := 2) (d := p_) rfl) (se_int (n := 2)))) hm (fun G1 H1 ce hm => ?_) (fun G1 H1 ce hm => ?_)
    · replace e := e.trans ce
      try dsimp only
      exact st_ret (RR := RV K) e rvm (SE.xe (se_eq (se_modc (XE.se (xe_call2p rvm (se_iv (i := 0) (d := a_) rfl) (se_iv (i := 1) (d := b_) rfl))) (by decide)) (se_int (n := 0)))) hm q
    · replace e := e.trans ce
      refine st_next ?_
      try dsimp only
      exact st_ret (RR := RV K) e rvm (SE.xe (se_eq (se_modc (XE.se (xe_call3p rvm (se_iv (i := 0) (d := a_) rfl) (se_iv (i := 1) (d := b_) rfl) (se_iv (i := 2) (d := p_) rfl))) (by decide)) (se_int (n := 0)))) hm q
theorem ok_is_odd_at__2 (T : Txt K mg) : FnOk P w K mg base CX0 5 T.a_is_odd_at_ T.d_is_odd_at_ ["row", "p"] (Sp2 K (RV K) Mir.is_odd_at__2) := by
  refine T.F_is_odd_at_.ok sc_is_odd_at_ (Sp2.len rfl) (fun cdv A outer s He vs Q E hr h => ?_)
  obtain ⟨Ge, w_row_, w_p_, row_, p_, r, rfl, hs, r_row_, r_p_, hm, q⟩ := h
  have e : Ext Ge He Ge He := Ext.refl hs
  have r2_p_ : w_p_ = V.int p_ := r_p_
  subst r2_p_
  clear r_p_
  unfold Mir.is_odd_at__2 at hm
  refine ⟨_, (pss_cons (ps_set (i := 2) sc_is_odd_at_.nd rfl (Or.inl rfl) pe_int) (pss_cons (ps_for PassesOwn.never rfl (pi_range1 (by rfl) T.n_range (pa_cons (pe_callB call_len_seq (by rfl) T.n_len (by decide +kernel) (pa_cons (pv 0) pa_nil)) pa_nil)) (pg_name (i := 3) sc_is_odd_at_.nd rfl (Or.inl rfl)) (pss_one (ps_for PassesOwn.never rfl (pi_range2 (by rfl) T.n_range (pa_cons (pe_op op_add (pv 3) pe_int) (pa_cons (pe_callB call_len_seq (by rfl) T.n_len (by decide +kernel) (pa_cons (pv 0) pa_nil)) pa_nil))) (pg_name (i := 4) sc_is_odd_at_.nd rfl (Or.inl rfl)) (pss_one (ps_if (pt_not (pt_val (pe_call (ok_says__2 T) (hr.mono (by decide)) (by rfl) T.g_says_ T.F_says_.kp (bind_says_ T) .nil pass0 (pa_cons (pe_ix ix_list (pv 0) (pv 3) (fun _ _ => rfl)) (pa_cons (pe_ix ix_list (pv 0) (pv 4) (fun _ _ => rfl)) (pa_cons (pv 1) pa_nil)))))) (pss_one (ps_aug (i := 2) sc_is_odd_at_.nd rfl (Or.inl rfl) pe_int ip_add)) pss_nil))))) (pss_one (ps_ret (pe_cmpR op_eq (pe_op op_mod (pv 2) pe_int) pe_int (nomark _)))))), ?_⟩
  try dsimp only
  refine st_seq ?_
  refine st_set (K := K) e.s (se_int (n := 0)) hm (fun noes_ w_noes_ G1 H1 ce r_noes_ hm => ?_)
  replace e := e.trans ce
  replace r_row_ := Rp.mono ce.g r_row_
  have r_noes_ : w_noes_ = V.int noes_ := r_noes_; subst r_noes_
  try dsimp only
  refine st_seq ?_
  refine st_for (K := K) e.s (ie_range1p (se_lenp (se_var (i := 0) (d := row_) rfl r_row_))) hm (fun xs J Gs1 Hs1 ce it hm => ?_)
  replace e := e.trans ce
  replace r_row_ := Rp.mono ce.g r_row_
  have sg1 : Same Gs1 Gs1 := Same.refl _
  obtain ⟨z1, hw, hm⟩ := bind_some hm
  refine lg_N (K := K) (fun (s1 : Int) σ G H => ∃ (w_row_ : V) (j3 : Option V) (j4 : Option V), σ = [some w_row_, some (V.int p_), some (V.int s1), j3, j4] ∧ Ext Ge He G H ∧ Same Gs1 G ∧ rep K G w_row_ row_) it hw ⟨_, _, _, rfl, e, sg1, r_row_⟩ (fun s1 σ G H h => ?_) (fun s1 i1 f w1 σ G H G1 H1 N hx h ce hv hm hN => ?_) (fun σ G H h => ?_)
  · obtain ⟨w_row_, j3, j4, es, e, sg1, r_row_⟩ := h
    subst es
    exact ⟨sg1, e.s⟩
  · clear hw it
    obtain ⟨w_row_, j3, j4, es, e, sg1, r_row_⟩ := h
    subst es
    replace e := e.trans ce
    replace sg1 := sg1.trans ce.g
    replace r_row_ := Rp.mono ce.g r_row_
    refine g_name ?_
    have hv2 : w1 = V.int i1 := hv
    subst hv2
    clear hv
    try dsimp only
    refine st_for (K := K) e.s (ie_range2p (se_addp (se_iv (i := 3) (d := i1) rfl) (se_int (n := 1))) (se_lenp (se_var (i := 0) (d := row_) rfl r_row_))) hm (fun xs J Gs2 Hs2 ce it hm => ?_)
    replace e := e.trans ce
    replace sg1 := sg1.trans ce.g
    replace r_row_ := Rp.mono ce.g r_row_
    have sg2 : Same Gs2 Gs2 := Same.refl _
    obtain ⟨z2, hw, hm⟩ := bind_some hm
    refine lg_N (K := K) (fun (s2 : Int) σ G H => ∃ (w_row_ : V) (j4 : Option V), σ = [some w_row_, some (V.int p_), some (V.int s2), some (V.int i1), j4] ∧ Ext Ge He G H ∧ Same Gs1 G ∧ Same Gs2 G ∧ rep K G w_row_ row_) it hw ⟨_, _, rfl, e, sg1, sg2, r_row_⟩ (fun s2 σ G H h => ?_) (fun s2 i2 f w2 σ G H G1 H1 N hx h ce hv hm hN => ?_) (fun σ G H h => ?_)
    · obtain ⟨w_row_, j4, es, e, sg1, sg2, r_row_⟩ := h
      subst es
      exact ⟨sg2, e.s⟩
    · clear hw it
      obtain ⟨w_row_, j4, es, e, sg1, sg2, r_row_⟩ := h
      subst es
      replace e := e.trans ce
      replace sg1 := sg1.trans ce.g
      replace sg2 := sg2.trans ce.g
      replace r_row_ := Rp.mono ce.g r_row_
      refine g_name ?_
      have hv2 : w2 = V.int i2 := hv
      subst hv2
      clear hv
      try dsimp only
      refine st_if e.s (st_not (st_val (K := K) (XE.se (xe_call3 rvm (se_ixp (se_var (i := 0) (d := row_) rfl r_row_) (se_iv (i := 3) (d := i1) rfl)) (se_ixp (se_var (i := 0) (d := row_) rfl r_row_) (se_iv (i := 4) (d := i2) rfl)) (se_iv (i := 1) (d := p_) rfl))))) hm (fun G1 H1 ce hm => ?_) (fun G1 H1 ce hm => ?_)
      · replace e := e.trans ce
        replace sg1 := sg1.trans ce.g
        replace sg2 := sg2.trans ce.g
        replace r_row_ := Rp.mono ce.g r_row_
        try dsimp only
        refine st_aug (K := K) e.s rfl (se_int (n := 1)) hm (fun y3 noes_ G1 H1 ce hm => ?_)
        replace e := e.trans ce
        replace sg1 := sg1.trans ce.g
        replace sg2 := sg2.trans ce.g
        replace r_row_ := Rp.mono ce.g r_row_
        cases hm
        exact hN _ _ _ ⟨_, _, rfl, e, sg1, sg2, r_row_⟩
      · replace e := e.trans ce
        replace sg1 := sg1.trans ce.g
        replace sg2 := sg2.trans ce.g
        replace r_row_ := Rp.mono ce.g r_row_
        refine st_next ?_
        cases hm
        exact hN _ _ _ ⟨_, _, rfl, e, sg1, sg2, r_row_⟩
    · clear hw it
      obtain ⟨w_row_, j4, es, e, sg1, sg2, r_row_⟩ := h
      subst es
      clear sg2
      cases hm
      exact hN _ _ _ ⟨_, _, _, rfl, e, sg1, r_row_⟩
  · clear hw it
    obtain ⟨w_row_, j3, j4, es, e, sg1, r_row_⟩ := h
    subst es
    clear sg1
    try dsimp only
    exact st_ret (RR := RV K) e rvm (SE.xe (se_eqp (se_modcp (se_iv (i := 2) (d := z1) rfl) (by decide)) (se_int (n := 1)))) hm q
theorem ok_noes_of_X_2 (T : Txt K mg) : FnOk P w K mg base (L2.CX P w) 6 T.a_noes_of_ T.d_noes_of_ ["row"] (SpX1 K T.adr (RF K) Mir.noes_of_X_2) := by
  refine T.F_noes_of_.okX sc_noes_of_ (SpX1.len rfl) (fun cdv A outer s He vs Q E hr h => ?_)
  obtain ⟨Ge, w_row_, row_, r, rfl, hs, r_row_, hm, q⟩ := h
  have e : Ext Ge He Ge He := Ext.refl hs
  unfold Mir.noes_of_X_2 at hm
  refine ⟨_, (pss_cons (ps_expr (pe_callS (ok_must_be_row_X T) (hr.mono (by decide)) (by rfl) T.g_must_be_row_ T.F_must_be_row_.kp (bind_must_be_row_ T) (fun σ => passAt (takes_of rfl rfl rfl rfl) σ) (pa_cons (pv 0) pa_nil))) (pss_one (ps_ret (pe_lc (own := [("p", 1)]) (by rfl) sc_noes_of_.nd (pi_list (pe_call (ok_places_of__2 T) (hr.mono (by decide)) (by rfl) T.g_places_of_ T.F_places_of_.kp (bind_places_of_ T) .nil pass0 (pa_cons (pv 0) pa_nil))) (blkOk_by (own := [("p", 1)]) (N := N_noes_of_) (sc := defScope s_noes_of_) (by decide +kernel)) (fun _ _ _ _ _ => pg_name (i := 1) sc_noes_of_.nd rfl (Or.inl rfl)) (fun _ _ _ _ _ => pts_one (pt_val (pe_call (ok_is_odd_at__2 T) (hr.mono (by decide)) (by rfl) T.g_is_odd_at_ T.F_is_odd_at_.kp (bind_is_odd_at_ T) .nil pass0 (pa_cons (pv 0) (pa_cons (pv 1) pa_nil))))) (fun _ _ _ _ _ => (pv 1)))))), ?_⟩
  try dsimp only
  refine st_seq ?_
  refine st_err e.s (sr_callX1p (se_var (i := 0) (d := row_) rfl r_row_)) (fun h => h) hm (fun hm => ?_) (fun j hm G2 H2 ce => by cases hm; exact q (.inr _) _ _ (e.trans ce) rfl)
  refine st_drop2 (K := K) e.s (XE.se (xe_callX1p rvm (se_var (i := 0) (d := row_) rfl r_row_))) hm (fun u1 G1 H1 ce hm => ?_)
  replace e := e.trans ce
  replace r_row_ := Rp.mono ce.g r_row_
  try dsimp only
  exact st_retX (RR := RF K) e rfm (FE.xe (fe_lc _ (ib_list (FE.se (XE.fe (xe_call1p rfm (se_var (i := 0) (d := row_) rfl r_row_))))) tg_name (fun p_ s2 G2 H2 ce2 ⟨w2, es2, h2⟩ => by subst es2; have h2 : w2 = V.int p_ := h2; subst h2; exact (st_val (K := K) (XE.se (xe_call2p rvm (se_var (i := 0) (d := row_) rfl (Rp.mono ce2.g r_row_)) (se_iv (i := 1) (d := p_) rfl))))) (fun p_ s2 G2 H2 ce2 ⟨w2, es2, h2⟩ => by subst es2; have h2 : w2 = V.int p_ := h2; subst h2; exact (se_iv (i := 1) (d := p_) rfl)))) hm q
theorem ok_parting_X (T : Txt K mg) : FnOk P w K mg base (L2.CX P w) 7 T.a_parting_ T.d_parting_ ["one", "other"] (SpX2 K T.adr (RV K) Mir.parting_X) := by
  refine T.F_parting_.okX sc_parting_ (SpX2.len rfl) (fun cdv A outer s He vs Q E hr h => ?_)
  obtain ⟨Ge, w_one_, w_other_, one_, other_, r, rfl, hs, r_one_, r_other_, hm, q⟩ := h
  have e : Ext Ge He Ge He := Ext.refl hs
  unfold Mir.parting_X at hm
  refine ⟨_, (pss_cons (ps_set (i := 2) sc_parting_.nd rfl (Or.inr rfl) (pe_callS (ok_noes_of_X T) (hr.mono (by decide)) (by rfl) T.g_noes_of_ T.F_noes_of_.kp (bind_noes_of_ T) (fun σ => passAt (takes_of rfl rfl rfl rfl) σ) (pa_cons (pv 0) pa_nil))) (pss_cons (ps_set (i := 3) sc_parting_.nd rfl (Or.inr rfl) (pe_callS (ok_noes_of_X_2 T) (hr.mono (by decide)) (by rfl) T.g_noes_of_ T.F_noes_of_.kp (bind_noes_of_ T) (fun σ => passAt (takes_of rfl rfl rfl rfl) σ) (pa_cons (pv 1) pa_nil))) (pss_cons ps_never (pss_cons ps_never (pss_cons ps_never (pss_cons ps_never (pss_cons ps_never (pss_one ps_never)))))))), ?_⟩
  try dsimp only
  refine st_seq ?_
  refine st_err e.s (sr_callX1p (se_var (i := 0) (d := one_) rfl r_one_)) (fun h => h) hm (fun hm => ?_) (fun j hm G2 H2 ce => by cases hm; exact q (.inr _) _ _ (e.trans ce) rfl)
  refine st_set (K := K) e.s (FE.se (XE.fe (xe_callX1p rfm (se_var (i := 0) (d := one_) rfl r_one_)))) hm (fun noes_ w_noes_ G1 H1 ce r_noes_ hm => ?_)
  replace e := e.trans ce
  replace r_one_ := Rp.mono ce.g r_one_
  replace r_other_ := Rp.mono ce.g r_other_
  try dsimp only
  refine st_seq ?_
  refine st_err e.s (sr_callX1p (se_var (i := 1) (d := other_) rfl r_other_)) (fun h => h) hm (fun hm => ?_) (fun j hm G2 H2 ce => by cases hm; exact q (.inr _) _ _ (e.trans ce) rfl)
  refine st_set (K := K) e.s (FE.se (XE.fe (xe_callX1p rfm (se_var (i := 1) (d := other_) rfl r_other_)))) hm (fun others_ w_others_ G1 H1 ce r_others_ hm => ?_)
  replace e := e.trans ce
  replace r_one_ := Rp.mono ce.g r_one_
  replace r_other_ := Rp.mono ce.g r_other_
  replace r_noes_ := Rp.mono ce.g r_noes_
  try dsimp only
  cases hm
theorem ok_parting_X_2 (T : Txt K mg) : FnOk P w K mg base (L2.CX P w) 7 T.a_parting_ T.d_parting_ ["one", "other"] (SpX2 K T.adr (RV K) Mir.parting_X_2) := by
  refine T.F_parting_.okX sc_parting_ (SpX2.len rfl) (fun cdv A outer s He vs Q E hr h => ?_)
  obtain ⟨Ge, w_one_, w_other_, one_, other_, r, rfl, hs, r_one_, r_other_, hm, q⟩ := h
  have e : Ext Ge He Ge He := Ext.refl hs
  unfold Mir.parting_X_2 at hm
  refine ⟨_, (pss_cons (ps_set (i := 2) sc_parting_.nd rfl (Or.inr rfl) (pe_callS (ok_noes_of_X_2 T) (hr.mono (by decide)) (by rfl) T.g_noes_of_ T.F_noes_of_.kp (bind_noes_of_ T) (fun σ => passAt (takes_of rfl rfl rfl rfl) σ) (pa_cons (pv 0) pa_nil))) (pss_cons (ps_set (i := 3) sc_parting_.nd rfl (Or.inr rfl) (pe_callS (ok_noes_of_X T) (hr.mono (by decide)) (by rfl) T.g_noes_of_ T.F_noes_of_.kp (bind_noes_of_ T) (fun σ => passAt (takes_of rfl rfl rfl rfl) σ) (pa_cons (pv 1) pa_nil))) (pss_cons ps_never (pss_cons ps_never (pss_cons ps_never (pss_cons ps_never (pss_cons ps_never (pss_one ps_never)))))))), ?_⟩
  try dsimp only
  refine st_seq ?_
  refine st_err e.s (sr_callX1p (se_var (i := 0) (d := one_) rfl r_one_)) (fun h => h) hm (fun hm => ?_) (fun j hm G2 H2 ce => by cases hm; exact q (.inr _) _ _ (e.trans ce) rfl)
  refine st_set (K := K) e.s (FE.se (XE.fe (xe_callX1p rfm (se_var (i := 0) (d := one_) rfl r_one_)))) hm (fun noes_ w_noes_ G1 H1 ce r_noes_ hm => ?_)
  replace e := e.trans ce
  replace r_one_ := Rp.mono ce.g r_one_
  replace r_other_ := Rp.mono ce.g r_other_
  try dsimp only
  refine st_seq ?_
  refine st_err e.s (sr_callX1p (se_var (i := 1) (d := other_) rfl r_other_)) (fun h => h) hm (fun hm => ?_) (fun j hm G2 H2 ce => by cases hm; exact q (.inr _) _ _ (e.trans ce) rfl)
  refine st_set (K := K) e.s (FE.se (XE.fe (xe_callX1p rfm (se_var (i := 1) (d := other_) rfl r_other_)))) hm (fun others_ w_others_ G1 H1 ce r_others_ hm => ?_)
  replace e := e.trans ce
  replace r_one_ := Rp.mono ce.g r_one_
  replace r_other_ := Rp.mono ce.g r_other_
  replace r_noes_ := Rp.mono ce.g r_noes_
  try dsimp only
  cases hm
theorem ok_point_of_X (T : Txt K mg) : FnOk P w K mg base (L2.CX P w) 3 T.a_point_of_ T.d_point_of_ ["row", "zero", "line"] (SpX3 K T.adr (RV K) Mir.point_of_X) := by
  refine T.F_point_of_.okX sc_point_of_ (SpX3.len rfl) (fun cdv A outer s He vs Q E hr h => ?_)
  obtain ⟨Ge, w_row_, w_zero_, w_line_, row_, zero_, line_, r, rfl, hs, r_row_, r_zero_, r_line_, hm, q⟩ := h
  have e : Ext Ge He Ge He := Ext.refl hs
  unfold Mir.point_of_X at hm
  refine ⟨_, (pss_cons (ps_expr (pe_callS (ok_must_be_row_X_2 T) (hr.mono (by decide)) (by rfl) T.g_must_be_row_ T.F_must_be_row_.kp (bind_must_be_row_ T) (fun σ => passAt (takes_of rfl rfl rfl rfl) σ) (pa_cons (pv 0) pa_nil))) (pss_cons ps_never (pss_cons ps_never (pss_cons ps_never (pss_cons ps_never (pss_cons ps_never (pss_cons ps_never (pss_one ps_never)))))))), ?_⟩
  try dsimp only
  refine st_seq ?_
  refine st_err e.s (sr_callX1p (se_var (i := 0) (d := row_) rfl r_row_)) (fun h => h) hm (fun hm => ?_) (fun j hm G2 H2 ce => by cases hm; exact q (.inr _) _ _ (e.trans ce) rfl)
  refine st_drop2 (K := K) e.s (XE.se (xe_callX1p rvm (se_var (i := 0) (d := row_) rfl r_row_))) hm (fun u1 G1 H1 ce hm => ?_)
  replace e := e.trans ce
  replace r_row_ := Rp.mono ce.g r_row_
  replace r_zero_ := Rp.mono ce.g r_zero_
  replace r_line_ := Rp.mono ce.g r_line_
  try dsimp only
  cases hm
theorem ok_line_of_X (T : Txt K mg) : FnOk P w K mg base (L2.CX P w) 3 T.a_line_of_ T.d_line_of_ ["row", "zero", "point"] (SpX3 K T.adr (RV K) Mir.line_of_X) := by
  refine T.F_line_of_.okX sc_line_of_ (SpX3.len rfl) (fun cdv A outer s He vs Q E hr h => ?_)
  obtain ⟨Ge, w_row_, w_zero_, w_point_, row_, zero_, point_, r, rfl, hs, r_row_, r_zero_, r_point_, hm, q⟩ := h
  have e : Ext Ge He Ge He := Ext.refl hs
  unfold Mir.line_of_X at hm
  refine ⟨_, (pss_cons (ps_expr (pe_callS (ok_must_be_row_X_2 T) (hr.mono (by decide)) (by rfl) T.g_must_be_row_ T.F_must_be_row_.kp (bind_must_be_row_ T) (fun σ => passAt (takes_of rfl rfl rfl rfl) σ) (pa_cons (pv 0) pa_nil))) (pss_cons ps_never (pss_cons ps_never (pss_cons ps_never (pss_cons ps_never (pss_one ps_never)))))), ?_⟩
  try dsimp only
  refine st_seq ?_
  refine st_err e.s (sr_callX1p (se_var (i := 0) (d := row_) rfl r_row_)) (fun h => h) hm (fun hm => ?_) (fun j hm G2 H2 ce => by cases hm; exact q (.inr _) _ _ (e.trans ce) rfl)
  refine st_drop2 (K := K) e.s (XE.se (xe_callX1p rvm (se_var (i := 0) (d := row_) rfl r_row_))) hm (fun u1 G1 H1 ce hm => ?_)
  replace e := e.trans ce
  replace r_row_ := Rp.mono ce.g r_row_
  replace r_zero_ := Rp.mono ce.g r_zero_
  replace r_point_ := Rp.mono ce.g r_point_
  try dsimp only
  cases hm
theorem ok_law_door_X (T : Txt K mg) : FnOk P w K mg base (L2.CX P w) 8 T.a_law_door_ T.d_law_door_ ["_law_bad", "_law_door_here"] (SpX2 K T.adr (RV K) Mir.law_door_X) := by
  refine T.F_law_door_.okX sc_law_door_ (SpX2.len rfl) (fun cdv A outer s He vs Q E hr h => ?_)
  obtain ⟨Ge, w_law_bad_, w_law_door_here_, law_bad_, law_door_here_, r, rfl, hs, r_law_bad_, r_law_door_here_, hm, q⟩ := h
  have e : Ext Ge He Ge He := Ext.refl hs
  have r2_law_door_here_ : w_law_door_here_ = V.int law_door_here_ := r_law_door_here_
  subst r2_law_door_here_
  clear r_law_door_here_
  unfold Mir.law_door_X at hm
  refine ⟨_, (pss_cons (ps_set (i := 2) sc_law_door_.nd rfl (Or.inl rfl) (pe_tup (pa_cons pe_int (pa_cons pe_int (pa_cons (pe_tup (pa_cons pe_int (pa_cons pe_int pa_nil))) (pa_cons (pe_tup (pa_cons pe_int (pa_cons pe_int pa_nil))) pa_nil)))))) (pss_cons (ps_if (pt_cmpR op_eq (pv 1) pe_int (nomark _)) (pss_one (ps_ret (pe_callS (ok_stepped_X T) (hr.mono (by decide)) (by rfl) T.g_stepped_ T.F_stepped_.kp (bind_stepped_ T) (fun σ => passAt (takes_of rfl rfl rfl rfl) σ) (pa_cons (pv 0) (pa_cons (pv 2) pa_nil))))) pss_nil) (pss_cons (ps_if (pt_cmpR op_eq (pv 1) pe_int (nomark _)) (pss_one (ps_ret (pe_callS (ok_change_of_X T) (hr.mono (by decide)) (by rfl) T.g_change_of_ T.F_change_of_.kp (bind_change_of_ T) (fun σ => passAt (takes_of rfl rfl rfl rfl) σ) (pa_cons (pv 0) (pa_cons (pv 2) pa_nil))))) pss_nil) (pss_cons (ps_if (pt_cmpR op_eq (pv 1) pe_int (nomark _)) (pss_one (ps_ret (pe_callS (ok_all_stepped_X T) (hr.mono (by decide)) (by rfl) T.g_all_stepped_ T.F_all_stepped_.kp (bind_all_stepped_ T) (fun σ => passAt (takes_of rfl rfl rfl rfl) σ) (pa_cons (pv 0) (pa_cons (pe_lst pa_nil) pa_nil))))) pss_nil) (pss_cons (ps_if (pt_cmpR op_eq (pv 1) pe_int (nomark _)) (pss_one (ps_ret (pe_callS (ok_how_many_pairs_X T) (hr.mono (by decide)) (by rfl) T.g_how_many_pairs_ T.F_how_many_pairs_.kp (bind_how_many_pairs_ T) (fun σ => passAt (takes_of rfl rfl rfl rfl) σ) (pa_cons (pv 0) pa_nil)))) pss_nil) (pss_cons (ps_if (pt_cmpR op_eq (pv 1) pe_int (nomark _)) (pss_one (ps_ret (pe_callS (ok_parted_X T) (hr.mono (by decide)) (by rfl) T.g_parted_ T.F_parted_.kp (bind_parted_ T) (fun σ => passAt (takes_of rfl rfl rfl rfl) σ) (pa_cons (pv 0) pa_nil)))) pss_nil) (pss_cons (ps_if (pt_cmpR op_eq (pv 1) pe_int (nomark _)) (pss_one (ps_ret (pe_callS (ok_leading_X T) (hr.mono (by decide)) (by rfl) T.g_leading_ T.F_leading_.kp (bind_leading_ T) (fun σ => passAt (takes_of rfl rfl rfl rfl) σ) (pa_cons (pv 0) (pa_cons (pe_lst (pa_cons pe_int pa_nil)) pa_nil))))) pss_nil) (pss_cons (ps_if (pt_cmpR op_eq (pv 1) pe_int (nomark _)) (pss_one (ps_ret (pe_callS (ok_leading_X_2 T) (hr.mono (by decide)) (by rfl) T.g_leading_ T.F_leading_.kp (bind_leading_ T) (fun σ => passAt (takes_of rfl rfl rfl rfl) σ) (pa_cons (pe_ix ix_list (pe_lst (pa_cons (pe_lst (pa_cons pe_int pa_nil)) (pa_cons (pe_lst (pa_cons pe_int pa_nil)) (pa_cons (pe_lst (pa_cons pe_int pa_nil)) (pa_cons (pe_lst (pa_cons pe_int (pa_cons pe_int (pa_cons pe_int (pa_cons pe_int pa_nil))))) pa_nil))))) (pe_op op_mod (pe_callB call_len_seq (by rfl) T.n_len (by decide +kernel) (pa_cons (pv 0) pa_nil)) pe_int) (fun _ _ => rfl)) (pa_cons (pv 0) pa_nil))))) pss_nil) (pss_cons (ps_if (pt_cmpR op_eq (pv 1) pe_int (nomark _)) (pss_one (ps_ret (pe_callS (ok_parting_X T) (hr.mono (by decide)) (by rfl) T.g_parting_ T.F_parting_.kp (bind_parting_ T) (fun σ => passAt (takes_of rfl rfl rfl rfl) σ) (pa_cons (pv 0) (pa_cons (pe_lst (pa_cons pe_int pa_nil)) pa_nil))))) pss_nil) (pss_cons (ps_if (pt_cmpR op_eq (pv 1) pe_int (nomark _)) (pss_one (ps_ret (pe_callS (ok_parting_X_2 T) (hr.mono (by decide)) (by rfl) T.g_parting_ T.F_parting_.kp (bind_parting_ T) (fun σ => passAt (takes_of rfl rfl rfl rfl) σ) (pa_cons (pe_lst (pa_cons pe_int pa_nil)) (pa_cons (pv 0) pa_nil))))) pss_nil) (pss_cons (ps_if (pt_cmpR op_eq (pv 1) pe_int (nomark _)) (pss_one (ps_ret (pe_callS (ok_point_of_X T) (hr.mono (by decide)) (by rfl) T.g_point_of_ T.F_point_of_.kp (bind_point_of_ T) (fun σ => passAt (takes_of rfl rfl rfl rfl) σ) (pa_cons (pv 0) (pa_cons (pe_lst (pa_cons pe_int (pa_cons pe_int (pa_cons pe_int pa_nil)))) (pa_cons (pe_tup (pa_cons pe_int (pa_cons pe_int pa_nil))) pa_nil)))))) pss_nil) (pss_one (ps_ret (pe_callS (ok_line_of_X T) (hr.mono (by decide)) (by rfl) T.g_line_of_ T.F_line_of_.kp (bind_line_of_ T) (fun σ => passAt (takes_of rfl rfl rfl rfl) σ) (pa_cons (pv 0) (pa_cons (pe_lst (pa_cons pe_int (pa_cons pe_int (pa_cons pe_int pa_nil)))) (pa_cons (pe_lst (pa_cons pe_int (pa_cons pe_int (pa_cons pe_int pa_nil)))) pa_nil))))))))))))))))), ?_⟩
  try dsimp only
  refine st_seq ?_
  refine st_set (K := K) e.s (se_tup4p (se_int (n := 0)) (se_int (n := 1)) (se_tup2p (se_int (n := 1)) (se_int (n := 1))) (se_tup2p (se_int (n := 0)) (se_int (n := 1)))) hm (fun law_step_ w_law_step_ G1 H1 ce r_law_step_ hm => ?_)
  replace e := e.trans ce
  replace r_law_bad_ := Rp.mono ce.g r_law_bad_
  try dsimp only
  refine st_seq ?_
  refine st_if e.s (st_test (K := K) (se_eqp (se_iv (i := 1) (d := law_door_here_) rfl) (se_int (n := 0)))) hm (fun G1 H1 ce hm => ?_) (fun G1 H1 ce hm => ?_)
  · replace e := e.trans ce
    replace r_law_bad_ := Rp.mono ce.g r_law_bad_
    replace r_law_step_ := Rp.mono ce.g r_law_step_
    try dsimp only
    refine st_err e.s (sr_callX2p (se_var (i := 0) (d := law_bad_) rfl r_law_bad_) (se_var (i := 2) (d := law_step_) rfl r_law_step_)) (fun h => h) hm (fun hm => ?_) (fun j hm G2 H2 ce => by cases hm; exact q (.inr _) _ _ (e.trans ce) rfl)
    exact st_retX (RR := RV K) e rvm (SE.xe (XE.se (xe_callX2p rvm (se_var (i := 0) (d := law_bad_) rfl r_law_bad_) (se_var (i := 2) (d := law_step_) rfl r_law_step_)))) hm q
  · replace e := e.trans ce
    replace r_law_bad_ := Rp.mono ce.g r_law_bad_
    replace r_law_step_ := Rp.mono ce.g r_law_step_
    refine st_next ?_
    try dsimp only
    refine st_seq ?_
    refine st_if e.s (st_test (K := K) (se_eqp (se_iv (i := 1) (d := law_door_here_) rfl) (se_int (n := 1)))) hm (fun G1 H1 ce hm => ?_) (fun G1 H1 ce hm => ?_)
    · replace e := e.trans ce
      replace r_law_bad_ := Rp.mono ce.g r_law_bad_
      replace r_law_step_ := Rp.mono ce.g r_law_step_
      try dsimp only
      refine st_err e.s (sr_callX2p (se_var (i := 0) (d := law_bad_) rfl r_law_bad_) (se_var (i := 2) (d := law_step_) rfl r_law_step_)) (fun h => h) hm (fun hm => ?_) (fun j hm G2 H2 ce => by cases hm; exact q (.inr _) _ _ (e.trans ce) rfl)
      exact st_retX (RR := RV K) e rvm (SE.xe (XE.se (xe_callX2p rvm (se_var (i := 0) (d := law_bad_) rfl r_law_bad_) (se_var (i := 2) (d := law_step_) rfl r_law_step_)))) hm q
    · replace e := e.trans ce
      replace r_law_bad_ := Rp.mono ce.g r_law_bad_
      replace r_law_step_ := Rp.mono ce.g r_law_step_
      refine st_next ?_
      try dsimp only
      refine st_seq ?_
      refine st_if e.s (st_test (K := K) (se_eqp (se_iv (i := 1) (d := law_door_here_) rfl) (se_int (n := 2)))) hm (fun G1 H1 ce hm => ?_) (fun G1 H1 ce hm => ?_)
      · replace e := e.trans ce
        replace r_law_bad_ := Rp.mono ce.g r_law_bad_
        replace r_law_step_ := Rp.mono ce.g r_law_step_
        try dsimp only
        refine st_err e.s (sr_callX2p (se_var (i := 0) (d := law_bad_) rfl r_law_bad_) (FE.se (fe_lst la_nil))) (fun h => h) hm (fun hm => ?_) (fun j hm G2 H2 ce => by cases hm; exact q (.inr _) _ _ (e.trans ce) rfl)
        exact st_retX (RR := RV K) e rvm (SE.xe (XE.se (xe_callX2p rvm (se_var (i := 0) (d := law_bad_) rfl r_law_bad_) (FE.se (fe_lst la_nil))))) hm q
      · replace e := e.trans ce
        replace r_law_bad_ := Rp.mono ce.g r_law_bad_
        replace r_law_step_ := Rp.mono ce.g r_law_step_
        refine st_next ?_
        try dsimp only
        refine st_seq ?_
        refine st_if e.s (st_test (K := K) (se_eqp (se_iv (i := 1) (d := law_door_here_) rfl) (se_int (n := 3)))) hm (fun G1 H1 ce hm => ?_) (fun G1 H1 ce hm => ?_)
        · replace e := e.trans ce
          replace r_law_bad_ := Rp.mono ce.g r_law_bad_
          replace r_law_step_ := Rp.mono ce.g r_law_step_
          try dsimp only
          refine st_err e.s (sr_callX1p (se_var (i := 0) (d := law_bad_) rfl r_law_bad_)) (fun h => h) hm (fun hm => ?_) (fun j hm G2 H2 ce => by cases hm; exact q (.inr _) _ _ (e.trans ce) rfl)
          exact st_retX (RR := RV K) e rvm (SE.xe (XE.se (xe_callX1p rvm (se_var (i := 0) (d := law_bad_) rfl r_law_bad_)))) hm q
        · replace e := e.trans ce
          replace r_law_bad_ := Rp.mono ce.g r_law_bad_
          replace r_law_step_ := Rp.mono ce.g r_law_step_
          refine st_next ?_
          try dsimp only
          refine st_seq ?_
          refine st_if e.s (st_test (K := K) (se_eqp (se_iv (i := 1) (d := law_door_here_) rfl) (se_int (n := 4)))) hm (fun G1 H1 ce hm => ?_) (fun G1 H1 ce hm => ?_)
          · replace e := e.trans ce
            replace r_law_bad_ := Rp.mono ce.g r_law_bad_
            replace r_law_step_ := Rp.mono ce.g r_law_step_
            try dsimp only
            refine st_err e.s (sr_callX1p (se_var (i := 0) (d := law_bad_) rfl r_law_bad_)) (fun h => h) hm (fun hm => ?_) (fun j hm G2 H2 ce => by cases hm; exact q (.inr _) _ _ (e.trans ce) rfl)
            exact st_retX (RR := RV K) e rvm (SE.xe (XE.se (xe_callX1p rvm (se_var (i := 0) (d := law_bad_) rfl r_law_bad_)))) hm q
          · replace e := e.trans ce
            replace r_law_bad_ := Rp.mono ce.g r_law_bad_
            replace r_law_step_ := Rp.mono ce.g r_law_step_
            refine st_next ?_
            try dsimp only
            refine st_seq ?_
            refine st_if e.s (st_test (K := K) (se_eqp (se_iv (i := 1) (d := law_door_here_) rfl) (se_int (n := 5)))) hm (fun G1 H1 ce hm => ?_) (fun G1 H1 ce hm => ?_)
            · replace e := e.trans ce
              replace r_law_bad_ := Rp.mono ce.g r_law_bad_
              replace r_law_step_ := Rp.mono ce.g r_law_step_
              try dsimp only
              refine st_err e.s (sr_callX2p (se_var (i := 0) (d := law_bad_) rfl r_law_bad_) (FE.se (fe_lst (la_consp (se_int (n := 1)) la_nil)))) (fun h => h) hm (fun hm => ?_) (fun j hm G2 H2 ce => by cases hm; exact q (.inr _) _ _ (e.trans ce) rfl)
              exact st_retX (RR := RV K) e rvm (SE.xe (XE.se (xe_callX2p rvm (se_var (i := 0) (d := law_bad_) rfl r_law_bad_) (FE.se (fe_lst (la_consp (se_int (n := 1)) la_nil)))))) hm q
            · replace e := e.trans ce
              replace r_law_bad_ := Rp.mono ce.g r_law_bad_
              replace r_law_step_ := Rp.mono ce.g r_law_step_
              refine st_next ?_
              try dsimp only
              refine st_seq ?_
              refine st_if e.s (st_test (K := K) (se_eqp (se_iv (i := 1) (d := law_door_here_) rfl) (se_int (n := 6)))) hm (fun G1 H1 ce hm => ?_) (fun G1 H1 ce hm => ?_)
              · replace e := e.trans ce
                replace r_law_bad_ := Rp.mono ce.g r_law_bad_
                replace r_law_step_ := Rp.mono ce.g r_law_step_
                try dsimp only
                refine st_err e.s (sr_callX2 (se_ixp (FE.se (fe_lst (la_consp (FE.se (fe_lst (la_consp (se_int (n := 1)) la_nil))) (la_consp (FE.se (fe_lst (la_consp (se_int (n := 17)) la_nil))) (la_consp (FE.se (fe_lst (la_consp (se_int (n := 4)) la_nil))) (la_consp (FE.se (fe_lst (la_consp (se_int (n := 1)) (la_consp (se_int (n := 1)) (la_consp (se_int (n := 1)) (la_consp (se_int (n := 2)) la_nil)))))) la_nil)))))) (se_modcp (se_lenp (se_var (i := 0) (d := law_bad_) rfl r_law_bad_)) (by decide))) (se_var (i := 0) (d := law_bad_) rfl r_law_bad_)) (fun h => h) hm (fun hm => ?_) (fun j hm G2 H2 ce => by cases hm; exact q (.inr _) _ _ (e.trans ce) rfl)
                exact st_retX (RR := RV K) e rvm (SE.xe (XE.se (xe_callX2 rvm (se_ixp (FE.se (fe_lst (la_consp (FE.se (fe_lst (la_consp (se_int (n := 1)) la_nil))) (la_consp (FE.se (fe_lst (la_consp (se_int (n := 17)) la_nil))) (la_consp (FE.se (fe_lst (la_consp (se_int (n := 4)) la_nil))) (la_consp (FE.se (fe_lst (la_consp (se_int (n := 1)) (la_consp (se_int (n := 1)) (la_consp (se_int (n := 1)) (la_consp (se_int (n := 2)) la_nil)))))) la_nil)))))) (se_modcp (se_lenp (se_var (i := 0) (d := law_bad_) rfl r_law_bad_)) (by decide))) (se_var (i := 0) (d := law_bad_) rfl r_law_bad_)))) hm q
              · replace e := e.trans ce
                replace r_law_bad_ := Rp.mono ce.g r_law_bad_
                replace r_law_step_ := Rp.mono ce.g r_law_step_
                refine st_next ?_
                try dsimp only
                refine st_seq ?_
                refine st_if e.s (st_test (K := K) (se_eqp (se_iv (i := 1) (d := law_door_here_) rfl) (se_int (n := 7)))) hm (fun G1 H1 ce hm => ?_) (fun G1 H1 ce hm => ?_)
                · replace e := e.trans ce
                  replace r_law_bad_ := Rp.mono ce.g r_law_bad_
                  replace r_law_step_ := Rp.mono ce.g r_law_step_
                  try dsimp only
                  refine st_err e.s (sr_callX2p (se_var (i := 0) (d := law_bad_) rfl r_law_bad_) (FE.se (fe_lst (la_consp (se_int (n := 1)) la_nil)))) (fun h => h) hm (fun hm => ?_) (fun j hm G2 H2 ce => by cases hm; exact q (.inr _) _ _ (e.trans ce) rfl)
                  exact st_retX (RR := RV K) e rvm (SE.xe (XE.se (xe_callX2p rvm (se_var (i := 0) (d := law_bad_) rfl r_law_bad_) (FE.se (fe_lst (la_consp (se_int (n := 1)) la_nil)))))) hm q
                · replace e := e.trans ce
                  replace r_law_bad_ := Rp.mono ce.g r_law_bad_
                  replace r_law_step_ := Rp.mono ce.g r_law_step_
                  refine st_next ?_
                  try dsimp only
                  refine st_seq ?_
                  refine st_if e.s (st_test (K := K) (se_eqp (se_iv (i := 1) (d := law_door_here_) rfl) (se_int (n := 8)))) hm (fun G1 H1 ce hm => ?_) (fun G1 H1 ce hm => ?_)
                  · replace e := e.trans ce
                    replace r_law_bad_ := Rp.mono ce.g r_law_bad_
                    replace r_law_step_ := Rp.mono ce.g r_law_step_
                    try dsimp only
                    refine st_err e.s (sr_callX2p (FE.se (fe_lst (la_consp (se_int (n := 1)) la_nil))) (se_var (i := 0) (d := law_bad_) rfl r_law_bad_)) (fun h => h) hm (fun hm => ?_) (fun j hm G2 H2 ce => by cases hm; exact q (.inr _) _ _ (e.trans ce) rfl)
                    exact st_retX (RR := RV K) e rvm (SE.xe (XE.se (xe_callX2p rvm (FE.se (fe_lst (la_consp (se_int (n := 1)) la_nil))) (se_var (i := 0) (d := law_bad_) rfl r_law_bad_)))) hm q
                  · replace e := e.trans ce
                    replace r_law_bad_ := Rp.mono ce.g r_law_bad_
                    replace r_law_step_ := Rp.mono ce.g r_law_step_
                    refine st_next ?_
                    try dsimp only
                    refine st_seq ?_
                    refine st_if e.s (st_test (K := K) (se_eqp (se_iv (i := 1) (d := law_door_here_) rfl) (se_int (n := 9)))) hm (fun G1 H1 ce hm => ?_) (fun G1 H1 ce hm => ?_)
                    · replace e := e.trans ce
                      replace r_law_bad_ := Rp.mono ce.g r_law_bad_
                      replace r_law_step_ := Rp.mono ce.g r_law_step_
                      try dsimp only
                      refine st_err e.s (sr_callX3p (se_var (i := 0) (d := law_bad_) rfl r_law_bad_) (FE.se (fe_lst (la_consp (se_int (n := 1)) (la_consp (se_int (n := 1)) (la_consp (se_int (n := 0)) la_nil))))) (se_tup2p (se_int (n := 1)) (se_int (n := 0)))) (fun h => h) hm (fun hm => ?_) (fun j hm G2 H2 ce => by cases hm; exact q (.inr _) _ _ (e.trans ce) rfl)
                      exact st_retX (RR := RV K) e rvm (SE.xe (XE.se (xe_callX3p rvm (se_var (i := 0) (d := law_bad_) rfl r_law_bad_) (FE.se (fe_lst (la_consp (se_int (n := 1)) (la_consp (se_int (n := 1)) (la_consp (se_int (n := 0)) la_nil))))) (se_tup2p (se_int (n := 1)) (se_int (n := 0)))))) hm q
                    · replace e := e.trans ce
                      replace r_law_bad_ := Rp.mono ce.g r_law_bad_
                      replace r_law_step_ := Rp.mono ce.g r_law_step_
                      refine st_next ?_
                      try dsimp only
                      refine st_err e.s (sr_callX3p (se_var (i := 0) (d := law_bad_) rfl r_law_bad_) (FE.se (fe_lst (la_consp (se_int (n := 1)) (la_consp (se_int (n := 1)) (la_consp (se_int (n := 0)) la_nil))))) (FE.se (fe_lst (la_consp (se_int (n := 1)) (la_consp (se_int (n := 1)) (la_consp (se_int (n := 0)) la_nil)))))) (fun h => h) hm (fun hm => ?_) (fun j hm G2 H2 ce => by cases hm; exact q (.inr _) _ _ (e.trans ce) rfl)
                      exact st_retX (RR := RV K) e rvm (SE.xe (XE.se (xe_callX3p rvm (se_var (i := 0) (d := law_bad_) rfl r_law_bad_) (FE.se (fe_lst (la_consp (se_int (n := 1)) (la_consp (se_int (n := 1)) (la_consp (se_int (n := 0)) la_nil))))) (FE.se (fe_lst (la_consp (se_int (n := 1)) (la_consp (se_int (n := 1)) (la_consp (se_int (n := 0)) la_nil)))))))) hm q
theorem ok_law_doors_ (T : Txt K mg) : FnOk P w K mg base CX0 9 T.a_law_doors_ T.d_law_doors_ ["_law_bad"] (Sp1 K (RV K) Mir.law_doors_) := by
  refine T.F_law_doors_.ok sc_law_doors_ (Sp1.len rfl) (fun cdv A outer s He vs Q E hr h => ?_)
  obtain ⟨Ge, w_law_bad_, law_bad_, r, rfl, hs, r_law_bad_, hm, q⟩ := h
  have e : Ext Ge He Ge He := Ext.refl hs
  unfold Mir.law_doors_ at hm
  refine ⟨_, (pss_cons (ps_for PassesOwn.never rfl (pi_range1 (by rfl) T.n_range (pa_cons pe_int pa_nil)) (pg_name (i := 1) sc_law_doors_.nd rfl (Or.inl rfl)) (pss_cons (ps_set (i := 2) sc_law_doors_.nd rfl (Or.inl rfl) pe_str) (pss_one (ps_if (PW.pt (pw_or (pt_cmpR op_lt (pv 1) pe_int (nomark _)) (pw_or1 (pt_cmpR op_eq (pe_callB call_len_seq (by rfl) T.n_len (by decide +kernel) (pa_cons (pv 0) pa_nil)) pe_int (nomark _))))) (pss_cons (ps_tryA (i := 3) rfl rfl sc_law_doors_.nd rfl rfl ⟨rfl, by decide, .inl T.h_FormError⟩ takes0 (fun W pn xe tk po => (pss_one (ps_expr (pe_callS (ok_law_door_X T) (hr.mono (by decide)) (by rfl) T.g_law_door_ T.F_law_door_.kp (bind_law_door_ T) (fun σ => passAt tk σ) (pa_cons (pe_callTy (call_list_ofK (K := K) rfl) (by rfl) T.n_list (by decide +kernel) (pa_cons (pv 0) pa_nil)) (pa_cons (pv 1) pa_nil)))))) (fun a oe cls d pn hz hf => (pss_one (ps_set (i := 2) sc_law_doors_.nd rfl (Or.inl rfl) (pe_callA hz hf (ok_law_word_ T) (hr.mono (by decide)) (by rfl) T.g_law_word_ T.F_law_word_.kp (bind_law_word_ T) (pa_cons (pv 3) pa_nil)))))) (pss_one (ps_if (pt_cmpR op_ne (pv 2) pe_str (nomark _)) (pss_one (ps_ret pe_bl)) pss_nil))) pss_nil)))) (pss_one (ps_ret pe_bl))), ?_⟩
  try dsimp only
  refine st_seq ?_
  refine st_for (K := K) e.s (ie_range1p (se_int (n := 11))) hm (fun xs J Gs1 Hs1 ce it hm => ?_)
  replace e := e.trans ce
  replace r_law_bad_ := Rp.mono ce.g r_law_bad_
  have sg1 : Same Gs1 Gs1 := Same.refl _
  obtain ⟨o1, hw, hm⟩ := bind_some hm
  have hq1 : ∀ x, o1 = .inr x → ∀ u G' H', Ext Ge He G' H' → RV K He G' H' u x → Q u H' := fun x ex => by
    subst ex
    replace hm := elim_inr hm
    cases hm
    exact q
  refine lg_R (K := K) (fun (s1 : Unit) σ G H => ∃ (w_law_bad_ : V) (j1 : Option V) (j2 : Option V) (j3 : Option V), σ = [some w_law_bad_, j1, j2, j3] ∧ Ext Ge He G H ∧ Same Gs1 G ∧ rep K G w_law_bad_ law_bad_) it hw ⟨_, _, _, _, rfl, e, sg1, r_law_bad_⟩ (fun s1 σ G H h => ?_) (fun s1 i1 f w1 σ G H G1 H1 N hx h ce hv hm2 hN hX hR => ?_) (fun z1 σ G H eo h => ?_)
  · obtain ⟨w_law_bad_, j1, j2, j3, es, e, sg1, r_law_bad_⟩ := h
    subst es
    exact ⟨sg1, e.s⟩
  · clear hw hm it
    have hm := hm2
    clear hm2
    have hF1 := fun x ex => hq1 x (hR x ex)
    obtain ⟨w_law_bad_, j1, j2, j3, es, e, sg1, r_law_bad_⟩ := h
    subst es
    replace e := e.trans ce
    replace sg1 := sg1.trans ce.g
    replace r_law_bad_ := Rp.mono ce.g r_law_bad_
    refine g_name ?_
    have hv2 : w1 = V.int i1 := hv
    subst hv2
    clear hv
    try dsimp only
    refine st_seq ?_
    refine st_set (K := K) e.s (se_str (b := Str.ofString "told")) hm (fun law_word_here_ w_law_word_here_ G1 H1 ce r_law_word_here_ hm => ?_)
    replace e := e.trans ce
    replace sg1 := sg1.trans ce.g
    replace r_law_bad_ := Rp.mono ce.g r_law_bad_
    have r_law_word_here_ : w_law_word_here_ = V.str law_word_here_ := r_law_word_here_; subst r_law_word_here_
    try dsimp only
    refine st_if e.s (st_orp (st_test (K := K) (se_ltp (se_iv (i := 1) (d := i1) rfl) (se_int (n := 9)))) (st_test (K := K) (se_eqp (se_lenp (se_var (i := 0) (d := law_bad_) rfl r_law_bad_)) (se_int (n := 3))))) hm (fun G1 H1 ce hm => ?_) (fun G1 H1 ce hm => ?_)
    · replace e := e.trans ce
      replace sg1 := sg1.trans ce.g
      replace r_law_bad_ := Rp.mono ce.g r_law_bad_
      try dsimp only
      refine st_seq ?_
      obtain ⟨f2, hA0, hm⟩ := bind_some hm
      obtain ⟨t2, hB, hA⟩ := bind_some hA0
      clear hA0
      have hF2 : ∀ x, f2 = .rt x → ∀ u G' H', Ext Ge He G' H' → RV K He G' H' u x → Q u H' := fun x ex => by
        subst ex
        replace hm := flE_rt hm
        cases hm
        exact hF1 _ rfl
      refine st_join (fun σ H => ∃ s2 G, f2 = .nx s2 ∧ ∃ (w_law_bad_ : V) (j3 : Option V), σ = [some w_law_bad_, some (V.int i1), some (V.str s2), j3] ∧ Ext Ge He G H ∧ Same Gs1 G ∧ rep K G w_law_bad_ law_bad_) (fun σ H h => ?_) (fun N hN => ?_)
      · obtain ⟨s2, G, ef, w_law_bad_, j3, es, e, sg1, r_law_bad_⟩ := h
        subst es
        subst ef
        replace hm := flE_nx hm
        try dsimp only
        refine st_if e.s (st_test (K := K) (se_nep (se_sv (i := 2) (d := s2) rfl) (se_str (b := Str.ofString "row")))) hm (fun G1 H1 ce hm => ?_) (fun G1 H1 ce hm => ?_)
        · replace e := e.trans ce
          replace sg1 := sg1.trans ce.g
          replace r_law_bad_ := Rp.mono ce.g r_law_bad_
          try dsimp only
          exact st_retL (RR := RV K) e rvm (SE.xe se_bl) hm hF1
        · replace e := e.trans ce
          replace sg1 := sg1.trans ce.g
          replace r_law_bad_ := Rp.mono ce.g r_law_bad_
          refine st_next ?_
          cases hm
          exact hN _ _ _ _ rfl ⟨_, _, _, _, rfl, e, sg1, r_law_bad_⟩
      · clear hm
        refine st_tryX (adr := T.adr) (t := t2) e.s (fun j ej G2 H2 ce => ?_) (fun W hX2 z2 => ?_)
        · subst ej
          replace hA := tryE_er hA
          refine w_as (T.xm_FormError j) (fun yb a => ?_) (fun yb => ?_)
          · have hm := cond_yes hA yb
            clear hA
            replace e := e.trans ce
            replace sg1 := sg1.trans ce.g
            replace r_law_bad_ := Rp.mono ce.g r_law_bad_
            try dsimp only
            refine st_set (K := K) e.s (XE.se (xe_callA (i := 3) (j := j) rvm rfl)) hm (fun law_word_here_ w_law_word_here_ G1 H1 ce r_law_word_here_ hm => ?_)
            replace e := e.trans ce
            replace sg1 := sg1.trans ce.g
            replace r_law_bad_ := Rp.mono ce.g r_law_bad_
            have r_law_word_here_ : w_law_word_here_ = V.str law_word_here_ := r_law_word_here_; subst r_law_word_here_
            cases hm
            exact hN _ _ ⟨_, _, rfl, _, _, rfl, e, sg1, r_law_bad_⟩
          · have hm := cond_no hA yb
            cases hm
        · have hT2 : ∀ x, t2 = .rt x → ∀ u G' H', Ext Ge He G' H' → RV K He G' H' u x → Q u H' := fun x ex => hF2 x (by subst ex; exact tryE_rt hA)
          have hm := hB
          clear hB
          try dsimp only
          refine st_err e.s (sr_callX2p (FE.se (fe_list (se_var (i := 0) (d := law_bad_) rfl r_law_bad_))) (se_iv (i := 1) (d := i1) rfl)) (fun h => h) hm (fun hm => ?_) (fun j hm G2 H2 ce => by cases hm; exact hX2 _ rfl _ _ (z2.trans ce))
          refine st_drop2 (K := K) e.s (XE.se (xe_callX2p rvm (FE.se (fe_list (se_var (i := 0) (d := law_bad_) rfl r_law_bad_))) (se_iv (i := 1) (d := i1) rfl))) hm (fun u3 G1 H1 ce hm => ?_)
          replace e := e.trans ce
          replace sg1 := sg1.trans ce.g
          replace z2 := z2.trans ce
          replace r_law_bad_ := Rp.mono ce.g r_law_bad_
          cases hm
          exact hN _ _ ⟨_, _, tryE_nx hA, _, _, rfl, e, sg1, r_law_bad_⟩
    · replace e := e.trans ce
      replace sg1 := sg1.trans ce.g
      replace r_law_bad_ := Rp.mono ce.g r_law_bad_
      refine st_next ?_
      cases hm
      exact hN _ _ _ _ rfl ⟨_, _, _, _, rfl, e, sg1, r_law_bad_⟩
  · clear hw it
    subst eo
    replace hm := elim_inl hm
    obtain ⟨w_law_bad_, j1, j2, j3, es, e, sg1, r_law_bad_⟩ := h
    subst es
    clear sg1
    try dsimp only
    exact st_ret (RR := RV K) e rvm (SE.xe se_bl) hm q
theorem ok_law_ (T : Txt K mg) : FnOk P w K mg base CX0 10 T.a_law_ T.d_law_ ["_law_script"] (Sp1 K (RV K) Mir.law_) := by
  refine T.F_law_.ok sc_law_ (Sp1.len rfl) (fun cdv A outer s He vs Q E hr h => ?_)
  obtain ⟨Ge, w_law_script_, law_script_, r, rfl, hs, r_law_script_, hm, q⟩ := h
  have e : Ext Ge He Ge He := Ext.refl hs
  unfold Mir.law_ at hm
  refine ⟨_, (pss_cons (ps_for PassesOwn.never rfl (pi_range3 (by rfl) T.n_range (pa_cons pe_int (pa_cons (pe_op op_add (pe_callB (call_min2 rfl) (by rfl) T.n_min (by decide +kernel) (pa_cons pe_int (pa_cons (pe_callB call_len_seq (by rfl) T.n_len (by decide +kernel) (pa_cons (pv 0) pa_nil)) pa_nil))) pe_int) (pa_cons pe_int pa_nil)))) (pg_name (i := 1) sc_law_.nd rfl (Or.inl rfl)) (pss_cons (ps_set (i := 2) sc_law_.nd rfl (Or.inl rfl) (pe_call (ok_law_big_ T) (hr.mono (by decide)) (by rfl) T.g_law_big_ T.F_law_big_.kp (bind_law_big_ T) .nil pass0 (pa_cons (pe_call (ok_law_cell_at_ T) (hr.mono (by decide)) (by rfl) T.g_law_cell_at_ T.F_law_cell_at_.kp (bind_law_cell_at_ T) .nil pass0 (pa_cons (pv 0) (pa_cons (pv 1) pa_nil))) (pa_cons (pv 1) pa_nil)))) (pss_cons (ps_set (i := 3) sc_law_.nd rfl (Or.inl rfl) (pe_call (ok_law_big_ T) (hr.mono (by decide)) (by rfl) T.g_law_big_ T.F_law_big_.kp (bind_law_big_ T) .nil pass0 (pa_cons (pe_call (ok_law_cell_at_ T) (hr.mono (by decide)) (by rfl) T.g_law_cell_at_ T.F_law_cell_at_.kp (bind_law_cell_at_ T) .nil pass0 (pa_cons (pv 0) (pa_cons (pe_op op_add (pv 1) pe_int) pa_nil))) (pa_cons (pe_op op_add (pv 1) pe_int) pa_nil)))) (pss_cons (ps_set (i := 4) sc_law_.nd rfl (Or.inl rfl) (pe_call (ok_law_row_ T) (hr.mono (by decide)) (by rfl) T.g_law_row_ T.F_law_row_.kp (bind_law_row_ T) .nil pass0 (pa_cons (pe_op op_fdivW (pv 2) pe_int) (pa_cons (pe_op op_add pe_int (pe_op op_mod (pv 2) pe_int)) pa_nil)))) (pss_cons (ps_set (i := 5) sc_law_.nd rfl (Or.inl rfl) (pe_call (ok_law_great_ T) (hr.mono (by decide)) (by rfl) T.g_law_great_ T.F_law_great_.kp (bind_law_great_ T) .nil pass0 (pa_cons (pv 4) (pa_cons (pv 3) pa_nil)))) (pss_cons (ps_for PassesOwn.never rfl (pi_range1 (by rfl) T.n_range (pa_cons pe_int pa_nil)) (pg_name (i := 6) sc_law_.nd rfl (Or.inl rfl)) (pss_one (ps_if (pt_cmpR (op_neD hr.units) (pe_call (ok_law_asked_ T) (hr.mono (by decide)) (by rfl) T.g_law_asked_ T.F_law_asked_.kp (bind_law_asked_ T) .nil pass0 (pa_cons (pv 5) (pa_cons pe_int (pa_cons (pv 6) pa_nil)))) (pe_lst (pa_cons pe_str (pa_cons pe_bl pa_nil))) (nomark _)) (pss_one (ps_ret pe_bl)) pss_nil))) (pss_cons (ps_set (i := 7) sc_law_.nd rfl (Or.inl rfl) (pe_ix ix_list (pe_lst (pa_cons pe_int (pa_cons pe_int (pa_cons (pe_un un_neg pe_int) (pa_cons pe_int (pa_cons pe_int (pa_cons pe_int pa_nil))))))) (pe_op op_mod (pe_op op_fdivW (pv 3) pe_int) pe_int) (fun _ _ => rfl))) (pss_cons (ps_if (pt_cmpR (op_neD hr.units) (pe_call (ok_law_asked_ T) (hr.mono (by decide)) (by rfl) T.g_law_asked_ T.F_law_asked_.kp (bind_law_asked_ T) .nil pass0 (pa_cons (pv 4) (pa_cons (pv 7) (pa_cons pe_int pa_nil)))) (pe_lst (pa_cons pe_str (pa_cons pe_bl pa_nil))) (nomark _)) (pss_one (ps_ret pe_bl)) pss_nil) (pss_cons (ps_set (i := 8) sc_law_.nd rfl (Or.inl rfl) (pe_call (ok_law_no_row_ T) (hr.mono (by decide)) (by rfl) T.g_law_no_row_ T.F_law_no_row_.kp (bind_law_no_row_ T) .nil pass0 (pa_cons (pv 4) (pa_cons (pv 3) pa_nil)))) (pss_cons (ps_set (i := 9) sc_law_.nd rfl (Or.inl rfl) (pe_lst (pa_cons pe_int (pa_cons pe_int pa_nil)))) (pss_cons (ps_if (PW.pt (pw_or (pt_cmpR op_eq (pe_callB call_len_seq (by rfl) T.n_len (by decide +kernel) (pa_cons (pv 8) pa_nil)) pe_int (nomark _)) (pw_or1 (pt_cmpR op_eq (pe_callB call_len_seq (by rfl) T.n_len (by decide +kernel) (pa_cons (pv 8) pa_nil)) pe_int (nomark _))))) (pss_one (ps_set (i := 9) sc_law_.nd rfl (Or.inl rfl) (pe_lst (pa_cons pe_int (pa_cons pe_int (pa_cons pe_int pa_nil)))))) pss_nil) (pss_cons (ps_for PassesOwn.never rfl (pi_list (pv 9)) (pg_name (i := 6) sc_law_.nd rfl (Or.inl rfl)) (pss_one (ps_if (pt_cmpR (op_neD hr.units) (pe_call (ok_law_asked__2 T) (hr.mono (by decide)) (by rfl) T.g_law_asked_ T.F_law_asked_.kp (bind_law_asked_ T) .nil pass0 (pa_cons (pv 8) (pa_cons pe_int (pa_cons (pv 6) pa_nil)))) (pe_lst (pa_cons pe_str (pa_cons pe_bl pa_nil))) (nomark _)) (pss_one (ps_ret pe_bl)) pss_nil))) (pss_one (ps_if (pt_not (pt_val (pe_call (ok_law_doors_ T) (hr.mono (by decide)) (by rfl) T.g_law_doors_ T.F_law_doors_.kp (bind_law_doors_ T) .nil pass0 (pa_cons (pv 8) pa_nil)))) (pss_one (ps_ret pe_bl)) pss_nil)))))))))))))) (pss_one (ps_ret pe_bl))), ?_⟩
  try dsimp only
  refine st_seq ?_
  refine st_for (K := K) e.s (ie_range3p (c := 2) (by decide) (se_int (n := 0)) (se_addp (se_min2p (se_int (n := 16)) (se_lenKp (se_var (i := 0) (d := law_script_) rfl r_law_script_))) (se_int (n := 1)))) hm (fun xs J Gs1 Hs1 ce it hm => ?_)
  replace e := e.trans ce
  replace r_law_script_ := Rp.mono ce.g r_law_script_
  have sg1 : Same Gs1 Gs1 := Same.refl _
  obtain ⟨o1, hw, hm⟩ := bind_some hm
  have hq1 : ∀ x, o1 = .inr x → ∀ u G' H', Ext Ge He G' H' → RV K He G' H' u x → Q u H' := fun x ex => by
    subst ex
    replace hm := elim_inr hm
    cases hm
    exact q
  refine lg_R (K := K) (fun (s1 : Unit) σ G H => ∃ (w_law_script_ : V) (j1 : Option V) (j2 : Option V) (j3 : Option V) (j4 : Option V) (j5 : Option V) (j6 : Option V) (j7 : Option V) (j8 : Option V) (j9 : Option V), σ = [some w_law_script_, j1, j2, j3, j4, j5, j6, j7, j8, j9] ∧ Ext Ge He G H ∧ Same Gs1 G ∧ rep K G w_law_script_ law_script_) it hw ⟨_, _, _, _, _, _, _, _, _, _, rfl, e, sg1, r_law_script_⟩ (fun s1 σ G H h => ?_) (fun s1 i1 f w1 σ G H G1 H1 N hx h ce hv hm2 hN hX hR => ?_) (fun z1 σ G H eo h => ?_)
  · obtain ⟨w_law_script_, j1, j2, j3, j4, j5, j6, j7, j8, j9, es, e, sg1, r_law_script_⟩ := h
    subst es
    exact ⟨sg1, e.s⟩
  · clear hw hm it
    have hm := hm2
    clear hm2
    have hF1 := fun x ex => hq1 x (hR x ex)
    obtain ⟨w_law_script_, j1, j2, j3, j4, j5, j6, j7, j8, j9, es, e, sg1, r_law_script_⟩ := h
    subst es
    replace e := e.trans ce
    replace sg1 := sg1.trans ce.g
    replace r_law_script_ := Rp.mono ce.g r_law_script_
    refine g_name ?_
    have hv2 : w1 = V.int i1 := hv
    subst hv2
    clear hv
    try dsimp only
    refine st_seq ?_
    refine st_set (K := K) e.s (XE.se (xe_call2 rvm (XE.se (xe_call2p rvm (se_var (i := 0) (d := law_script_) rfl r_law_script_) (se_iv (i := 1) (d := i1) rfl))) (se_iv (i := 1) (d := i1) rfl))) hm (fun law_cell_ w_law_cell_ G1 H1 ce r_law_cell_ hm => ?_)
    replace e := e.trans ce
    replace sg1 := sg1.trans ce.g
    replace r_law_script_ := Rp.mono ce.g r_law_script_
    have r_law_cell_ : w_law_cell_ = V.int law_cell_ := r_law_cell_; subst r_law_cell_
    try dsimp only
    refine st_seq ?_
    refine st_set (K := K) e.s (XE.se (xe_call2 rvm (XE.se (xe_call2p rvm (se_var (i := 0) (d := law_script_) rfl r_law_script_) (se_addp (se_iv (i := 1) (d := i1) rfl) (se_int (n := 1))))) (se_addp (se_iv (i := 1) (d := i1) rfl) (se_int (n := 1))))) hm (fun law_other_ w_law_other_ G1 H1 ce r_law_other_ hm => ?_)
    replace e := e.trans ce
    replace sg1 := sg1.trans ce.g
    replace r_law_script_ := Rp.mono ce.g r_law_script_
    have r_law_other_ : w_law_other_ = V.int law_other_ := r_law_other_; subst r_law_other_
    try dsimp only
    refine st_seq ?_
    refine st_set (K := K) e.s (FE.se (XE.fe (xe_call2p rfm (se_divcp (se_iv (i := 2) (d := law_cell_) rfl) (by decide)) (se_addp (se_int (n := 1)) (se_modcp (se_iv (i := 2) (d := law_cell_) rfl) (by decide)))))) hm (fun law_row_here_ w_law_row_here_ G1 H1 ce r_law_row_here_ hm => ?_)
    replace e := e.trans ce
    replace sg1 := sg1.trans ce.g
    replace r_law_script_ := Rp.mono ce.g r_law_script_
    try dsimp only
    refine st_seq ?_
    refine st_set (K := K) e.s (FE.se (XE.fe (xe_call2p rfm (se_var (i := 4) (d := law_row_here_) rfl r_law_row_here_) (se_iv (i := 3) (d := law_other_) rfl)))) hm (fun law_great_here_ w_law_great_here_ G1 H1 ce r_law_great_here_ hm => ?_)
    replace e := e.trans ce
    replace sg1 := sg1.trans ce.g
    replace r_law_script_ := Rp.mono ce.g r_law_script_
    replace r_law_row_here_ := Rp.mono ce.g r_law_row_here_
    try dsimp only
    refine st_seq ?_
    refine st_for (K := K) e.s (ie_range1p (se_int (n := 2))) hm (fun xs J Gs2 Hs2 ce it hm => ?_)
    replace e := e.trans ce
    replace sg1 := sg1.trans ce.g
    replace r_law_script_ := Rp.mono ce.g r_law_script_
    replace r_law_row_here_ := Rp.mono ce.g r_law_row_here_
    replace r_law_great_here_ := Rp.mono ce.g r_law_great_here_
    have sg2 : Same Gs2 Gs2 := Same.refl _
    obtain ⟨o2, hw, hm⟩ := bind_some hm
    have hq2 : ∀ x, o2 = .inr x → ∀ u G' H', Ext Ge He G' H' → RV K He G' H' u x → Q u H' := fun x ex => by
      subst ex
      replace hm := elim_inr hm
      cases hm
      exact hF1 _ rfl
    refine lg_R (K := K) (fun (s2 : Unit) σ G H => ∃ (w_law_script_ : V) (w_law_row_here_ : V) (w_law_great_here_ : V) (j6 : Option V) (j7 : Option V) (j8 : Option V) (j9 : Option V), σ = [some w_law_script_, some (V.int i1), some (V.int law_cell_), some (V.int law_other_), some w_law_row_here_, some w_law_great_here_, j6, j7, j8, j9] ∧ Ext Ge He G H ∧ Same Gs1 G ∧ Same Gs2 G ∧ rep K G w_law_script_ law_script_ ∧ rep K G w_law_row_here_ law_row_here_ ∧ rep K G w_law_great_here_ law_great_here_) it hw ⟨_, _, _, _, _, _, _, rfl, e, sg1, sg2, r_law_script_, r_law_row_here_, r_law_great_here_⟩ (fun s2 σ G H h => ?_) (fun s2 i2 f w2 σ G H G1 H1 N hx h ce hv hm2 hN hX hR => ?_) (fun z2 σ G H eo h => ?_)
    · obtain ⟨w_law_script_, w_law_row_here_, w_law_great_here_, j6, j7, j8, j9, es, e, sg1, sg2, r_law_script_, r_law_row_here_, r_law_great_here_⟩ := h
      subst es
      exact ⟨sg2, e.s⟩
    · clear hw hm it
      have hm := hm2
      clear hm2
      have hF2 := fun x ex => hq2 x (hR x ex)
      obtain ⟨w_law_script_, w_law_row_here_, w_law_great_here_, j6, j7, j8, j9, es, e, sg1, sg2, r_law_script_, r_law_row_here_, r_law_great_here_⟩ := h
      subst es
      replace e := e.trans ce
      replace sg1 := sg1.trans ce.g
      replace sg2 := sg2.trans ce.g
      replace r_law_script_ := Rp.mono ce.g r_law_script_
      replace r_law_row_here_ := Rp.mono ce.g r_law_row_here_
      replace r_law_great_here_ := Rp.mono ce.g r_law_great_here_
      refine g_name ?_
      have hv2 : w2 = V.int i2 := hv
      subst hv2
      clear hv
      try dsimp only
      refine st_if e.s (st_test (K := K) (se_neY (se_co (f := (PyOf.py : (List PyData) → PyData)) co_py (FE.se (XE.fe (xe_call3p rfm (se_var (i := 5) (d := law_great_here_) rfl r_law_great_here_) (se_int (n := 1)) (se_iv (i := 6) (d := i2) rfl))))) (se_cop (f := (PyOf.py : (List PyData) → PyData)) co_py (FE.se (fe_lst (la_consp (se_cop (f := (PyOf.py : Str → PyData)) co_py (se_str (b := Str.ofString "great"))) (la_consp (se_cop (f := (PyOf.py : Bool → PyData)) co_py se_bl) la_nil))))))) hm (fun G1 H1 ce hm => ?_) (fun G1 H1 ce hm => ?_)
      · replace e := e.trans ce
        replace sg1 := sg1.trans ce.g
        replace sg2 := sg2.trans ce.g
        replace r_law_script_ := Rp.mono ce.g r_law_script_
        replace r_law_row_here_ := Rp.mono ce.g r_law_row_here_
        replace r_law_great_here_ := Rp.mono ce.g r_law_great_here_
        try dsimp only
        exact st_retL (RR := RV K) e rvm (SE.xe se_bl) hm hF2
      · replace e := e.trans ce
        replace sg1 := sg1.trans ce.g
        replace sg2 := sg2.trans ce.g
        replace r_law_script_ := Rp.mono ce.g r_law_script_
        replace r_law_row_here_ := Rp.mono ce.g r_law_row_here_
        replace r_law_great_here_ := Rp.mono ce.g r_law_great_here_
        refine st_next ?_
        cases hm
        exact hN _ _ _ _ rfl ⟨_, _, _, _, _, _, _, rfl, e, sg1, sg2, r_law_script_, r_law_row_here_, r_law_great_here_⟩
    · clear hw it
      subst eo
      replace hm := elim_inl hm
      obtain ⟨w_law_script_, w_law_row_here_, w_law_great_here_, j6, j7, j8, j9, es, e, sg1, sg2, r_law_script_, r_law_row_here_, r_law_great_here_⟩ := h
      subst es
      clear sg2
      try dsimp only
      refine st_seq ?_
      refine st_set (K := K) e.s (se_ixp (FE.se (fe_lst (la_consp (se_int (n := 17)) (la_consp (se_int (n := 34)) (la_consp (se_negp (se_int (n := 19))) (la_consp (se_int (n := 1105)) (la_consp (se_int (n := 0)) (la_consp (se_int (n := 1073741824)) la_nil)))))))) (se_modcp (se_divcp (se_iv (i := 3) (d := law_other_) rfl) (by decide)) (by decide))) hm (fun law_c_ w_law_c_ G1 H1 ce r_law_c_ hm => ?_)
      replace e := e.trans ce
      replace sg1 := sg1.trans ce.g
      replace r_law_script_ := Rp.mono ce.g r_law_script_
      replace r_law_row_here_ := Rp.mono ce.g r_law_row_here_
      replace r_law_great_here_ := Rp.mono ce.g r_law_great_here_
      have r_law_c_ : w_law_c_ = V.int law_c_ := r_law_c_; subst r_law_c_
      try dsimp only
      refine st_seq ?_
      refine st_if e.s (st_test (K := K) (se_neY (se_co (f := (PyOf.py : (List PyData) → PyData)) co_py (FE.se (XE.fe (xe_call3p rfm (se_var (i := 4) (d := law_row_here_) rfl r_law_row_here_) (se_iv (i := 7) (d := law_c_) rfl) (se_int (n := 1)))))) (se_cop (f := (PyOf.py : (List PyData) → PyData)) co_py (FE.se (fe_lst (la_consp (se_cop (f := (PyOf.py : Str → PyData)) co_py (se_str (b := Str.ofString "great"))) (la_consp (se_cop (f := (PyOf.py : Bool → PyData)) co_py se_bl) la_nil))))))) hm (fun G1 H1 ce hm => ?_) (fun G1 H1 ce hm => ?_)
      · replace e := e.trans ce
        replace sg1 := sg1.trans ce.g
        replace r_law_script_ := Rp.mono ce.g r_law_script_
        replace r_law_row_here_ := Rp.mono ce.g r_law_row_here_
        replace r_law_great_here_ := Rp.mono ce.g r_law_great_here_
        try dsimp only
        exact st_retL (RR := RV K) e rvm (SE.xe se_bl) hm hF1
      · replace e := e.trans ce
        replace sg1 := sg1.trans ce.g
        replace r_law_script_ := Rp.mono ce.g r_law_script_
        replace r_law_row_here_ := Rp.mono ce.g r_law_row_here_
        replace r_law_great_here_ := Rp.mono ce.g r_law_great_here_
        refine st_next ?_
        try dsimp only
        refine st_seq ?_
        refine st_set (K := K) e.s (FE.se (XE.fe (xe_call2p rfm (se_var (i := 4) (d := law_row_here_) rfl r_law_row_here_) (se_iv (i := 3) (d := law_other_) rfl)))) hm (fun law_bad_ w_law_bad_ G1 H1 ce r_law_bad_ hm => ?_)
        replace e := e.trans ce
        replace sg1 := sg1.trans ce.g
        replace r_law_script_ := Rp.mono ce.g r_law_script_
        replace r_law_row_here_ := Rp.mono ce.g r_law_row_here_
        replace r_law_great_here_ := Rp.mono ce.g r_law_great_here_
        try dsimp only
        refine st_seq ?_
        refine st_set (K := K) e.s (FE.se (fe_lst (la_consp (se_int (n := 0)) (la_consp (se_int (n := 1)) la_nil)))) hm (fun law_ways_ w_law_ways_ G1 H1 ce r_law_ways_ hm => ?_)
        replace e := e.trans ce
        replace sg1 := sg1.trans ce.g
        replace r_law_script_ := Rp.mono ce.g r_law_script_
        replace r_law_row_here_ := Rp.mono ce.g r_law_row_here_
        replace r_law_great_here_ := Rp.mono ce.g r_law_great_here_
        replace r_law_bad_ := Rp.mono ce.g r_law_bad_
        try dsimp only
        refine st_seq ?_
        obtain ⟨s3, hA, hm⟩ := bind_some hm
        refine st_join (fun σ H => ∃ G, ∃ (w_law_script_ : V) (w_law_row_here_ : V) (w_law_great_here_ : V) (j6 : Option V) (w_law_bad_ : V) (w_law_ways_ : V), σ = [some w_law_script_, some (V.int i1), some (V.int law_cell_), some (V.int law_other_), some w_law_row_here_, some w_law_great_here_, j6, some (V.int law_c_), some w_law_bad_, some w_law_ways_] ∧ Ext Ge He G H ∧ Same Gs1 G ∧ rep K G w_law_script_ law_script_ ∧ rep K G w_law_row_here_ law_row_here_ ∧ rep K G w_law_great_here_ law_great_here_ ∧ rep K G w_law_bad_ law_bad_ ∧ rep K G w_law_ways_ s3) (fun σ H h => ?_) (fun N hN => ?_)
        · obtain ⟨G, w_law_script_, w_law_row_here_, w_law_great_here_, j6, w_law_bad_, w_law_ways_, es, e, sg1, r_law_script_, r_law_row_here_, r_law_great_here_, r_law_bad_, r_law_ways_⟩ := h
          subst es
          try dsimp only
          refine st_seq ?_
          refine st_for (K := K) e.s (IB.ie (ib_list (se_var (i := 9) (d := s3) rfl r_law_ways_))) hm (fun xs J Gs4 Hs4 ce it hm => ?_)
          replace e := e.trans ce
          replace sg1 := sg1.trans ce.g
          replace r_law_script_ := Rp.mono ce.g r_law_script_
          replace r_law_row_here_ := Rp.mono ce.g r_law_row_here_
          replace r_law_great_here_ := Rp.mono ce.g r_law_great_here_
          replace r_law_bad_ := Rp.mono ce.g r_law_bad_
          replace r_law_ways_ := Rp.mono ce.g r_law_ways_
          have sg4 : Same Gs4 Gs4 := Same.refl _
          obtain ⟨o4, hw, hm⟩ := bind_some hm
          have hq4 : ∀ x, o4 = .inr x → ∀ u G' H', Ext Ge He G' H' → RV K He G' H' u x → Q u H' := fun x ex => by
            subst ex
            replace hm := elim_inr hm
            cases hm
            exact hF1 _ rfl
          refine lg_R (K := K) (fun (s4 : Unit) σ G H => ∃ (w_law_script_ : V) (w_law_row_here_ : V) (w_law_great_here_ : V) (j6 : Option V) (w_law_bad_ : V) (w_law_ways_ : V), σ = [some w_law_script_, some (V.int i1), some (V.int law_cell_), some (V.int law_other_), some w_law_row_here_, some w_law_great_here_, j6, some (V.int law_c_), some w_law_bad_, some w_law_ways_] ∧ Ext Ge He G H ∧ Same Gs1 G ∧ Same Gs4 G ∧ rep K G w_law_script_ law_script_ ∧ rep K G w_law_row_here_ law_row_here_ ∧ rep K G w_law_great_here_ law_great_here_ ∧ rep K G w_law_bad_ law_bad_ ∧ rep K G w_law_ways_ s3) it hw ⟨_, _, _, _, _, _, rfl, e, sg1, sg4, r_law_script_, r_law_row_here_, r_law_great_here_, r_law_bad_, r_law_ways_⟩ (fun s4 σ G H h => ?_) (fun s4 i4 f w4 σ G H G1 H1 N hx h ce hv hm2 hN hX hR => ?_) (fun z4 σ G H eo h => ?_)
          · obtain ⟨w_law_script_, w_law_row_here_, w_law_great_here_, j6, w_law_bad_, w_law_ways_, es, e, sg1, sg4, r_law_script_, r_law_row_here_, r_law_great_here_, r_law_bad_, r_law_ways_⟩ := h
            subst es
            exact ⟨sg4, e.s⟩
          · clear hw hm it
            have hm := hm2
            clear hm2
            have hF4 := fun x ex => hq4 x (hR x ex)
            obtain ⟨w_law_script_, w_law_row_here_, w_law_great_here_, j6, w_law_bad_, w_law_ways_, es, e, sg1, sg4, r_law_script_, r_law_row_here_, r_law_great_here_, r_law_bad_, r_law_ways_⟩ := h
            subst es
            replace e := e.trans ce
            replace sg1 := sg1.trans ce.g
            replace sg4 := sg4.trans ce.g
            replace r_law_script_ := Rp.mono ce.g r_law_script_
            replace r_law_row_here_ := Rp.mono ce.g r_law_row_here_
            replace r_law_great_here_ := Rp.mono ce.g r_law_great_here_
            replace r_law_bad_ := Rp.mono ce.g r_law_bad_
            replace r_law_ways_ := Rp.mono ce.g r_law_ways_
            refine g_name ?_
            have hv2 : w4 = V.int i4 := hv
            subst hv2
            clear hv
            try dsimp only
            refine st_if e.s (st_test (K := K) (se_neY (se_co (f := (PyOf.py : (List PyData) → PyData)) co_py (FE.se (XE.fe (xe_call3p rfm (se_var (i := 8) (d := law_bad_) rfl r_law_bad_) (se_int (n := 1)) (se_iv (i := 6) (d := i4) rfl))))) (se_cop (f := (PyOf.py : (List PyData) → PyData)) co_py (FE.se (fe_lst (la_consp (se_cop (f := (PyOf.py : Str → PyData)) co_py (se_str (b := Str.ofString "row"))) (la_consp (se_cop (f := (PyOf.py : Bool → PyData)) co_py se_bl) la_nil))))))) hm (fun G1 H1 ce hm => ?_) (fun G1 H1 ce hm => ?_)
            · replace e := e.trans ce
              replace sg1 := sg1.trans ce.g
              replace sg4 := sg4.trans ce.g
              replace r_law_script_ := Rp.mono ce.g r_law_script_
              replace r_law_row_here_ := Rp.mono ce.g r_law_row_here_
              replace r_law_great_here_ := Rp.mono ce.g r_law_great_here_
              replace r_law_bad_ := Rp.mono ce.g r_law_bad_
              replace r_law_ways_ := Rp.mono ce.g r_law_ways_
              try dsimp only
              exact st_retL (RR := RV K) e rvm (SE.xe se_bl) hm hF4
            · replace e := e.trans ce
              replace sg1 := sg1.trans ce.g
              replace sg4 := sg4.trans ce.g
              replace r_law_script_ := Rp.mono ce.g r_law_script_
              replace r_law_row_here_ := Rp.mono ce.g r_law_row_here_
              replace r_law_great_here_ := Rp.mono ce.g r_law_great_here_
              replace r_law_bad_ := Rp.mono ce.g r_law_bad_
              replace r_law_ways_ := Rp.mono ce.g r_law_ways_
              refine st_next ?_
              cases hm
              exact hN _ _ _ _ rfl ⟨_, _, _, _, _, _, rfl, e, sg1, sg4, r_law_script_, r_law_row_here_, r_law_great_here_, r_law_bad_, r_law_ways_⟩
          · clear hw it
            subst eo
            replace hm := elim_inl hm
            obtain ⟨w_law_script_, w_law_row_here_, w_law_great_here_, j6, w_law_bad_, w_law_ways_, es, e, sg1, sg4, r_law_script_, r_law_row_here_, r_law_great_here_, r_law_bad_, r_law_ways_⟩ := h
            subst es
            clear sg4
            try dsimp only
            refine st_if e.s (st_not (st_val (K := K) (XE.se (xe_call1p rvm (se_var (i := 8) (d := law_bad_) rfl r_law_bad_))))) hm (fun G1 H1 ce hm => ?_) (fun G1 H1 ce hm => ?_)
            · replace e := e.trans ce
              replace sg1 := sg1.trans ce.g
              replace r_law_script_ := Rp.mono ce.g r_law_script_
              replace r_law_row_here_ := Rp.mono ce.g r_law_row_here_
              replace r_law_great_here_ := Rp.mono ce.g r_law_great_here_
              replace r_law_bad_ := Rp.mono ce.g r_law_bad_
              replace r_law_ways_ := Rp.mono ce.g r_law_ways_
              try dsimp only
              exact st_retL (RR := RV K) e rvm (SE.xe se_bl) hm hF1
            · replace e := e.trans ce
              replace sg1 := sg1.trans ce.g
              replace r_law_script_ := Rp.mono ce.g r_law_script_
              replace r_law_row_here_ := Rp.mono ce.g r_law_row_here_
              replace r_law_great_here_ := Rp.mono ce.g r_law_great_here_
              replace r_law_bad_ := Rp.mono ce.g r_law_bad_
              replace r_law_ways_ := Rp.mono ce.g r_law_ways_
              refine st_next ?_
              cases hm
              exact hN _ _ _ _ rfl ⟨_, _, _, _, _, _, _, _, _, _, rfl, e, sg1, r_law_script_⟩
        · clear hm
          refine st_if e.s (st_orp (st_test (K := K) (se_eqp (se_lenp (se_var (i := 8) (d := law_bad_) rfl r_law_bad_)) (se_int (n := 2)))) (st_test (K := K) (se_eqp (se_lenp (se_var (i := 8) (d := law_bad_) rfl r_law_bad_)) (se_int (n := 3))))) hA (fun G1 H1 ce hm => ?_) (fun G1 H1 ce hm => ?_)
          · replace e := e.trans ce
            replace sg1 := sg1.trans ce.g
            replace r_law_script_ := Rp.mono ce.g r_law_script_
            replace r_law_row_here_ := Rp.mono ce.g r_law_row_here_
            replace r_law_great_here_ := Rp.mono ce.g r_law_great_here_
            replace r_law_bad_ := Rp.mono ce.g r_law_bad_
            replace r_law_ways_ := Rp.mono ce.g r_law_ways_
            try dsimp only
            refine st_set (K := K) e.s (FE.se (fe_lst (la_consp (se_int (n := 0)) (la_consp (se_int (n := 1)) (la_consp (se_int (n := 2)) la_nil))))) hm (fun law_ways_ w_law_ways_ G1 H1 ce r_law_ways_ hm => ?_)
            replace e := e.trans ce
            replace sg1 := sg1.trans ce.g
            replace r_law_script_ := Rp.mono ce.g r_law_script_
            replace r_law_row_here_ := Rp.mono ce.g r_law_row_here_
            replace r_law_great_here_ := Rp.mono ce.g r_law_great_here_
            replace r_law_bad_ := Rp.mono ce.g r_law_bad_
            cases hm
            exact hN _ _ ⟨_, _, _, _, _, _, _, rfl, e, sg1, r_law_script_, r_law_row_here_, r_law_great_here_, r_law_bad_, r_law_ways_⟩
          · replace e := e.trans ce
            replace sg1 := sg1.trans ce.g
            replace r_law_script_ := Rp.mono ce.g r_law_script_
            replace r_law_row_here_ := Rp.mono ce.g r_law_row_here_
            replace r_law_great_here_ := Rp.mono ce.g r_law_great_here_
            replace r_law_bad_ := Rp.mono ce.g r_law_bad_
            replace r_law_ways_ := Rp.mono ce.g r_law_ways_
            refine st_next ?_
            cases hm
            exact hN _ _ ⟨_, _, _, _, _, _, _, rfl, e, sg1, r_law_script_, r_law_row_here_, r_law_great_here_, r_law_bad_, r_law_ways_⟩
  · clear hw it
    subst eo
    replace hm := elim_inl hm
    obtain ⟨w_law_script_, j1, j2, j3, j4, j5, j6, j7, j8, j9, es, e, sg1, r_law_script_⟩ := h
    subst es
    clear sg1
    try dsimp only
    exact st_ret (RR := RV K) e rvm (SE.xe se_bl) hm q
end
theorem kc_SMALL_ {K : PySem.W.Frag} {b : Addr} {n : Nat} {od : Option Addr} {sl : Array (Option Value)} {u_SMALL__0 : Tok} {u_SMALL__1 : Tok} {u_SMALL__2 : Tok} {u_SMALL__3 : Tok} {u_SMALL__4 : Tok} {u_SMALL__5 : Tok} (h : K.lookup b = some ⟨.type "tuple", od, .seq ([Value.int 2 u_SMALL__0, Value.int 3 u_SMALL__1, Value.int 5 u_SMALL__2, Value.int 7 u_SMALL__3, Value.int 11 u_SMALL__4, Value.int 13 u_SMALL__5]).toArray n, sl⟩) (G : Hp) : rep K G (.ref b) Mir.c_SMALL_ := ⟨b, [V.int 2, V.int 3, V.int 5, V.int 7, V.int 11, V.int 13], rfl, .inr ⟨_, _, _, h, rfl, rfl, (show 6 ≤ sizeLine by decide), (.cons ⟨_, rfl⟩ (.cons ⟨_, rfl⟩ (.cons ⟨_, rfl⟩ (.cons ⟨_, rfl⟩ (.cons ⟨_, rfl⟩ (.cons ⟨_, rfl⟩ .nil))))))⟩, by decide, (.cons rfl (.cons rfl (.cons rfl (.cons rfl (.cons rfl (.cons rfl .nil))))))⟩
/-- the law: it hands back True where its mirror does -/
def spLaw (K : PySem.W.Frag) : Sp := fun vs H Q _ => ∃ (a : Addr) (ns : List Int), vs = [.ref a] ∧ SqL K H a (ns.map V.int) ∧ ns.length ≤ 63 ∧ Mir.law_ ⟨ns⟩ = some true ∧ ∀ H', Q (.bl true) H'
theorem ok_sp {P : Program} {w : World} {K : PySem.W.Frag} {mg : Str → Option Value} {base : Heap} (T : Txt K mg) : FnOk P w K mg base CX0 10 T.a_law_ T.d_law_ ["_law_script"] (spLaw K) := (ok_law_ T).imp fun vs H Q E ⟨a, ns, ev, hS, hl, hm, q⟩ =>
  ⟨H, _, ⟨ns⟩, true, ev, ⟨Same.refl H, fun _ hx => nomatch hx⟩, ⟨a, ns.map V.int, rfl, hS, by rw [List.length_map]; exact Nat.le_trans hl (by decide), reps_ints ns⟩, hm, fun u G' H' _ hu => by rw [show u = V.bl true from hu]; exact q H'⟩
theorem all_mk {l : PySem.W.OpenLaw} {w : World} {K : PySem.W.Frag} {h : Heap} {mg : Str → Option Value} {fa : Addr} (X : K.In h) (G : h.Ns mainGlobals mg) (hfa : mg "law" = some (.ref fa)) {f0 : Addr} {f1 : Addr} {f2 : Addr} {f3 : Addr} {f4 : Addr} {f5 : Addr} {f6 : Addr} {f7 : Addr} {f8 : Addr} {f9 : Addr} {f10 : Addr} {f11 : Addr} {f12 : Addr} {f13 : Addr} {f14 : Addr} {f15 : Addr} {f16 : Addr} {f17 : Addr} {f18 : Addr} {f19 : Addr} {f20 : Addr} {f21 : Addr} {f22 : Addr} {f23 : Addr} {f24 : Addr} {f25 : Addr} {f26 : Addr} {f27 : Addr} {f28 : Addr} {f29 : Addr} {f30 : Addr} {f31 : Addr} {f32 : Addr} {f33 : Addr} {f34 : Addr} {f35 : Addr} {f36 : Addr} {f37 : Addr} {f38 : Addr} {f39 : Addr} {f40 : Addr} {f41 : Addr} {f42 : Addr} {od0 an0 od1 an1 od2 an2 od3 an3 od4 an4 od5 an5 od6 an6 od7 an7 od8 an8 od9 an9 od10 an10 od11 an11 od12 an12 od13 an13 od14 an14 od15 an15 od16 an16 od17 an17 od18 an18 od19 an19 od20 an20 od21 an21 od22 an22 od23 an23 od24 an24 od25 an25 od26 an26 od27 an27 od28 an28 od29 an29 od30 an30 od31 an31 od32 an32 od33 an33 od34 an34 od35 an35 od36 an36 od37 an37 od38 an38 od39 an39 od40 an40 od41 an41 od42 an42 : Option Addr} {sl0 sl1 sl2 sl3 sl4 sl5 sl6 sl7 sl8 sl9 sl10 sl11 sl12 sl13 sl14 sl15 sl16 sl17 sl18 sl19 sl20 sl21 sl22 sl23 sl24 sl25 sl26 sl27 sl28 sl29 sl30 sl31 sl32 sl33 sl34 sl35 sl36 sl37 sl38 sl39 sl40 sl41 sl42 : Array (Option Value)} {oc0 kV0 dc0 pm0 cd0 ct0 oc1 kV1 dc1 pm1 cd1 ct1 oc2 kV2 dc2 pm2 cd2 ct2 oc3 kV3 dc3 pm3 cd3 ct3 oc4 kV4 dc4 pm4 cd4 ct4 oc5 kV5 dc5 pm5 cd5 ct5 oc6 kV6 dc6 pm6 cd6 ct6 oc7 kV7 dc7 pm7 cd7 ct7 oc8 kV8 dc8 pm8 cd8 ct8 oc9 kV9 dc9 pm9 cd9 ct9 oc10 kV10 dc10 pm10 cd10 ct10 oc11 kV11 dc11 pm11 cd11 ct11 oc12 kV12 dc12 pm12 cd12 ct12 oc13 kV13 dc13 pm13 cd13 ct13 oc14 kV14 dc14 pm14 cd14 ct14 oc15 kV15 dc15 pm15 cd15 ct15 oc16 kV16 dc16 pm16 cd16 ct16 oc17 kV17 dc17 pm17 cd17 ct17 oc18 kV18 dc18 pm18 cd18 ct18 oc19 kV19 dc19 pm19 cd19 ct19 oc20 kV20 dc20 pm20 cd20 ct20 oc21 kV21 dc21 pm21 cd21 ct21 oc22 kV22 dc22 pm22 cd22 ct22 oc23 kV23 dc23 pm23 cd23 ct23 oc24 kV24 dc24 pm24 cd24 ct24 oc25 kV25 dc25 pm25 cd25 ct25 oc26 kV26 dc26 pm26 cd26 ct26 oc27 kV27 dc27 pm27 cd27 ct27 oc28 kV28 dc28 pm28 cd28 ct28 oc29 kV29 dc29 pm29 cd29 ct29 oc30 kV30 dc30 pm30 cd30 ct30 oc31 kV31 dc31 pm31 cd31 ct31 oc32 kV32 dc32 pm32 cd32 ct32 oc33 kV33 dc33 pm33 cd33 ct33 oc34 kV34 dc34 pm34 cd34 ct34 oc35 kV35 dc35 pm35 cd35 ct35 oc36 kV36 dc36 pm36 cd36 ct36 oc37 kV37 dc37 pm37 cd37 ct37 oc38 kV38 dc38 pm38 cd38 ct38 oc39 kV39 dc39 pm39 cd39 ct39 oc40 kV40 dc40 pm40 cd40 ct40 oc41 kV41 dc41 pm41 cd41 ct41 oc42 kV42 dc42 pm42 cd42 ct42 : Value}
    (a0 : PySem.W.nsIn K mainGlobals "_law_cell_at" = some (some (.ref f0))) (l0 : K.lookup f0 = some ⟨oc0, od0, .func (PySem.W.fnOf "_law_cell_at" "_law_cell_at" (defArgs s_law_cell_at_) (defBody s_law_cell_at_) (defScope s_law_cell_at_) .none kV0 dc0 pm0 an0 cd0 ct0), sl0⟩) (c0 : PySem.W.codeIn K cd0 "_law_cell_at" = true) (k0 : PySem.W.keepIn K (.ref f0) = true)
    (a1 : PySem.W.nsIn K mainGlobals "_law_big" = some (some (.ref f1))) (l1 : K.lookup f1 = some ⟨oc1, od1, .func (PySem.W.fnOf "_law_big" "_law_big" (defArgs s_law_big_) (defBody s_law_big_) (defScope s_law_big_) .none kV1 dc1 pm1 an1 cd1 ct1), sl1⟩) (c1 : PySem.W.codeIn K cd1 "_law_big" = true) (k1 : PySem.W.keepIn K (.ref f1) = true)
    (a2 : PySem.W.nsIn K mainGlobals "_law_small" = some (some (.ref f2))) (l2 : K.lookup f2 = some ⟨oc2, od2, .func (PySem.W.fnOf "_law_small" "_law_small" (defArgs s_law_small_) (defBody s_law_small_) (defScope s_law_small_) .none kV2 dc2 pm2 an2 cd2 ct2), sl2⟩) (c2 : PySem.W.codeIn K cd2 "_law_small" = true) (k2 : PySem.W.keepIn K (.ref f2) = true)
    (a3 : PySem.W.nsIn K mainGlobals "_law_row" = some (some (.ref f3))) (l3 : K.lookup f3 = some ⟨oc3, od3, .func (PySem.W.fnOf "_law_row" "_law_row" (defArgs s_law_row_) (defBody s_law_row_) (defScope s_law_row_) .none kV3 dc3 pm3 an3 cd3 ct3), sl3⟩) (c3 : PySem.W.codeIn K cd3 "_law_row" = true) (k3 : PySem.W.keepIn K (.ref f3) = true)
    (a4 : PySem.W.nsIn K mainGlobals "_law_great" = some (some (.ref f4))) (l4 : K.lookup f4 = some ⟨oc4, od4, .func (PySem.W.fnOf "_law_great" "_law_great" (defArgs s_law_great_) (defBody s_law_great_) (defScope s_law_great_) .none kV4 dc4 pm4 an4 cd4 ct4), sl4⟩) (c4 : PySem.W.codeIn K cd4 "_law_great" = true) (k4 : PySem.W.keepIn K (.ref f4) = true)
    (a5 : PySem.W.nsIn K mainGlobals "is_row" = some (some (.ref f5))) (l5 : K.lookup f5 = some ⟨oc5, od5, .func (PySem.W.fnOf "is_row" "is_row" (defArgs s_is_row_) (defBody s_is_row_) (defScope s_is_row_) .none kV5 dc5 pm5 an5 cd5 ct5), sl5⟩) (c5 : PySem.W.codeIn K cd5 "is_row" = true) (k5 : PySem.W.keepIn K (.ref f5) = true)
    (a6 : PySem.W.nsIn K mainGlobals "must_be_row" = some (some (.ref f6))) (l6 : K.lookup f6 = some ⟨oc6, od6, .func (PySem.W.fnOf "must_be_row" "must_be_row" (defArgs s_must_be_row_) (defBody s_must_be_row_) (defScope s_must_be_row_) .none kV6 dc6 pm6 an6 cd6 ct6), sl6⟩) (c6 : PySem.W.codeIn K cd6 "must_be_row" = true) (k6 : PySem.W.keepIn K (.ref f6) = true)
    (a7 : PySem.W.nsIn K mainGlobals "tried" = some (some (.ref f7))) (l7 : K.lookup f7 = some ⟨oc7, od7, .func (PySem.W.fnOf "tried" "tried" (defArgs s_tried_) (defBody s_tried_) (defScope s_tried_) .none kV7 dc7 pm7 an7 cd7 ct7), sl7⟩) (c7 : PySem.W.codeIn K cd7 "tried" = true) (k7 : PySem.W.keepIn K (.ref f7) = true)
    (a8 : PySem.W.nsIn K mainGlobals "whole_root" = some (some (.ref f8))) (l8 : K.lookup f8 = some ⟨oc8, od8, .func (PySem.W.fnOf "whole_root" "whole_root" (defArgs s_whole_root_) (defBody s_whole_root_) (defScope s_whole_root_) .none kV8 dc8 pm8 an8 cd8 ct8), sl8⟩) (c8 : PySem.W.codeIn K cd8 "whole_root" = true) (k8 : PySem.W.keepIn K (.ref f8) = true)
    (a9 : PySem.W.nsIn K mainGlobals "is_square" = some (some (.ref f9))) (l9 : K.lookup f9 = some ⟨oc9, od9, .func (PySem.W.fnOf "is_square" "is_square" (defArgs s_is_square_) (defBody s_is_square_) (defScope s_is_square_) .none kV9 dc9 pm9 an9 cd9 ct9), sl9⟩) (c9 : PySem.W.codeIn K cd9 "is_square" = true) (k9 : PySem.W.keepIn K (.ref f9) = true)
    (a10 : PySem.W.nsIn K mainGlobals "free_of" = some (some (.ref f10))) (l10 : K.lookup f10 = some ⟨oc10, od10, .func (PySem.W.fnOf "free_of" "free_of" (defArgs s_free_of_) (defBody s_free_of_) (defScope s_free_of_) .none kV10 dc10 pm10 an10 cd10 ct10), sl10⟩) (c10 : PySem.W.codeIn K cd10 "free_of" = true) (k10 : PySem.W.keepIn K (.ref f10) = true)
    (a11 : PySem.W.nsIn K mainGlobals "is_small" = some (some (.ref f11))) (l11 : K.lookup f11 = some ⟨oc11, od11, .func (PySem.W.fnOf "is_small" "is_small" (defArgs s_is_small_) (defBody s_is_small_) (defScope s_is_small_) .none kV11 dc11 pm11 an11 cd11 ct11), sl11⟩) (c11 : PySem.W.codeIn K cd11 "is_small" = true) (k11 : PySem.W.keepIn K (.ref f11) = true)
    (a12 : PySem.W.nsIn K mainGlobals "must_be_small" = some (some (.ref f12))) (l12 : K.lookup f12 = some ⟨oc12, od12, .func (PySem.W.fnOf "must_be_small" "must_be_small" (defArgs s_must_be_small_) (defBody s_must_be_small_) (defScope s_must_be_small_) .none kV12 dc12 pm12 an12 cd12 ct12), sl12⟩) (c12 : PySem.W.codeIn K cd12 "must_be_small" = true) (k12 : PySem.W.keepIn K (.ref f12) = true)
    (a13 : PySem.W.nsIn K mainGlobals "zero_of" = some (some (.ref f13))) (l13 : K.lookup f13 = some ⟨oc13, od13, .func (PySem.W.fnOf "zero_of" "zero_of" (defArgs s_zero_of_) (defBody s_zero_of_) (defScope s_zero_of_) .none kV13 dc13 pm13 an13 cd13 ct13), sl13⟩) (c13 : PySem.W.codeIn K cd13 "zero_of" = true) (k13 : PySem.W.keepIn K (.ref f13) = true)
    (a14 : PySem.W.nsIn K mainGlobals "values_for" = some (some (.ref f14))) (l14 : K.lookup f14 = some ⟨oc14, od14, .func (PySem.W.fnOf "values_for" "values_for" (defArgs s_values_for_) (defBody s_values_for_) (defScope s_values_for_) .none kV14 dc14 pm14 an14 cd14 ct14), sl14⟩) (c14 : PySem.W.codeIn K cd14 "values_for" = true) (k14 : PySem.W.keepIn K (.ref f14) = true)
    (a15 : PySem.W.nsIn K mainGlobals "zero_of_two" = some (some (.ref f15))) (l15 : K.lookup f15 = some ⟨oc15, od15, .func (PySem.W.fnOf "zero_of_two" "zero_of_two" (defArgs s_zero_of_two_) (defBody s_zero_of_two_) (defScope s_zero_of_two_) .none kV15 dc15 pm15 an15 cd15 ct15), sl15⟩) (c15 : PySem.W.codeIn K cd15 "zero_of_two" = true) (k15 : PySem.W.keepIn K (.ref f15) = true)
    (a16 : PySem.W.nsIn K mainGlobals "zero_of_three" = some (some (.ref f16))) (l16 : K.lookup f16 = some ⟨oc16, od16, .func (PySem.W.fnOf "zero_of_three" "zero_of_three" (defArgs s_zero_of_three_) (defBody s_zero_of_three_) (defScope s_zero_of_three_) .none kV16 dc16 pm16 an16 cd16 ct16), sl16⟩) (c16 : PySem.W.codeIn K cd16 "zero_of_three" = true) (k16 : PySem.W.keepIn K (.ref f16) = true)
    (a17 : PySem.W.nsIn K mainGlobals "_law_word" = some (some (.ref f17))) (l17 : K.lookup f17 = some ⟨oc17, od17, .func (PySem.W.fnOf "_law_word" "_law_word" (defArgs s_law_word_) (defBody s_law_word_) (defScope s_law_word_) .none kV17 dc17 pm17 an17 cd17 ct17), sl17⟩) (c17 : PySem.W.codeIn K cd17 "_law_word" = true) (k17 : PySem.W.keepIn K (.ref f17) = true)
    (a18 : PySem.W.nsIn K mainGlobals "_law_asked" = some (some (.ref f18))) (l18 : K.lookup f18 = some ⟨oc18, od18, .func (PySem.W.fnOf "_law_asked" "_law_asked" (defArgs s_law_asked_) (defBody s_law_asked_) (defScope s_law_asked_) .none kV18 dc18 pm18 an18 cd18 ct18), sl18⟩) (c18 : PySem.W.codeIn K cd18 "_law_asked" = true) (k18 : PySem.W.keepIn K (.ref f18) = true)
    (a19 : PySem.W.nsIn K mainGlobals "_law_no_row" = some (some (.ref f19))) (l19 : K.lookup f19 = some ⟨oc19, od19, .func (PySem.W.fnOf "_law_no_row" "_law_no_row" (defArgs s_law_no_row_) (defBody s_law_no_row_) (defScope s_law_no_row_) .none kV19 dc19 pm19 an19 cd19 ct19), sl19⟩) (c19 : PySem.W.codeIn K cd19 "_law_no_row" = true) (k19 : PySem.W.keepIn K (.ref f19) = true)
    (a20 : PySem.W.nsIn K mainGlobals "stepped" = some (some (.ref f20))) (l20 : K.lookup f20 = some ⟨oc20, od20, .func (PySem.W.fnOf "stepped" "stepped" (defArgs s_stepped_) (defBody s_stepped_) (defScope s_stepped_) .none kV20 dc20 pm20 an20 cd20 ct20), sl20⟩) (c20 : PySem.W.codeIn K cd20 "stepped" = true) (k20 : PySem.W.keepIn K (.ref f20) = true)
    (a21 : PySem.W.nsIn K mainGlobals "change_of" = some (some (.ref f21))) (l21 : K.lookup f21 = some ⟨oc21, od21, .func (PySem.W.fnOf "change_of" "change_of" (defArgs s_change_of_) (defBody s_change_of_) (defScope s_change_of_) .none kV21 dc21 pm21 an21 cd21 ct21), sl21⟩) (c21 : PySem.W.codeIn K cd21 "change_of" = true) (k21 : PySem.W.keepIn K (.ref f21) = true)
    (a22 : PySem.W.nsIn K mainGlobals "all_stepped" = some (some (.ref f22))) (l22 : K.lookup f22 = some ⟨oc22, od22, .func (PySem.W.fnOf "all_stepped" "all_stepped" (defArgs s_all_stepped_) (defBody s_all_stepped_) (defScope s_all_stepped_) .none kV22 dc22 pm22 an22 cd22 ct22), sl22⟩) (c22 : PySem.W.codeIn K cd22 "all_stepped" = true) (k22 : PySem.W.keepIn K (.ref f22) = true)
    (a23 : PySem.W.nsIn K mainGlobals "parts" = some (some (.ref f23))) (l23 : K.lookup f23 = some ⟨oc23, od23, .func (PySem.W.fnOf "parts" "parts" (defArgs s_parts_) (defBody s_parts_) (defScope s_parts_) .none kV23 dc23 pm23 an23 cd23 ct23), sl23⟩) (c23 : PySem.W.codeIn K cd23 "parts" = true) (k23 : PySem.W.keepIn K (.ref f23) = true)
    (a24 : PySem.W.nsIn K mainGlobals "places_of" = some (some (.ref f24))) (l24 : K.lookup f24 = some ⟨oc24, od24, .func (PySem.W.fnOf "places_of" "places_of" (defArgs s_places_of_) (defBody s_places_of_) (defScope s_places_of_) .none kV24 dc24 pm24 an24 cd24 ct24), sl24⟩) (c24 : PySem.W.codeIn K cd24 "places_of" = true) (k24 : PySem.W.keepIn K (.ref f24) = true)
    (a25 : PySem.W.nsIn K mainGlobals "split_at" = some (some (.ref f25))) (l25 : K.lookup f25 = some ⟨oc25, od25, .func (PySem.W.fnOf "split_at" "split_at" (defArgs s_split_at_) (defBody s_split_at_) (defScope s_split_at_) .none kV25 dc25 pm25 an25 cd25 ct25), sl25⟩) (c25 : PySem.W.codeIn K cd25 "split_at" = true) (k25 : PySem.W.keepIn K (.ref f25) = true)
    (a26 : PySem.W.nsIn K mainGlobals "turns_at_two" = some (some (.ref f26))) (l26 : K.lookup f26 = some ⟨oc26, od26, .func (PySem.W.fnOf "turns_at_two" "turns_at_two" (defArgs s_turns_at_two_) (defBody s_turns_at_two_) (defScope s_turns_at_two_) .none kV26 dc26 pm26 an26 cd26 ct26), sl26⟩) (c26 : PySem.W.codeIn K cd26 "turns_at_two" = true) (k26 : PySem.W.keepIn K (.ref f26) = true)
    (a27 : PySem.W.nsIn K mainGlobals "power_by" = some (some (.ref f27))) (l27 : K.lookup f27 = some ⟨oc27, od27, .func (PySem.W.fnOf "power_by" "power_by" (defArgs s_power_by_) (defBody s_power_by_) (defScope s_power_by_) .none kV27 dc27 pm27 an27 cd27 ct27), sl27⟩) (c27 : PySem.W.codeIn K cd27 "power_by" = true) (k27 : PySem.W.keepIn K (.ref f27) = true)
    (a28 : PySem.W.nsIn K mainGlobals "square_by" = some (some (.ref f28))) (l28 : K.lookup f28 = some ⟨oc28, od28, .func (PySem.W.fnOf "square_by" "square_by" (defArgs s_square_by_) (defBody s_square_by_) (defScope s_square_by_) .none kV28 dc28 pm28 an28 cd28 ct28), sl28⟩) (c28 : PySem.W.codeIn K cd28 "square_by" = true) (k28 : PySem.W.keepIn K (.ref f28) = true)
    (a29 : PySem.W.nsIn K mainGlobals "turns_at_odd" = some (some (.ref f29))) (l29 : K.lookup f29 = some ⟨oc29, od29, .func (PySem.W.fnOf "turns_at_odd" "turns_at_odd" (defArgs s_turns_at_odd_) (defBody s_turns_at_odd_) (defScope s_turns_at_odd_) .none kV29 dc29 pm29 an29 cd29 ct29), sl29⟩) (c29 : PySem.W.codeIn K cd29 "turns_at_odd" = true) (k29 : PySem.W.keepIn K (.ref f29) = true)
    (a30 : PySem.W.nsIn K mainGlobals "says" = some (some (.ref f30))) (l30 : K.lookup f30 = some ⟨oc30, od30, .func (PySem.W.fnOf "says" "says" (defArgs s_says_) (defBody s_says_) (defScope s_says_) .none kV30 dc30 pm30 an30 cd30 ct30), sl30⟩) (c30 : PySem.W.codeIn K cd30 "says" = true) (k30 : PySem.W.keepIn K (.ref f30) = true)
    (a31 : PySem.W.nsIn K mainGlobals "is_odd_at" = some (some (.ref f31))) (l31 : K.lookup f31 = some ⟨oc31, od31, .func (PySem.W.fnOf "is_odd_at" "is_odd_at" (defArgs s_is_odd_at_) (defBody s_is_odd_at_) (defScope s_is_odd_at_) .none kV31 dc31 pm31 an31 cd31 ct31), sl31⟩) (c31 : PySem.W.codeIn K cd31 "is_odd_at" = true) (k31 : PySem.W.keepIn K (.ref f31) = true)
    (a32 : PySem.W.nsIn K mainGlobals "noes_of" = some (some (.ref f32))) (l32 : K.lookup f32 = some ⟨oc32, od32, .func (PySem.W.fnOf "noes_of" "noes_of" (defArgs s_noes_of_) (defBody s_noes_of_) (defScope s_noes_of_) .none kV32 dc32 pm32 an32 cd32 ct32), sl32⟩) (c32 : PySem.W.codeIn K cd32 "noes_of" = true) (k32 : PySem.W.keepIn K (.ref f32) = true)
    (a33 : PySem.W.nsIn K mainGlobals "how_many_pairs" = some (some (.ref f33))) (l33 : K.lookup f33 = some ⟨oc33, od33, .func (PySem.W.fnOf "how_many_pairs" "how_many_pairs" (defArgs s_how_many_pairs_) (defBody s_how_many_pairs_) (defScope s_how_many_pairs_) .none kV33 dc33 pm33 an33 cd33 ct33), sl33⟩) (c33 : PySem.W.codeIn K cd33 "how_many_pairs" = true) (k33 : PySem.W.keepIn K (.ref f33) = true)
    (a34 : PySem.W.nsIn K mainGlobals "must_be_free" = some (some (.ref f34))) (l34 : K.lookup f34 = some ⟨oc34, od34, .func (PySem.W.fnOf "must_be_free" "must_be_free" (defArgs s_must_be_free_) (defBody s_must_be_free_) (defScope s_must_be_free_) .none kV34 dc34 pm34 an34 cd34 ct34), sl34⟩) (c34 : PySem.W.codeIn K cd34 "must_be_free" = true) (k34 : PySem.W.keepIn K (.ref f34) = true)
    (a35 : PySem.W.nsIn K mainGlobals "parted" = some (some (.ref f35))) (l35 : K.lookup f35 = some ⟨oc35, od35, .func (PySem.W.fnOf "parted" "parted" (defArgs s_parted_) (defBody s_parted_) (defScope s_parted_) .none kV35 dc35 pm35 an35 cd35 ct35), sl35⟩) (c35 : PySem.W.codeIn K cd35 "parted" = true) (k35 : PySem.W.keepIn K (.ref f35) = true)
    (a36 : PySem.W.nsIn K mainGlobals "leading" = some (some (.ref f36))) (l36 : K.lookup f36 = some ⟨oc36, od36, .func (PySem.W.fnOf "leading" "leading" (defArgs s_leading_) (defBody s_leading_) (defScope s_leading_) .none kV36 dc36 pm36 an36 cd36 ct36), sl36⟩) (c36 : PySem.W.codeIn K cd36 "leading" = true) (k36 : PySem.W.keepIn K (.ref f36) = true)
    (a37 : PySem.W.nsIn K mainGlobals "parting" = some (some (.ref f37))) (l37 : K.lookup f37 = some ⟨oc37, od37, .func (PySem.W.fnOf "parting" "parting" (defArgs s_parting_) (defBody s_parting_) (defScope s_parting_) .none kV37 dc37 pm37 an37 cd37 ct37), sl37⟩) (c37 : PySem.W.codeIn K cd37 "parting" = true) (k37 : PySem.W.keepIn K (.ref f37) = true)
    (a38 : PySem.W.nsIn K mainGlobals "point_of" = some (some (.ref f38))) (l38 : K.lookup f38 = some ⟨oc38, od38, .func (PySem.W.fnOf "point_of" "point_of" (defArgs s_point_of_) (defBody s_point_of_) (defScope s_point_of_) .none kV38 dc38 pm38 an38 cd38 ct38), sl38⟩) (c38 : PySem.W.codeIn K cd38 "point_of" = true) (k38 : PySem.W.keepIn K (.ref f38) = true)
    (a39 : PySem.W.nsIn K mainGlobals "line_of" = some (some (.ref f39))) (l39 : K.lookup f39 = some ⟨oc39, od39, .func (PySem.W.fnOf "line_of" "line_of" (defArgs s_line_of_) (defBody s_line_of_) (defScope s_line_of_) .none kV39 dc39 pm39 an39 cd39 ct39), sl39⟩) (c39 : PySem.W.codeIn K cd39 "line_of" = true) (k39 : PySem.W.keepIn K (.ref f39) = true)
    (a40 : PySem.W.nsIn K mainGlobals "_law_door" = some (some (.ref f40))) (l40 : K.lookup f40 = some ⟨oc40, od40, .func (PySem.W.fnOf "_law_door" "_law_door" (defArgs s_law_door_) (defBody s_law_door_) (defScope s_law_door_) .none kV40 dc40 pm40 an40 cd40 ct40), sl40⟩) (c40 : PySem.W.codeIn K cd40 "_law_door" = true) (k40 : PySem.W.keepIn K (.ref f40) = true)
    (a41 : PySem.W.nsIn K mainGlobals "_law_doors" = some (some (.ref f41))) (l41 : K.lookup f41 = some ⟨oc41, od41, .func (PySem.W.fnOf "_law_doors" "_law_doors" (defArgs s_law_doors_) (defBody s_law_doors_) (defScope s_law_doors_) .none kV41 dc41 pm41 an41 cd41 ct41), sl41⟩) (c41 : PySem.W.codeIn K cd41 "_law_doors" = true) (k41 : PySem.W.keepIn K (.ref f41) = true)
    (a42 : PySem.W.nsIn K mainGlobals "law" = some (some (.ref f42))) (l42 : K.lookup f42 = some ⟨oc42, od42, .func (PySem.W.fnOf "law" "law" (defArgs s_law_) (defBody s_law_) (defScope s_law_) .none kV42 dc42 pm42 an42 cd42 ct42), sl42⟩) (c42 : PySem.W.codeIn K cd42 "law" = true) (k42 : PySem.W.keepIn K (.ref f42) = true)
    (z_abs : PySem.W.nsIn K mainGlobals "abs" = some none)
    (z_bool : PySem.W.nsIn K mainGlobals "bool" = some none)
    (z_int : PySem.W.nsIn K mainGlobals "int" = some none)
    (z_isinstance : PySem.W.nsIn K mainGlobals "isinstance" = some none)
    (z_len : PySem.W.nsIn K mainGlobals "len" = some none)
    (z_list : PySem.W.nsIn K mainGlobals "list" = some none)
    (z_min : PySem.W.nsIn K mainGlobals "min" = some none)
    (z_range : PySem.W.nsIn K mainGlobals "range" = some none)
    (z_sorted : PySem.W.nsIn K mainGlobals "sorted" = some none)
    {x_TooGreat : Addr} {x_NoText : Addr} {x_NoRow : Addr} {x_NoStep : Addr}
    (y_TooGreat : PySem.W.nsIn K mainGlobals "TooGreat" = some (some (.ref x_TooGreat)))
    (xN_TooGreat : PySem.W.excIn K x_TooGreat [.type "ValueError", .type "Exception", .type "BaseException", .type "object"] "ValueError.__new__" = true)
    (xk_TooGreat : PySem.W.keepIn K (.ref x_TooGreat) = true)
    (xs_TooGreat : PySem.W.subIn K (.ref x_TooGreat) (.type "BaseException") = some true)
    (xt_TooGreat : PySem.W.typeIn K (.ref x_TooGreat) = some (.type "type"))
    (xV_TooGreat : PySem.W.subIn K (.ref x_TooGreat) (.type "ValueError") = some true)
    (xS_TooGreat : PySem.W.subIn K (.ref x_TooGreat) (.ref x_TooGreat) = some true)
    (ya_TooGreat : PySem.W.findIn K (.ref x_TooGreat) "__getattribute__" = some (some (.builtin "BaseException.__getattribute__")))
    (yb_TooGreat : PySem.W.findIn K (.ref x_TooGreat) "__getattr__" = some none)
    (yd_TooGreat : PySem.W.hasDictIn K x_TooGreat = true)
    (ye_TooGreat : PySem.W.findIn K (.ref x_TooGreat) "__class__" = some (some (.builtin "object.__class__")))
    (yi_TooGreat : PySem.W.mroIn K x_TooGreat (.type "object") = some true)
    (y_NoText : PySem.W.nsIn K mainGlobals "NoText" = some (some (.ref x_NoText)))
    (xN_NoText : PySem.W.excIn K x_NoText [.type "ValueError", .type "Exception", .type "BaseException", .type "object"] "ValueError.__new__" = true)
    (xk_NoText : PySem.W.keepIn K (.ref x_NoText) = true)
    (xs_NoText : PySem.W.subIn K (.ref x_NoText) (.type "BaseException") = some true)
    (xt_NoText : PySem.W.typeIn K (.ref x_NoText) = some (.type "type"))
    (xV_NoText : PySem.W.subIn K (.ref x_NoText) (.type "ValueError") = some true)
    (xS_NoText : PySem.W.subIn K (.ref x_NoText) (.ref x_NoText) = some true)
    (ya_NoText : PySem.W.findIn K (.ref x_NoText) "__getattribute__" = some (some (.builtin "BaseException.__getattribute__")))
    (yb_NoText : PySem.W.findIn K (.ref x_NoText) "__getattr__" = some none)
    (yd_NoText : PySem.W.hasDictIn K x_NoText = true)
    (ye_NoText : PySem.W.findIn K (.ref x_NoText) "__class__" = some (some (.builtin "object.__class__")))
    (yi_NoText : PySem.W.mroIn K x_NoText (.type "object") = some true)
    (y_NoRow : PySem.W.nsIn K mainGlobals "NoRow" = some (some (.ref x_NoRow)))
    (xN_NoRow : PySem.W.excIn K x_NoRow [.type "ValueError", .type "Exception", .type "BaseException", .type "object"] "ValueError.__new__" = true)
    (xk_NoRow : PySem.W.keepIn K (.ref x_NoRow) = true)
    (xs_NoRow : PySem.W.subIn K (.ref x_NoRow) (.type "BaseException") = some true)
    (xt_NoRow : PySem.W.typeIn K (.ref x_NoRow) = some (.type "type"))
    (xV_NoRow : PySem.W.subIn K (.ref x_NoRow) (.type "ValueError") = some true)
    (xS_NoRow : PySem.W.subIn K (.ref x_NoRow) (.ref x_NoRow) = some true)
    (ya_NoRow : PySem.W.findIn K (.ref x_NoRow) "__getattribute__" = some (some (.builtin "BaseException.__getattribute__")))
    (yb_NoRow : PySem.W.findIn K (.ref x_NoRow) "__getattr__" = some none)
    (yd_NoRow : PySem.W.hasDictIn K x_NoRow = true)
    (ye_NoRow : PySem.W.findIn K (.ref x_NoRow) "__class__" = some (some (.builtin "object.__class__")))
    (yi_NoRow : PySem.W.mroIn K x_NoRow (.type "object") = some true)
    (y_NoStep : PySem.W.nsIn K mainGlobals "NoStep" = some (some (.ref x_NoStep)))
    (xN_NoStep : PySem.W.excIn K x_NoStep [.type "ValueError", .type "Exception", .type "BaseException", .type "object"] "ValueError.__new__" = true)
    (xk_NoStep : PySem.W.keepIn K (.ref x_NoStep) = true)
    (xs_NoStep : PySem.W.subIn K (.ref x_NoStep) (.type "BaseException") = some true)
    (xt_NoStep : PySem.W.typeIn K (.ref x_NoStep) = some (.type "type"))
    (xV_NoStep : PySem.W.subIn K (.ref x_NoStep) (.type "ValueError") = some true)
    (xS_NoStep : PySem.W.subIn K (.ref x_NoStep) (.ref x_NoStep) = some true)
    (ya_NoStep : PySem.W.findIn K (.ref x_NoStep) "__getattribute__" = some (some (.builtin "BaseException.__getattribute__")))
    (yb_NoStep : PySem.W.findIn K (.ref x_NoStep) "__getattr__" = some none)
    (yd_NoStep : PySem.W.hasDictIn K x_NoStep = true)
    (ye_NoStep : PySem.W.findIn K (.ref x_NoStep) "__class__" = some (some (.builtin "object.__class__")))
    (yi_NoStep : PySem.W.mroIn K x_NoStep (.type "object") = some true)
    (yg : PySem.W.specialIn K (.builtin "object.__class__") "__get__" = some (some (.builtin "getset_descriptor.__get__")))
    (yh : PySem.W.takesIn K (.builtin "object.__class__") = some true)
    {v_FormError : Addr}
    (yv_FormError : PySem.W.nsIn K mainGlobals "FormError" = some (some (.ref v_FormError)))
    (yd_FormError : PySem.W.hasDictIn K v_FormError = true)
    (xt_FormError : PySem.W.typeIn K (.ref v_FormError) = some (.type "type"))
    (xS_FormError : PySem.W.subIn K (.ref v_FormError) (.ref v_FormError) = some true)
    (xs_FormError : PySem.W.subIn K (.ref v_FormError) (.type "BaseException") = some true)
    (xo_TooGreat_FormError : PySem.W.subIn K (.ref x_TooGreat) (.ref v_FormError) = some true)
    (xo_NoText_FormError : PySem.W.subIn K (.ref x_NoText) (.ref v_FormError) = some true)
    (xo_NoRow_FormError : PySem.W.subIn K (.ref x_NoRow) (.ref v_FormError) = some true)
    (xo_NoStep_FormError : PySem.W.subIn K (.ref x_NoStep) (.ref v_FormError) = some true)
    (xo_TooGreat_NoRow : PySem.W.subIn K (.ref x_TooGreat) (.ref x_NoRow) = some false)
    (xo_NoText_NoRow : PySem.W.subIn K (.ref x_NoText) (.ref x_NoRow) = some false)
    (xo_NoRow_NoRow : PySem.W.subIn K (.ref x_NoRow) (.ref x_NoRow) = some true)
    (xo_NoStep_NoRow : PySem.W.subIn K (.ref x_NoStep) (.ref x_NoRow) = some false)
    (xo_TooGreat_NoStep : PySem.W.subIn K (.ref x_TooGreat) (.ref x_NoStep) = some false)
    (xo_NoText_NoStep : PySem.W.subIn K (.ref x_NoText) (.ref x_NoStep) = some false)
    (xo_NoRow_NoStep : PySem.W.subIn K (.ref x_NoRow) (.ref x_NoStep) = some false)
    (xo_NoStep_NoStep : PySem.W.subIn K (.ref x_NoStep) (.ref x_NoStep) = some true)
    (xo_TooGreat_NoText : PySem.W.subIn K (.ref x_TooGreat) (.ref x_NoText) = some false)
    (xo_NoText_NoText : PySem.W.subIn K (.ref x_NoText) (.ref x_NoText) = some true)
    (xo_NoRow_NoText : PySem.W.subIn K (.ref x_NoRow) (.ref x_NoText) = some false)
    (xo_NoStep_NoText : PySem.W.subIn K (.ref x_NoStep) (.ref x_NoText) = some false)
    (xo_TooGreat_TooGreat : PySem.W.subIn K (.ref x_TooGreat) (.ref x_TooGreat) = some true)
    (xo_NoText_TooGreat : PySem.W.subIn K (.ref x_NoText) (.ref x_TooGreat) = some false)
    (xo_NoRow_TooGreat : PySem.W.subIn K (.ref x_NoRow) (.ref x_TooGreat) = some false)
    (xo_NoStep_TooGreat : PySem.W.subIn K (.ref x_NoStep) (.ref x_TooGreat) = some false)
    {t_LONGEST_ : Tok} (y_LONGEST_ : PySem.W.nsIn K mainGlobals "LONGEST" = some (some (.int 8 t_LONGEST_)))
    {t_MOST_ : Tok} (y_MOST_ : PySem.W.nsIn K mainGlobals "MOST" = some (some (.int 1073741824 t_MOST_)))
    {t_TRIED_ : Tok} (y_TRIED_ : PySem.W.nsIn K mainGlobals "TRIED" = some (some (.int 32768 t_TRIED_)))
    {b_SMALL_ : Addr} {n_SMALL_ : Nat} {od_SMALL_ : Option Addr} {sl_SMALL_ : Array (Option Value)} {u_SMALL__0 : Tok} {u_SMALL__1 : Tok} {u_SMALL__2 : Tok} {u_SMALL__3 : Tok} {u_SMALL__4 : Tok} {u_SMALL__5 : Tok} (y_SMALL_ : PySem.W.nsIn K mainGlobals "SMALL" = some (some (.ref b_SMALL_))) (x_SMALL_ : K.lookup b_SMALL_ = some ⟨.type "tuple", od_SMALL_, .seq ([Value.int 2 u_SMALL__0, Value.int 3 u_SMALL__1, Value.int 5 u_SMALL__2, Value.int 7 u_SMALL__3, Value.int 11 u_SMALL__4, Value.int 13 u_SMALL__5]).toArray n_SMALL_, sl_SMALL_⟩) :
    ∃ fd : FuncData, (∀ (s : Shared) (v : Value), BindsTo s fd ⟨[v], []⟩ [("_law_script", v)]) ∧ ∀ base : Heap, K.In base → base.Ns mainGlobals mg → FnOk l.prog w K mg base CX0 10 fa fd ["_law_script"] (spLaw K) := by
  have e := hfa.symm.trans (PySem.W.mg_of X G a42)
  cases e
  let T : Txt K mg := { a_law_cell_at_ := f0, d_law_cell_at_ := _, F_law_cell_at_ := fun_mk (st := s_law_cell_at_) l0 c0 k0, g_law_cell_at_ := PySem.W.mg_of X G a0, a_law_big_ := f1, d_law_big_ := _, F_law_big_ := fun_mk (st := s_law_big_) l1 c1 k1, g_law_big_ := PySem.W.mg_of X G a1, a_law_small_ := f2, d_law_small_ := _, F_law_small_ := fun_mk (st := s_law_small_) l2 c2 k2, g_law_small_ := PySem.W.mg_of X G a2, a_law_row_ := f3, d_law_row_ := _, F_law_row_ := fun_mk (st := s_law_row_) l3 c3 k3, g_law_row_ := PySem.W.mg_of X G a3, a_law_great_ := f4, d_law_great_ := _, F_law_great_ := fun_mk (st := s_law_great_) l4 c4 k4, g_law_great_ := PySem.W.mg_of X G a4, a_is_row_ := f5, d_is_row_ := _, F_is_row_ := fun_mk (st := s_is_row_) l5 c5 k5, g_is_row_ := PySem.W.mg_of X G a5, a_must_be_row_ := f6, d_must_be_row_ := _, F_must_be_row_ := fun_mk (st := s_must_be_row_) l6 c6 k6, g_must_be_row_ := PySem.W.mg_of X G a6, a_tried_ := f7, d_tried_ := _, F_tried_ := fun_mk (st := s_tried_) l7 c7 k7, g_tried_ := PySem.W.mg_of X G a7, a_whole_root_ := f8, d_whole_root_ := _, F_whole_root_ := fun_mk (st := s_whole_root_) l8 c8 k8, g_whole_root_ := PySem.W.mg_of X G a8, a_is_square_ := f9, d_is_square_ := _, F_is_square_ := fun_mk (st := s_is_square_) l9 c9 k9, g_is_square_ := PySem.W.mg_of X G a9, a_free_of_ := f10, d_free_of_ := _, F_free_of_ := fun_mk (st := s_free_of_) l10 c10 k10, g_free_of_ := PySem.W.mg_of X G a10, a_is_small_ := f11, d_is_small_ := _, F_is_small_ := fun_mk (st := s_is_small_) l11 c11 k11, g_is_small_ := PySem.W.mg_of X G a11, a_must_be_small_ := f12, d_must_be_small_ := _, F_must_be_small_ := fun_mk (st := s_must_be_small_) l12 c12 k12, g_must_be_small_ := PySem.W.mg_of X G a12, a_zero_of_ := f13, d_zero_of_ := _, F_zero_of_ := fun_mk (st := s_zero_of_) l13 c13 k13, g_zero_of_ := PySem.W.mg_of X G a13, a_values_for_ := f14, d_values_for_ := _, F_values_for_ := fun_mk (st := s_values_for_) l14 c14 k14, g_values_for_ := PySem.W.mg_of X G a14, a_zero_of_two_ := f15, d_zero_of_two_ := _, F_zero_of_two_ := fun_mk (st := s_zero_of_two_) l15 c15 k15, g_zero_of_two_ := PySem.W.mg_of X G a15, a_zero_of_three_ := f16, d_zero_of_three_ := _, F_zero_of_three_ := fun_mk (st := s_zero_of_three_) l16 c16 k16, g_zero_of_three_ := PySem.W.mg_of X G a16, a_law_word_ := f17, d_law_word_ := _, F_law_word_ := fun_mk (st := s_law_word_) l17 c17 k17, g_law_word_ := PySem.W.mg_of X G a17, a_law_asked_ := f18, d_law_asked_ := _, F_law_asked_ := fun_mk (st := s_law_asked_) l18 c18 k18, g_law_asked_ := PySem.W.mg_of X G a18, a_law_no_row_ := f19, d_law_no_row_ := _, F_law_no_row_ := fun_mk (st := s_law_no_row_) l19 c19 k19, g_law_no_row_ := PySem.W.mg_of X G a19, a_stepped_ := f20, d_stepped_ := _, F_stepped_ := fun_mk (st := s_stepped_) l20 c20 k20, g_stepped_ := PySem.W.mg_of X G a20, a_change_of_ := f21, d_change_of_ := _, F_change_of_ := fun_mk (st := s_change_of_) l21 c21 k21, g_change_of_ := PySem.W.mg_of X G a21, a_all_stepped_ := f22, d_all_stepped_ := _, F_all_stepped_ := fun_mk (st := s_all_stepped_) l22 c22 k22, g_all_stepped_ := PySem.W.mg_of X G a22, a_parts_ := f23, d_parts_ := _, F_parts_ := fun_mk (st := s_parts_) l23 c23 k23, g_parts_ := PySem.W.mg_of X G a23, a_places_of_ := f24, d_places_of_ := _, F_places_of_ := fun_mk (st := s_places_of_) l24 c24 k24, g_places_of_ := PySem.W.mg_of X G a24, a_split_at_ := f25, d_split_at_ := _, F_split_at_ := fun_mk (st := s_split_at_) l25 c25 k25, g_split_at_ := PySem.W.mg_of X G a25, a_turns_at_two_ := f26, d_turns_at_two_ := _, F_turns_at_two_ := fun_mk (st := s_turns_at_two_) l26 c26 k26, g_turns_at_two_ := PySem.W.mg_of X G a26, a_power_by_ := f27, d_power_by_ := _, F_power_by_ := fun_mk (st := s_power_by_) l27 c27 k27, g_power_by_ := PySem.W.mg_of X G a27, a_square_by_ := f28, d_square_by_ := _, F_square_by_ := fun_mk (st := s_square_by_) l28 c28 k28, g_square_by_ := PySem.W.mg_of X G a28, a_turns_at_odd_ := f29, d_turns_at_odd_ := _, F_turns_at_odd_ := fun_mk (st := s_turns_at_odd_) l29 c29 k29, g_turns_at_odd_ := PySem.W.mg_of X G a29, a_says_ := f30, d_says_ := _, F_says_ := fun_mk (st := s_says_) l30 c30 k30, g_says_ := PySem.W.mg_of X G a30, a_is_odd_at_ := f31, d_is_odd_at_ := _, F_is_odd_at_ := fun_mk (st := s_is_odd_at_) l31 c31 k31, g_is_odd_at_ := PySem.W.mg_of X G a31, a_noes_of_ := f32, d_noes_of_ := _, F_noes_of_ := fun_mk (st := s_noes_of_) l32 c32 k32, g_noes_of_ := PySem.W.mg_of X G a32, a_how_many_pairs_ := f33, d_how_many_pairs_ := _, F_how_many_pairs_ := fun_mk (st := s_how_many_pairs_) l33 c33 k33, g_how_many_pairs_ := PySem.W.mg_of X G a33, a_must_be_free_ := f34, d_must_be_free_ := _, F_must_be_free_ := fun_mk (st := s_must_be_free_) l34 c34 k34, g_must_be_free_ := PySem.W.mg_of X G a34, a_parted_ := f35, d_parted_ := _, F_parted_ := fun_mk (st := s_parted_) l35 c35 k35, g_parted_ := PySem.W.mg_of X G a35, a_leading_ := f36, d_leading_ := _, F_leading_ := fun_mk (st := s_leading_) l36 c36 k36, g_leading_ := PySem.W.mg_of X G a36, a_parting_ := f37, d_parting_ := _, F_parting_ := fun_mk (st := s_parting_) l37 c37 k37, g_parting_ := PySem.W.mg_of X G a37, a_point_of_ := f38, d_point_of_ := _, F_point_of_ := fun_mk (st := s_point_of_) l38 c38 k38, g_point_of_ := PySem.W.mg_of X G a38, a_line_of_ := f39, d_line_of_ := _, F_line_of_ := fun_mk (st := s_line_of_) l39 c39 k39, g_line_of_ := PySem.W.mg_of X G a39, a_law_door_ := f40, d_law_door_ := _, F_law_door_ := fun_mk (st := s_law_door_) l40 c40 k40, g_law_door_ := PySem.W.mg_of X G a40, a_law_doors_ := f41, d_law_doors_ := _, F_law_doors_ := fun_mk (st := s_law_doors_) l41 c41 k41, g_law_doors_ := PySem.W.mg_of X G a41, a_law_ := fa, d_law_ := _, F_law_ := fun_mk (st := s_law_) l42 c42 k42, g_law_ := PySem.W.mg_of X G a42, n_abs := PySem.W.mg_none_of X G z_abs, n_bool := PySem.W.mg_none_of X G z_bool, n_int := PySem.W.mg_none_of X G z_int, n_isinstance := PySem.W.mg_none_of X G z_isinstance, n_len := PySem.W.mg_none_of X G z_len, n_list := PySem.W.mg_none_of X G z_list, n_min := PySem.W.mg_none_of X G z_min, n_range := PySem.W.mg_none_of X G z_range, n_sorted := PySem.W.mg_none_of X G z_sorted, adr := fun j => match j with | .tooGreat => x_TooGreat | .noText => x_NoText | .noRow => x_NoRow | .noStep => x_NoStep, xN := fun j => match j with | .tooGreat => xN_TooGreat | .noText => xN_NoText | .noRow => xN_NoRow | .noStep => xN_NoStep, xk := fun j => match j with | .tooGreat => xk_TooGreat | .noText => xk_NoText | .noRow => xk_NoRow | .noStep => xk_NoStep, xs := fun j => match j with | .tooGreat => xs_TooGreat | .noText => xs_NoText | .noRow => xs_NoRow | .noStep => xs_NoStep, xt := fun j => match j with | .tooGreat => xt_TooGreat | .noText => xt_NoText | .noRow => xt_NoRow | .noStep => xt_NoStep, xoV := fun j => match j with | .tooGreat => kit_subT (by decide +kernel) xV_TooGreat | .noText => kit_subT (by decide +kernel) xV_NoText | .noRow => kit_subT (by decide +kernel) xV_NoRow | .noStep => kit_subT (by decide +kernel) xV_NoStep, xC := fun j => match j with | .tooGreat => ⟨ya_TooGreat, yb_TooGreat, xs_TooGreat, yd_TooGreat, ye_TooGreat, yg, yh, yi_TooGreat⟩ | .noText => ⟨ya_NoText, yb_NoText, xs_NoText, yd_NoText, ye_NoText, yg, yh, yi_NoText⟩ | .noRow => ⟨ya_NoRow, yb_NoRow, xs_NoRow, yd_NoRow, ye_NoRow, yg, yh, yi_NoRow⟩ | .noStep => ⟨ya_NoStep, yb_NoStep, xs_NoStep, yd_NoStep, ye_NoStep, yg, yh, yi_NoStep⟩, g_TooGreat := PySem.W.mg_of X G y_TooGreat, g_NoText := PySem.W.mg_of X G y_NoText, g_NoRow := PySem.W.mg_of X G y_NoRow, g_NoStep := PySem.W.mg_of X G y_NoStep, e_FormError := v_FormError, h_FormError := PySem.W.mg_of X G yv_FormError, xm_FormError := fun j => match j with | .tooGreat => PySem.W.exm_ref xs_FormError yd_FormError xt_FormError xo_TooGreat_FormError | .noText => PySem.W.exm_ref xs_FormError yd_FormError xt_FormError xo_NoText_FormError | .noRow => PySem.W.exm_ref xs_FormError yd_FormError xt_FormError xo_NoRow_FormError | .noStep => PySem.W.exm_ref xs_FormError yd_FormError xt_FormError xo_NoStep_FormError, xo_FormError := fun j => match j with | .tooGreat => kit_sub yd_FormError xt_FormError xS_FormError xo_TooGreat_FormError | .noText => kit_sub yd_FormError xt_FormError xS_FormError xo_NoText_FormError | .noRow => kit_sub yd_FormError xt_FormError xS_FormError xo_NoRow_FormError | .noStep => kit_sub yd_FormError xt_FormError xS_FormError xo_NoStep_FormError, e_NoRow := x_NoRow, h_NoRow := PySem.W.mg_of X G y_NoRow, xm_NoRow := fun j => match j with | .tooGreat => PySem.W.exm_ref xs_NoRow yd_NoRow xt_NoRow xo_TooGreat_NoRow | .noText => PySem.W.exm_ref xs_NoRow yd_NoRow xt_NoRow xo_NoText_NoRow | .noRow => PySem.W.exm_ref xs_NoRow yd_NoRow xt_NoRow xo_NoRow_NoRow | .noStep => PySem.W.exm_ref xs_NoRow yd_NoRow xt_NoRow xo_NoStep_NoRow, xo_NoRow := fun j => match j with | .tooGreat => kit_sub yd_NoRow xt_NoRow xS_NoRow xo_TooGreat_NoRow | .noText => kit_sub yd_NoRow xt_NoRow xS_NoRow xo_NoText_NoRow | .noRow => kit_sub yd_NoRow xt_NoRow xS_NoRow xo_NoRow_NoRow | .noStep => kit_sub yd_NoRow xt_NoRow xS_NoRow xo_NoStep_NoRow, e_NoStep := x_NoStep, h_NoStep := PySem.W.mg_of X G y_NoStep, xm_NoStep := fun j => match j with | .tooGreat => PySem.W.exm_ref xs_NoStep yd_NoStep xt_NoStep xo_TooGreat_NoStep | .noText => PySem.W.exm_ref xs_NoStep yd_NoStep xt_NoStep xo_NoText_NoStep | .noRow => PySem.W.exm_ref xs_NoStep yd_NoStep xt_NoStep xo_NoRow_NoStep | .noStep => PySem.W.exm_ref xs_NoStep yd_NoStep xt_NoStep xo_NoStep_NoStep, xo_NoStep := fun j => match j with | .tooGreat => kit_sub yd_NoStep xt_NoStep xS_NoStep xo_TooGreat_NoStep | .noText => kit_sub yd_NoStep xt_NoStep xS_NoStep xo_NoText_NoStep | .noRow => kit_sub yd_NoStep xt_NoStep xS_NoStep xo_NoRow_NoStep | .noStep => kit_sub yd_NoStep xt_NoStep xS_NoStep xo_NoStep_NoStep, e_NoText := x_NoText, h_NoText := PySem.W.mg_of X G y_NoText, xm_NoText := fun j => match j with | .tooGreat => PySem.W.exm_ref xs_NoText yd_NoText xt_NoText xo_TooGreat_NoText | .noText => PySem.W.exm_ref xs_NoText yd_NoText xt_NoText xo_NoText_NoText | .noRow => PySem.W.exm_ref xs_NoText yd_NoText xt_NoText xo_NoRow_NoText | .noStep => PySem.W.exm_ref xs_NoText yd_NoText xt_NoText xo_NoStep_NoText, xo_NoText := fun j => match j with | .tooGreat => kit_sub yd_NoText xt_NoText xS_NoText xo_TooGreat_NoText | .noText => kit_sub yd_NoText xt_NoText xS_NoText xo_NoText_NoText | .noRow => kit_sub yd_NoText xt_NoText xS_NoText xo_NoRow_NoText | .noStep => kit_sub yd_NoText xt_NoText xS_NoText xo_NoStep_NoText, e_TooGreat := x_TooGreat, h_TooGreat := PySem.W.mg_of X G y_TooGreat, xm_TooGreat := fun j => match j with | .tooGreat => PySem.W.exm_ref xs_TooGreat yd_TooGreat xt_TooGreat xo_TooGreat_TooGreat | .noText => PySem.W.exm_ref xs_TooGreat yd_TooGreat xt_TooGreat xo_NoText_TooGreat | .noRow => PySem.W.exm_ref xs_TooGreat yd_TooGreat xt_TooGreat xo_NoRow_TooGreat | .noStep => PySem.W.exm_ref xs_TooGreat yd_TooGreat xt_TooGreat xo_NoStep_TooGreat, xo_TooGreat := fun j => match j with | .tooGreat => kit_sub yd_TooGreat xt_TooGreat xS_TooGreat xo_TooGreat_TooGreat | .noText => kit_sub yd_TooGreat xt_TooGreat xS_TooGreat xo_NoText_TooGreat | .noRow => kit_sub yd_TooGreat xt_TooGreat xS_TooGreat xo_NoRow_TooGreat | .noStep => kit_sub yd_TooGreat xt_TooGreat xS_TooGreat xo_NoStep_TooGreat, t_LONGEST_ := t_LONGEST_, c_LONGEST_ := PySem.W.mg_of X G y_LONGEST_, t_MOST_ := t_MOST_, c_MOST_ := PySem.W.mg_of X G y_MOST_, t_TRIED_ := t_TRIED_, c_TRIED_ := PySem.W.mg_of X G y_TRIED_, b_SMALL_ := b_SMALL_, c_SMALL_ := PySem.W.mg_of X G y_SMALL_, k_SMALL_ := kc_SMALL_ x_SMALL_ }
  exact ⟨T.d_law_, fun s v => .of_eq rfl, fun base _ _ => ok_sp T⟩
end Mi
namespace Mi
theorem sz_bits {a : Int} {n : Nat} (h : PySem.Builtin.Int.intBits a ≤ n) : Sz n a := by
  unfold PySem.Builtin.Int.intBits at h
  unfold Sz
  by_cases h0 : a = 0
  · subst h0
    exact Nat.pow_pos (by decide)
  · rw [if_neg (by simpa using h0)] at h
    exact (Nat.log2_lt (by omega)).mp (Nat.lt_of_succ_le h)
end Mi
open PySem PySem.W PyProof.Rows
set_option maxHeartbeats 0 in
theorem PySem.Challenge.cw_everyplace_k50_what_is_not_small_holds : PySem.Challenge.rw_everyplace_k50_what_is_not_small.Holds := by
  w_on; o_law; k_head; (case hw => w_witness2)
  k_fill
  refine L2.walk_ofB (l := PySem.Challenge.rw_everyplace_k50_what_is_not_small) (n := 63) (k := 10) (x := "_law_script") (CX := fun _ => L2.CX0) (sp := fun w => Mi.spLaw _) rfl (by decide) rfl ⟨rfl, by decide, by decide⟩ (fun w h Y => PySem.W.km_in_of Y) ?F (fun _ _ a ns hl hb _ hS => ⟨a, ns, rfl, hS, hl, Mi.law_true ns hl (fun z hz => Mi.sz_bits (hb z hz)), fun _ => rfl⟩) (fun _ _ _ _ _ h => h)
  case F =>
    intro w mg fa h KX G hmg
    refine' Mi.all_mk KX G hmg ?a0 ?l0 ?c0 ?k0 ?a1 ?l1 ?c1 ?k1 ?a2 ?l2 ?c2 ?k2 ?a3 ?l3 ?c3 ?k3 ?a4 ?l4 ?c4 ?k4 ?a5 ?l5 ?c5 ?k5 ?a6 ?l6 ?c6 ?k6 ?a7 ?l7 ?c7 ?k7 ?a8 ?l8 ?c8 ?k8 ?a9 ?l9 ?c9 ?k9 ?a10 ?l10 ?c10 ?k10 ?a11 ?l11 ?c11 ?k11 ?a12 ?l12 ?c12 ?k12 ?a13 ?l13 ?c13 ?k13 ?a14 ?l14 ?c14 ?k14 ?a15 ?l15 ?c15 ?k15 ?a16 ?l16 ?c16 ?k16 ?a17 ?l17 ?c17 ?k17 ?a18 ?l18 ?c18 ?k18 ?a19 ?l19 ?c19 ?k19 ?a20 ?l20 ?c20 ?k20 ?a21 ?l21 ?c21 ?k21 ?a22 ?l22 ?c22 ?k22 ?a23 ?l23 ?c23 ?k23 ?a24 ?l24 ?c24 ?k24 ?a25 ?l25 ?c25 ?k25 ?a26 ?l26 ?c26 ?k26 ?a27 ?l27 ?c27 ?k27 ?a28 ?l28 ?c28 ?k28 ?a29 ?l29 ?c29 ?k29 ?a30 ?l30 ?c30 ?k30 ?a31 ?l31 ?c31 ?k31 ?a32 ?l32 ?c32 ?k32 ?a33 ?l33 ?c33 ?k33 ?a34 ?l34 ?c34 ?k34 ?a35 ?l35 ?c35 ?k35 ?a36 ?l36 ?c36 ?k36 ?a37 ?l37 ?c37 ?k37 ?a38 ?l38 ?c38 ?k38 ?a39 ?l39 ?c39 ?k39 ?a40 ?l40 ?c40 ?k40 ?a41 ?l41 ?c41 ?k41 ?a42 ?l42 ?c42 ?k42 ?z_abs ?z_bool ?z_int ?z_isinstance ?z_len ?z_list ?z_min ?z_range ?z_sorted ?y_TooGreat ?xN_TooGreat ?xk_TooGreat ?xs_TooGreat ?xt_TooGreat ?xV_TooGreat ?xS_TooGreat ?ya_TooGreat ?yb_TooGreat ?yd_TooGreat ?ye_TooGreat ?yi_TooGreat ?y_NoText ?xN_NoText ?xk_NoText ?xs_NoText ?xt_NoText ?xV_NoText ?xS_NoText ?ya_NoText ?yb_NoText ?yd_NoText ?ye_NoText ?yi_NoText ?y_NoRow ?xN_NoRow ?xk_NoRow ?xs_NoRow ?xt_NoRow ?xV_NoRow ?xS_NoRow ?ya_NoRow ?yb_NoRow ?yd_NoRow ?ye_NoRow ?yi_NoRow ?y_NoStep ?xN_NoStep ?xk_NoStep ?xs_NoStep ?xt_NoStep ?xV_NoStep ?xS_NoStep ?ya_NoStep ?yb_NoStep ?yd_NoStep ?ye_NoStep ?yi_NoStep ?yg ?yh ?yv_FormError ?yd_FormError ?xt_FormError ?xS_FormError ?xs_FormError ?xo_TooGreat_FormError ?xo_NoText_FormError ?xo_NoRow_FormError ?xo_NoStep_FormError ?xo_TooGreat_NoRow ?xo_NoText_NoRow ?xo_NoRow_NoRow ?xo_NoStep_NoRow ?xo_TooGreat_NoStep ?xo_NoText_NoStep ?xo_NoRow_NoStep ?xo_NoStep_NoStep ?xo_TooGreat_NoText ?xo_NoText_NoText ?xo_NoRow_NoText ?xo_NoStep_NoText ?xo_TooGreat_TooGreat ?xo_NoText_TooGreat ?xo_NoRow_TooGreat ?xo_NoStep_TooGreat ?y_LONGEST_ ?y_MOST_ ?y_TRIED_ ?y_SMALL_ ?x_SMALL_
    (case a0 => k_is); (case l0 => k_is); (case c0 => k_is); (case k0 => k_is); (case a1 => k_is); (case l1 => k_is); (case c1 => k_is); (case k1 => k_is); (case a2 => k_is); (case l2 => k_is); (case c2 => k_is); (case k2 => k_is); (case a3 => k_is); (case l3 => k_is); (case c3 => k_is); (case k3 => k_is); (case a4 => k_is); (case l4 => k_is); (case c4 => k_is); (case k4 => k_is); (case a5 => k_is); (case l5 => k_is); (case c5 => k_is); (case k5 => k_is); (case a6 => k_is); (case l6 => k_is); (case c6 => k_is); (case k6 => k_is); (case a7 => k_is); (case l7 => k_is); (case c7 => k_is); (case k7 => k_is); (case a8 => k_is); (case l8 => k_is); (case c8 => k_is); (case k8 => k_is); (case a9 => k_is); (case l9 => k_is); (case c9 => k_is); (case k9 => k_is); (case a10 => k_is); (case l10 => k_is); (case c10 => k_is); (case k10 => k_is); (case a11 => k_is); (case l11 => k_is); (case c11 => k_is); (case k11 => k_is); (case a12 => k_is); (case l12 => k_is); (case c12 => k_is); (case k12 => k_is); (case a13 => k_is); (case l13 => k_is); (case c13 => k_is); (case k13 => k_is); (case a14 => k_is); (case l14 => k_is); (case c14 => k_is); (case k14 => k_is); (case a15 => k_is); (case l15 => k_is); (case c15 => k_is); (case k15 => k_is); (case a16 => k_is); (case l16 => k_is); (case c16 => k_is); (case k16 => k_is); (case a17 => k_is); (case l17 => k_is); (case c17 => k_is); (case k17 => k_is); (case a18 => k_is); (case l18 => k_is); (case c18 => k_is); (case k18 => k_is); (case a19 => k_is); (case l19 => k_is); (case c19 => k_is); (case k19 => k_is); (case a20 => k_is); (case l20 => k_is); (case c20 => k_is); (case k20 => k_is); (case a21 => k_is); (case l21 => k_is); (case c21 => k_is); (case k21 => k_is); (case a22 => k_is); (case l22 => k_is); (case c22 => k_is); (case k22 => k_is); (case a23 => k_is); (case l23 => k_is); (case c23 => k_is); (case k23 => k_is); (case a24 => k_is); (case l24 => k_is); (case c24 => k_is); (case k24 => k_is); (case a25 => k_is); (case l25 => k_is); (case c25 => k_is); (case k25 => k_is); (case a26 => k_is); (case l26 => k_is); (case c26 => k_is); (case k26 => k_is); (case a27 => k_is); (case l27 => k_is); (case c27 => k_is); (case k27 => k_is); (case a28 => k_is); (case l28 => k_is); (case c28 => k_is); (case k28 => k_is); (case a29 => k_is); (case l29 => k_is); (case c29 => k_is); (case k29 => k_is); (case a30 => k_is); (case l30 => k_is); (case c30 => k_is); (case k30 => k_is); (case a31 => k_is); (case l31 => k_is); (case c31 => k_is); (case k31 => k_is); (case a32 => k_is); (case l32 => k_is); (case c32 => k_is); (case k32 => k_is); (case a33 => k_is); (case l33 => k_is); (case c33 => k_is); (case k33 => k_is); (case a34 => k_is); (case l34 => k_is); (case c34 => k_is); (case k34 => k_is); (case a35 => k_is); (case l35 => k_is); (case c35 => k_is); (case k35 => k_is); (case a36 => k_is); (case l36 => k_is); (case c36 => k_is); (case k36 => k_is); (case a37 => k_is); (case l37 => k_is); (case c37 => k_is); (case k37 => k_is); (case a38 => k_is); (case l38 => k_is); (case c38 => k_is); (case k38 => k_is); (case a39 => k_is); (case l39 => k_is); (case c39 => k_is); (case k39 => k_is); (case a40 => k_is); (case l40 => k_is); (case c40 => k_is); (case k40 => k_is); (case a41 => k_is); (case l41 => k_is); (case c41 => k_is); (case k41 => k_is); (case a42 => k_is); (case l42 => k_is); (case c42 => k_is); (case k42 => k_is); (case z_abs => k_is); (case z_bool => k_is); (case z_int => k_is); (case z_isinstance => k_is); (case z_len => k_is); (case z_list => k_is); (case z_min => k_is); (case z_range => k_is); (case z_sorted => k_is); (case y_TooGreat => k_is); (case xN_TooGreat => k_exc); (case xk_TooGreat => k_is); (case xs_TooGreat => k_is); (case xt_TooGreat => k_is); (case xV_TooGreat => k_is); (case xS_TooGreat => k_is); (case ya_TooGreat => k_is); (case yb_TooGreat => k_is); (case yd_TooGreat => k_is); (case ye_TooGreat => k_is); (case yi_TooGreat => k_is); (case y_NoText => k_is); (case xN_NoText => k_exc); (case xk_NoText => k_is); (case xs_NoText => k_is); (case xt_NoText => k_is); (case xV_NoText => k_is); (case xS_NoText => k_is); (case ya_NoText => k_is); (case yb_NoText => k_is); (case yd_NoText => k_is); (case ye_NoText => k_is); (case yi_NoText => k_is); (case y_NoRow => k_is); (case xN_NoRow => k_exc); (case xk_NoRow => k_is); (case xs_NoRow => k_is); (case xt_NoRow => k_is); (case xV_NoRow => k_is); (case xS_NoRow => k_is); (case ya_NoRow => k_is); (case yb_NoRow => k_is); (case yd_NoRow => k_is); (case ye_NoRow => k_is); (case yi_NoRow => k_is); (case y_NoStep => k_is); (case xN_NoStep => k_exc); (case xk_NoStep => k_is); (case xs_NoStep => k_is); (case xt_NoStep => k_is); (case xV_NoStep => k_is); (case xS_NoStep => k_is); (case ya_NoStep => k_is); (case yb_NoStep => k_is); (case yd_NoStep => k_is); (case ye_NoStep => k_is); (case yi_NoStep => k_is); (case yg => k_is); (case yh => k_is); (case yv_FormError => k_is); (case yd_FormError => k_is); (case xt_FormError => k_is); (case xS_FormError => k_is); (case xs_FormError => k_is); (case xo_TooGreat_FormError => k_is); (case xo_NoText_FormError => k_is); (case xo_NoRow_FormError => k_is); (case xo_NoStep_FormError => k_is); (case xo_TooGreat_NoRow => k_is); (case xo_NoText_NoRow => k_is); (case xo_NoRow_NoRow => k_is); (case xo_NoStep_NoRow => k_is); (case xo_TooGreat_NoStep => k_is); (case xo_NoText_NoStep => k_is); (case xo_NoRow_NoStep => k_is); (case xo_NoStep_NoStep => k_is); (case xo_TooGreat_NoText => k_is); (case xo_NoText_NoText => k_is); (case xo_NoRow_NoText => k_is); (case xo_NoStep_NoText => k_is); (case xo_TooGreat_TooGreat => k_is); (case xo_NoText_TooGreat => k_is); (case xo_NoRow_TooGreat => k_is); (case xo_NoStep_TooGreat => k_is); (case y_LONGEST_ => k_is); (case y_MOST_ => k_is); (case y_TRIED_ => k_is); (case y_SMALL_ => k_is); (case x_SMALL_ => k_is)

