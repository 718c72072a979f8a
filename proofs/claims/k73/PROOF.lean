import PyProof.Rows.All
import Wide.All
import OpenK.AllK
import Wide.FinOn
import HandS.ForMost
import HandS.Wide
import HandS.WideMore
import HandS.WideBits
import HandS.IsInst
import HandS.SortInts
import HandS.SetFor
import HandS.Zip
import HandS.Rev
import HandS.RevRange
import HandS.Flow
import HandS.Style
import HandS.Deep
import HandS.Conv
import HandS.NoneIn
import HandS.EndBits
import HandS.More
import HandS.Dict
import HandS.Iter
import HandS.Strs
import HandS.Exc
import HandS.TryOnly
import HandS.ExcOwn
import HandS.WordsExc
import HandS.ExcIs
import HandS.HotCalls
import HandS.ExcInitHot
import KE.GoesEnum
import KE.KDictCopyH
import HandS.Lambda
import HandS.Nested
import HandS.HeadWalk
import HandS.TupAny
import HandS.Head2
import HandS.HeadHook2
import KE.KNestM
import PySem.Challenge.RW_everyplace_k73_forms_read
set_option Elab.async false
set_option linter.all false
set_option maxRecDepth 100000
set_option maxHeartbeats 4000000
namespace Mi
open PySem PySem.Spec PyProof.Rows L2
/-! ### the head by one run: what the end leans on, told by a hook -/
/-- a code object's table, still empty -/
def hd_mtTab (o : Obj) : Bool := match o with
  | ⟨.none, none, .fields us, sl⟩ => us.isEmpty && sl.isEmpty
  | _ => false
theorem hd_mtTab_eq {o : Obj} (h : hd_mtTab o = true) : o = PySem.W.tabObj #[] := by
  obtain ⟨c, d, dt, sl⟩ := o
  cases c with
  | none =>
    cases d with
    | none =>
      cases dt with
      | fields us =>
        have h2 : (us.isEmpty && sl.isEmpty) = true := h
        obtain ⟨e1, e2⟩ := Bool.and_eq_true_iff.mp h2
        rw [Array.isEmpty_iff.mp e1, Array.isEmpty_iff.mp e2] <;> rfl
      | _ => cases h
    | some x => cases dt <;> cases h
  | _ => cases d <;> cases dt <;> cases h
/-- the heap below an address, as a list, without empty tables -/
def hd_part (g : Addr → Option Obj) : List Addr → PySem.W.Frag
  | [] => []
  | a :: r => match g a with
    | some o => (match hd_mtTab o with
      | true => hd_part g r
      | false => (a, o) :: hd_part g r)
    | none => hd_part g r
theorem hd_part_at {g : Addr → Option Obj} {a : Addr} {o : Obj} : ∀ {l : List Addr}, (hd_part g l).lookup a = some o → g a = some o ∧ hd_mtTab o = false
  | [], e => nomatch (show (none : Option Obj) = some o from e)
  | b :: r, e => by
    unfold hd_part at e
    split at e
    · rename_i u hu
      split at e
      · exact hd_part_at (l := r) e
      · rename_i hm
        rw [List.lookup_cons] at e
        split at e
        · rename_i hb
          cases e
          rw [eq_of_beq hb]
          exact ⟨hu, hm⟩
        · exact hd_part_at (l := r) e
    · exact hd_part_at (l := r) e
theorem hd_part_in {l : List Addr} {h : Heap} : (hd_part h.get? l).In h := fun _ _ e => (hd_part_at e).1
theorem hd_part_none {g : Addr → Option Obj} {l : List Addr} {a : Addr} {o : Obj} (h : g a = some o) (m : hd_mtTab o = true) : (hd_part g l).lookup a = none := by
  cases e : (hd_part g l).lookup a with
  | none => rfl
  | some u =>
    obtain ⟨h1, h2⟩ := hd_part_at e
    rw [h] at h1
    cases h1
    rw [m] at h2
    cases h2
/-- what the module's names are, and what these name -/
def hd_nearG (g : Addr → Option Obj) : List Addr → List Addr
  | [] => []
  | a :: r => (match g a with
    | some o => He.refsO o
    | none => []) ++ hd_nearG g r
/-- the namespaces of the classes among these -/
def hd_clsG (g : Addr → Option Obj) : List Addr → List Addr
  | [] => []
  | a :: r => match g a with
    | some ⟨_, _, .cls cd, _⟩ => cd.ns :: hd_clsG g r
    | _ => hd_clsG g r
def hd_methG (g : Addr → Option Obj) (ns : List Addr) : List Addr := hd_nearG g ns ++ hd_nearG g (hd_nearG g ns)
def hd_relG (g : Addr → Option Obj) : List Addr := mainGlobals :: (hd_nearG g [mainGlobals] ++ (hd_nearG g (hd_nearG g [mainGlobals]) ++ hd_methG g (hd_clsG g (hd_nearG g [mainGlobals]))))
/-- the table of a code object -/
def tabOf (K : PySem.W.Frag) (c : Addr) : Addr := match K.lookup c with
  | some ⟨_, _, .fields vs, _⟩ => (match (vs[11]? : Option Value) with
    | some (.ref P) => P
    | _ => 0)
  | _ => 0
abbrev hd_KPr := PySem.W.Frag → Bool
/-- a def's code object -/
def hd_pcOf (x : Str) (K : PySem.W.Frag) : Addr := match K.lookup (He.ga K x) with
  | some ⟨_, _, .func fd, _⟩ => (match fd.code with
    | .ref c => c
    | _ => 0)
  | _ => 0
theorem hd_pcOf_eq {K : PySem.W.Frag} {x : Str} {oc : Value} {od : Option Addr} {sl : Array (Option Value)} {fd : FuncData} (l : K.lookup (He.ga K x) = some ⟨oc, od, .func fd, sl⟩) {q : Str} (c : PySem.W.codeIn K fd.code q = true) : fd.code = .ref (hd_pcOf x K) := by
  unfold hd_pcOf
  rw [l]
  show fd.code = .ref (match fd.code with | .ref c => c | _ => 0)
  cases e : fd.code with
  | ref c => rfl
  | _ =>
    rw [e] at c
    cases c
/-- what is told: the facts, the defs, the tables (of the defs whose names stand in tf) -/
structure hd_Told (ex : List (List hd_KPr)) (fn : List (List He.DefD)) (tf : List Str) (h : Heap) (K : PySem.W.Frag) : Prop where
  ex : ∀ l ∈ ex, ∀ f ∈ l, f K = true
  ok : ∀ l ∈ fn, ∀ d ∈ l, d.ok K = true
  eq : fn.map (fun l => l.map fun d => He.fnW K d.at_) = fn.map fun l => l.map He.DefD.val
  tb : ∀ x ∈ tf, h.get? (tabOf K (hd_pcOf x K)) = some (PySem.W.tabObj #[])
  tn : ∀ x ∈ tf, K.lookup (tabOf K (hd_pcOf x K)) = none
def hd_tabsM (g : Addr → Option Obj) (tf : List Str) (K : PySem.W.Frag) : Bool := tf.all fun x => match g (tabOf K (hd_pcOf x K)) with
  | some o => hd_mtTab o
  | none => false
abbrev hd_AlM : Type := Bool × List (List He.FnW)
def hd_obsM (ex : List (List hd_KPr)) (fn : List (List He.DefD)) (tf : List Str) (g : Addr → Option Obj) (K : PySem.W.Frag) : hd_AlM :=
  ((ex.all fun l => l.all fun f => f K) && ((fn.all fun l => l.all fun d => d.ok K) && hd_tabsM g tf K), fn.map fun l => l.map fun d => He.fnW K d.at_)
def hd_valM (fn : List (List He.DefD)) : hd_AlM := (true, fn.map fun l => l.map He.DefD.val)
theorem hd_told_of {ex : List (List hd_KPr)} {fn : List (List He.DefD)} {tf : List Str} {h : Heap} {l : List Addr} (e : hd_obsM ex fn tf h.get? (hd_part h.get? l) = hd_valM fn) : hd_Told ex fn tf h (hd_part h.get? l) := by
  have e1 : ((ex.all fun l' => l'.all fun f => f (hd_part h.get? l)) && ((fn.all fun l' => l'.all fun d => d.ok (hd_part h.get? l)) && hd_tabsM h.get? tf (hd_part h.get? l))) = true := congrArg (fun z : hd_AlM => z.1) e
  have e2 : fn.map (fun l' => l'.map fun d => He.fnW (hd_part h.get? l) d.at_) = fn.map fun l' => l'.map He.DefD.val := congrArg (fun z : hd_AlM => z.2) e
  obtain ⟨a, b⟩ := Bool.and_eq_true_iff.mp e1
  obtain ⟨b, c⟩ := Bool.and_eq_true_iff.mp b
  have key : ∀ x ∈ tf, ∃ o, h.get? (tabOf (hd_part h.get? l) (hd_pcOf x (hd_part h.get? l))) = some o ∧ hd_mtTab o = true := fun x hx => by
    have z := List.all_eq_true.mp c x hx
    split at z
    · rename_i o ho
      exact ⟨o, ho, z⟩
    · cases z
  refine ⟨fun l' hl f hf => List.all_eq_true.mp (List.all_eq_true.mp a l' hl) f hf, fun l' hl d hd => List.all_eq_true.mp (List.all_eq_true.mp b l' hl) d hd, e2, fun x hx => ?_, fun x hx => ?_⟩
  · obtain ⟨o, e, m⟩ := key x hx
    rw [e, hd_mtTab_eq m]
  · obtain ⟨o, e, m⟩ := key x hx
    exact hd_part_none e m
def hd_hookM (ex : List (List hd_KPr)) (fn : List (List He.DefD)) (tf : List Str) : PySem.W.Hook where
  α := hd_AlM
  obs := fun s => hd_obsM ex fn tf s.heap.get? (hd_part s.heap.get? (hd_relG s.heap.get?))
  val := fun _ => hd_valM fn
  says := fun _ h => ∃ K : PySem.W.Frag, K.In h ∧ hd_Told ex fn tf h K
  of := fun _ _ e => ⟨_, hd_part_in, hd_told_of e⟩
  keeps := fun _ _ _ ⟨K, hK, c⟩ k => ⟨K, PySem.W.Frag.In.keeps hK k, ⟨c.ex, c.ok, c.eq, fun x hx => k _ _ (c.tb x hx), c.tn⟩⟩
/-- the same, off the tree -/
def hd_obM (ex : List (List hd_KPr)) (fn : List (List He.DefD)) (tf : List Str) (s : PySem.W.SharedT) : hd_AlM := hd_obsM ex fn tf (HandSHeadRun.getT s) (hd_part (HandSHeadRun.getT s) (hd_relG (HandSHeadRun.getT s)))
theorem hd_obM_eq (ex : List (List hd_KPr)) (fn : List (List He.DefD)) (tf : List Str) (s : PySem.W.SharedT) : hd_obM ex fn tf s = (hd_hookM ex fn tf).obs s.abs := by
  have e : HandSHeadRun.getT s = s.abs.heap.get? := funext fun a => HandSHeadRun.getT_eq s a
  unfold hd_obM
  rw [e]
  rfl
section
variable {ex : List (List hd_KPr)} {fn : List (List He.DefD)} {tf : List Str} {h : Heap} {K : PySem.W.Frag}
theorem hd_Told.fact (c : hd_Told ex fn tf h K) (i j : Nat) {l : List hd_KPr} {f : hd_KPr} (hi : ex[i]? = some l) (hj : l[j]? = some f) : f K = true := c.ex l (List.mem_of_getElem? hi) f (List.mem_of_getElem? hj)
theorem hd_Told.def_ (c : hd_Told ex fn tf h K) (i j : Nat) {l : List He.DefD} {d : He.DefD} (hi : fn[i]? = some l) (hj : l[j]? = some d) (h0 : d.dfl = []) :
    ∃ oc od kV dc pm an cd ct sl, K.lookup (He.fAd K d.at_) = some ⟨oc, od, .func (PySem.W.fnOf d.name d.qual d.params d.body d.scope .none kV dc pm an cd ct), sl⟩ ∧ PySem.W.codeIn K cd d.qual = true ∧ PySem.W.keepIn K (.ref (He.fAd K d.at_)) = true := by
  have ho := c.ok l (List.mem_of_getElem? hi) d (List.mem_of_getElem? hj)
  have e := c.eq
  have e2 : (fn.map fun l => l.map fun d => He.fnW K d.at_)[i]? = (fn.map fun l => l.map He.DefD.val)[i]? := by rw [e]
  rw [List.getElem?_map, List.getElem?_map, hi] at e2
  have e3 : (l.map fun d => He.fnW K d.at_)[j]? = (l.map He.DefD.val)[j]? := congrArg (fun z : List He.FnW => z[j]?) (Option.some.inj e2)
  rw [List.getElem?_map, List.getElem?_map, hj] at e3
  obtain ⟨fd, F⟩ := He.DefD.funD (Option.some.inj e3) ho
  obtain ⟨⟨oc, od, dV, kV, dc, pm, an, cd, ct, sl, rfl, lk, cI, dv, kv⟩, kp⟩ := F
  obtain rfl : dV = .none := by
    rcases dv with ⟨_, z⟩ | ⟨z, _⟩
    · exact z
    · exact absurd (by unfold He.DefD.dvs; rw [h0]; rfl) z
  exact ⟨oc, od, kV, dc, pm, an, cd, ct, sl, lk, cI, kp⟩
end
/-! ### numbers, tuples and dicts of the text -/
def hd_intB (x : Str) (v : Int) : hd_KPr := fun K => match PySem.W.nsIn K mainGlobals x with
  | some (some (.int j _)) => decide (j = v)
  | _ => false
theorem hd_intB_ok {x : Str} {v : Int} {K : PySem.W.Frag} (h : hd_intB x v K = true) : ∃ t, PySem.W.nsIn K mainGlobals x = some (some (.int v t)) := by
  unfold hd_intB at h
  split at h
  · rename_i j t e
    rw [of_decide_eq_true h] at e
    exact ⟨t, e⟩
  · cases h
def hd_strB (x : Str) (v : Str) : hd_KPr := fun K => match PySem.W.nsIn K mainGlobals x with
  | some (some (.str j _)) => decide (j = v)
  | _ => false
theorem hd_strB_ok {x v : Str} {K : PySem.W.Frag} (h : hd_strB x v K = true) : ∃ t, PySem.W.nsIn K mainGlobals x = some (some (.str v t)) := by
  unfold hd_strB at h
  split at h
  · rename_i j t e
    rw [of_decide_eq_true h] at e
    exact ⟨t, e⟩
  · cases h
/-- a list of numbers with some tokens -/
def hd_ExI : List Int → (List Value → Prop) → Prop
  | [], P => P []
  | v :: vs, P => ∃ u, hd_ExI vs fun r => P (.int v u :: r)
def hd_intsB : List Value → List Int → Bool
  | [], [] => true
  | .int j _ :: r, v :: vs => decide (j = v) && hd_intsB r vs
  | _, _ => false
theorem hd_intsB_ok : ∀ {l : List Value} {vs : List Int} {P : List Value → Prop}, hd_intsB l vs = true → P l → hd_ExI vs P
  | [], [], _, _, p => p
  | [], _ :: _, _, h, _ => by cases h
  | x :: r, [], _, h, _ => by cases x <;> cases h
  | x :: r, v :: vs, P, h, p => by
    cases x with
    | int j u =>
      obtain ⟨h1, h2⟩ := Bool.and_eq_true_iff.mp (show (decide (j = v) && hd_intsB r vs) = true from h)
      rw [of_decide_eq_true h1] at p
      exact ⟨u, hd_intsB_ok (P := fun r => P (.int v u :: r)) h2 p⟩
    | _ => cases h
def hd_tupB (x : Str) (vs : List Int) : hd_KPr := fun K => match K.lookup (He.ga K x) with
  | some ⟨.type c, _, .seq its _, _⟩ => decide (c = "tuple") && hd_intsB its.toList vs
  | _ => false
theorem hd_tupB_ok {x : Str} {vs : List Int} {K : PySem.W.Frag} (h : hd_tupB x vs K = true) : hd_ExI vs fun its => ∃ n od sl, K.lookup (He.ga K x) = some ⟨.type "tuple", od, .seq its.toArray n, sl⟩ := by
  unfold hd_tupB at h
  split at h
  · rename_i c od its n sl e
    obtain ⟨h1, h2⟩ := Bool.and_eq_true_iff.mp h
    exact hd_intsB_ok h2 ⟨n, od, sl, by rw [e, of_decide_eq_true h1]⟩
  · cases h
def hd_ExD : List (Int × Int) → (List DictEntry → Prop) → Prop
  | [], P => P []
  | (k, v) :: vs, P => ∃ u w, hd_ExD vs fun r => P (⟨k, .int k u, .int v w⟩ :: r)
def hd_entsB : List DictEntry → List (Int × Int) → Bool
  | [], [] => true
  | ⟨h, .int i _, .int j _⟩ :: r, (k, v) :: vs => (decide (h = k) && (decide (i = k) && decide (j = v))) && hd_entsB r vs
  | _, _ => false
theorem hd_entsB_ok : ∀ {l : List DictEntry} {vs : List (Int × Int)} {P : List DictEntry → Prop}, hd_entsB l vs = true → P l → hd_ExD vs P
  | [], [], _, _, p => p
  | [], _ :: _, _, h, _ => by cases h
  | ⟨hh, x, y⟩ :: r, [], _, h, _ => by cases x <;> cases y <;> cases h
  | ⟨hh, x, y⟩ :: r, (k, v) :: vs, P, h, p => by
    cases x with
    | int i u =>
      cases y with
      | int j w =>
        obtain ⟨h1, h2⟩ := Bool.and_eq_true_iff.mp (show ((decide (hh = k) && (decide (i = k) && decide (j = v))) && hd_entsB r vs) = true from h)
        obtain ⟨h3, h4⟩ := Bool.and_eq_true_iff.mp h1
        obtain ⟨h5, h6⟩ := Bool.and_eq_true_iff.mp h4
        rw [of_decide_eq_true h3, of_decide_eq_true h5, of_decide_eq_true h6] at p
        exact ⟨u, w, hd_entsB_ok (P := fun r => P (⟨k, .int k u, .int v w⟩ :: r)) h2 p⟩
      | _ => cases h
    | _ => cases y <;> cases h
def hd_dicB (x : Str) (vs : List (Int × Int)) : hd_KPr := fun K => match K.lookup (He.ga K x) with
  | some ⟨.type c, none, .dict es _, sl⟩ => (decide (c = "dict") && sl.isEmpty) && hd_entsB es.toList vs
  | _ => false
theorem hd_dicB_ok {x : Str} {vs : List (Int × Int)} {K : PySem.W.Frag} (h : hd_dicB x vs K = true) : hd_ExD vs fun es => ∃ n, K.lookup (He.ga K x) = some ⟨.type "dict", none, .dict es.toArray n, #[]⟩ := by
  unfold hd_dicB at h
  split at h
  · rename_i c es n sl e
    obtain ⟨h1, h2⟩ := Bool.and_eq_true_iff.mp h
    obtain ⟨h3, h4⟩ := Bool.and_eq_true_iff.mp h1
    exact hd_entsB_ok h2 ⟨n, by rw [e, of_decide_eq_true h3, Array.isEmpty_iff.mp h4]⟩
  · cases h
def hd_gloB (x : Str) : hd_KPr := fun K => He.eqO (PySem.W.nsIn K mainGlobals x) (some (some (.ref (He.ga K x))))
theorem hd_gloB_ok {x : Str} {K : PySem.W.Frag} (h : hd_gloB x K = true) : PySem.W.nsIn K mainGlobals x = some (some (.ref (He.ga K x))) := He.eqO_ok h
def hd_freeB (x : Str) : hd_KPr := fun K => He.eqO (PySem.W.nsIn K mainGlobals x) (some none)
theorem hd_freeB_ok {x : Str} {K : PySem.W.Frag} (h : hd_freeB x K = true) : PySem.W.nsIn K mainGlobals x = some none := He.eqO_ok h
/-- a law whose walk asks no tables -/
theorem hd_lawAt_of {l : PySem.W.OpenLaw} {w : World} {K : PySem.W.Frag} {CX : CXT} {k n : Nat} {x : Str} {mg : Str → Option Value} {fa : Addr} {h : Heap} {sp : Sp}
    (hsp : ∀ (H : Hp) (a : Addr) (ns : List Int), ns.length ≤ n → (∀ z ∈ ns, PySem.Builtin.Int.intBits z ≤ 1048576) → SqL K H a (ns.map V.int) → sp [.ref a] H (fun v _ => v = .bl true) fun _ _ _ => False)
    (F : ∃ fd : FuncData, (∀ (s : Shared) (u : Value), BindsTo s fd ⟨[u], []⟩ [(x, u)]) ∧ ∀ base : Heap, K.In base → base.Ns mainGlobals mg → FnOk l.prog w K mg base CX k fa fd [x] sp) : LamX.LawAtS l w K CX k n x mg fa h := by
  obtain ⟨fd, hb, hF⟩ := F
  exact ⟨fd, [], sp, fun p hp => (nomatch hp), fun p hp => (nomatch hp), fun p hp => (nomatch hp), hb, fun H a ns hl hz _ hS => hsp H a ns hl hz hS, fun base X G _ => hF base X G⟩
end Mi

namespace Mi
open PySem L2
abbrev hdR : PySem.W.OpenRow := PySem.W.OpenLaw.row PySem.Challenge.rw_everyplace_k73_forms_read
abbrev hdQ : Program := PySem.W.view hdR.prog [34]
def topS (i : Nat) : Stmt := PySem.Challenge.pw_everyplace_k73_forms_read.main.body.getD i (.Pass ⟨0, 0, 0, 0⟩)
abbrev s_law_big_ : Stmt := topS 24
abbrev s_law_letters_ : Stmt := topS 30
abbrev s_law_low_ : Stmt := topS 26
abbrev s_law_written_ : Stmt := topS 29
abbrev s_law_terms_ : Stmt := topS 31
abbrev s_law_times_ : Stmt := topS 28
abbrev s_law_plus_ : Stmt := topS 27
abbrev s_law_due_ : Stmt := topS 32
abbrev s_read_number_ : Stmt := topS 17
abbrev s_common_ : Stmt := topS 4
abbrev s_fraction_ : Stmt := topS 5
abbrev s_read_fraction_ : Stmt := topS 18
abbrev s_read_term_ : Stmt := topS 19
abbrev s_minus_ : Stmt := topS 7
abbrev s_signed_term_ : Stmt := topS 20
abbrev s_read_terms_ : Stmt := topS 21
abbrev s_times_ : Stmt := topS 8
abbrev s_plus_ : Stmt := topS 6
abbrev s_read_form_ : Stmt := topS 22
abbrev s_law_whole_ : Stmt := topS 25
abbrev s_law_is_ : Stmt := topS 33
abbrev s_law_ : Stmt := topS 34
def hdN0 : List Str := ["__name__", "FormError", "NoText", "common", "fraction", "plus", "minus", "times", "NOUGHT", "ONE", "FIGURES", "LETTERS", "MOST_FIGURES", "MOST_UNKNOWNS", "HALF", "read_number", "read_fraction", "read_term", "signed_term", "read_terms", "read_form", "_law_big", "_law_whole", "_law_low", "_law_plus", "_law_times", "_law_written", "_law_letters", "_law_terms", "_law_due"]
def hdN1 : List Str := ["_law_is"]
def hdN : List Str := hdN0 ++ (hdN1)
def hdX0 : List hd_KPr := [hd_gloB "_law_big",
  hd_gloB "_law_letters",
  hd_gloB "_law_low",
  hd_gloB "_law_written",
  hd_gloB "_law_terms",
  hd_gloB "_law_times",
  hd_gloB "_law_plus",
  hd_gloB "_law_due",
  hd_gloB "read_number",
  hd_gloB "common",
  hd_gloB "fraction",
  hd_gloB "read_fraction",
  hd_gloB "read_term",
  hd_gloB "minus",
  hd_gloB "signed_term",
  hd_gloB "read_terms",
  hd_gloB "times",
  hd_gloB "plus",
  hd_gloB "read_form",
  hd_gloB "_law_whole",
  hd_gloB "_law_is",
  hd_gloB "law",
  hd_freeB "abs",
  hd_freeB "bool"]
def hdX1 : List hd_KPr := [hd_freeB "int",
  hd_freeB "isinstance",
  hd_freeB "len",
  hd_freeB "list",
  hd_freeB "max",
  hd_freeB "min",
  hd_freeB "range",
  hd_freeB "str",
  hd_freeB "tuple",
  hd_strB "FIGURES" (Str.ofString "0123456789"),
  hd_intB "MOST_FIGURES" (9),
  hd_strB "LETTERS" (Str.ofString "abcdefghijklmnopqrstuvwxyz"),
  hd_gloB "ONE",
  hd_tupB "ONE" [1, 1],
  hd_gloB "NOUGHT",
  hd_tupB "NOUGHT" [0, 1],
  hd_gloB "HALF",
  hd_tupB "HALF" [1, 2],
  hd_intB "MOST_UNKNOWNS" (8)]
def hdX : List (List hd_KPr) := [hdX0, hdX1]
def hdD0 : List He.DefD := [⟨("_law_big", none), "_law_big", "_law_big", defArgs s_law_big_, defBody s_law_big_, defScope s_law_big_, [], []⟩,
  ⟨("_law_letters", none), "_law_letters", "_law_letters", defArgs s_law_letters_, defBody s_law_letters_, defScope s_law_letters_, [], []⟩,
  ⟨("_law_low", none), "_law_low", "_law_low", defArgs s_law_low_, defBody s_law_low_, defScope s_law_low_, [], []⟩,
  ⟨("_law_written", none), "_law_written", "_law_written", defArgs s_law_written_, defBody s_law_written_, defScope s_law_written_, [], []⟩,
  ⟨("_law_terms", none), "_law_terms", "_law_terms", defArgs s_law_terms_, defBody s_law_terms_, defScope s_law_terms_, [], []⟩,
  ⟨("_law_times", none), "_law_times", "_law_times", defArgs s_law_times_, defBody s_law_times_, defScope s_law_times_, [], []⟩,
  ⟨("_law_plus", none), "_law_plus", "_law_plus", defArgs s_law_plus_, defBody s_law_plus_, defScope s_law_plus_, [], []⟩,
  ⟨("_law_due", none), "_law_due", "_law_due", defArgs s_law_due_, defBody s_law_due_, defScope s_law_due_, [], []⟩,
  ⟨("read_number", none), "read_number", "read_number", defArgs s_read_number_, defBody s_read_number_, defScope s_read_number_, [], []⟩,
  ⟨("common", none), "common", "common", defArgs s_common_, defBody s_common_, defScope s_common_, [], []⟩,
  ⟨("fraction", none), "fraction", "fraction", defArgs s_fraction_, defBody s_fraction_, defScope s_fraction_, [], []⟩,
  ⟨("read_fraction", none), "read_fraction", "read_fraction", defArgs s_read_fraction_, defBody s_read_fraction_, defScope s_read_fraction_, [], []⟩,
  ⟨("read_term", none), "read_term", "read_term", defArgs s_read_term_, defBody s_read_term_, defScope s_read_term_, [], []⟩,
  ⟨("minus", none), "minus", "minus", defArgs s_minus_, defBody s_minus_, defScope s_minus_, [], []⟩,
  ⟨("signed_term", none), "signed_term", "signed_term", defArgs s_signed_term_, defBody s_signed_term_, defScope s_signed_term_, [], []⟩,
  ⟨("read_terms", none), "read_terms", "read_terms", defArgs s_read_terms_, defBody s_read_terms_, defScope s_read_terms_, [], []⟩,
  ⟨("times", none), "times", "times", defArgs s_times_, defBody s_times_, defScope s_times_, [], []⟩,
  ⟨("plus", none), "plus", "plus", defArgs s_plus_, defBody s_plus_, defScope s_plus_, [], []⟩,
  ⟨("read_form", none), "read_form", "read_form", defArgs s_read_form_, defBody s_read_form_, defScope s_read_form_, [], []⟩,
  ⟨("_law_whole", none), "_law_whole", "_law_whole", defArgs s_law_whole_, defBody s_law_whole_, defScope s_law_whole_, [], []⟩,
  ⟨("_law_is", none), "_law_is", "_law_is", defArgs s_law_is_, defBody s_law_is_, defScope s_law_is_, [], []⟩,
  ⟨("law", none), "law", "law", defArgs s_law_, defBody s_law_, defScope s_law_, [], []⟩]
def hdD : List (List He.DefD) := [hdD0]
def hdT : List Str := []
set_option maxHeartbeats 0 in
theorem hd_runF (w : World) : HandSHeadRun.RunEq hdR hdQ (hd_hookM hdX hdD hdT) (hd_obM hdX hdD hdT) 30000 hdN (w.withFollow "special-get-raises" false) := by
  intro os
  kernel_rfl
set_option maxHeartbeats 0 in
theorem hd_runT (w : World) : HandSHeadRun.RunEq hdR hdQ (hd_hookM hdX hdD hdT) (hd_obM hdX hdD hdT) 30000 hdN (w.withFollow "special-get-raises" true) := by
  intro os
  kernel_rfl
theorem hd_run (w : World) : HandSHeadRun.RunEq hdR hdQ (hd_hookM hdX hdD hdT) (hd_obM hdX hdD hdT) 30000 hdN w := PySem.W.byRow2 "special-get-raises" hd_runF hd_runT w
end Mi
/-! MiP: partial functions of plain Lean, into which the program is read. -/
namespace Mi

/-! ### plain side: partial functions of plain Lean -/
theorem bind_some {α β : Type} {m : Option α} {f : α → Option β} {r : β} (h : m.bind f = some r) : ∃ a, m = some a ∧ f a = some r := by
  cases m with
  | none => cases h
  | some a => exact ⟨a, rfl, h⟩
def mulO (a b : Int) : Option Int := if a.natAbs.log2 + b.natAbs.log2 < 134000000 then some (a * b) else none
def divO (a b : Int) : Option Int := if b ≠ 0 ∧ (b.natAbs.log2 < 9000 ∨ a.natAbs.log2 ≤ b.natAbs.log2 + 3000) then some (a.fdiv b) else none
def modO (a b : Int) : Option Int := if b ≠ 0 then some (a.fmod b) else none
def powO (a b : Int) : Option Int := if 0 ≤ b ∧ b ≤ 1000000 ∧ a.natAbs < 2 ^ 64 then some (a ^ b.toNat) else none
def shlO (a b : Int) : Option Int := if 0 ≤ b ∧ b ≤ 1000000 ∧ a.natAbs < 2 ^ 64 then some (a * 2 ^ b.toNat) else none
def shrO (a b : Int) : Option Int := if 0 ≤ b then some (a / 2 ^ b.toNat) else none
/-- the item at a place, counted from the end where it is below 0 -/
def ixO {α : Type} (xs : List α) (i : Int) : Option α := if 0 ≤ i then xs[i.toNat]? else if -(xs.length : Int) ≤ i then xs[(i + xs.length).toNat]? else none
def setO {α : Type} (xs : List α) (i : Int) (x : α) : Option (List α) := if 0 ≤ i ∧ i < xs.length then some (xs.set i.toNat x) else if i < 0 ∧ -(xs.length : Int) ≤ i then some (xs.set (i + xs.length).toNat x) else none
def appO {α : Type} (xs : List α) (x : α) : Option (List α) := if xs.length < 16000000 then some (xs ++ [x]) else none
def catO {α : Type} (xs ys : List α) : Option (List α) := if xs.length + ys.length ≤ 16000000 then some (xs ++ ys) else none
def cutIx (n d : Nat) : Option Int → Nat
  | none => d
  | some v => ((if v < 0 then max (v + (n : Int)) 0 else min v (n : Int))).toNat
def cutL {α : Type} (xs : List α) (lo hi : Option Int) : List α := (xs.drop (cutIx xs.length 0 lo)).take (cutIx xs.length xs.length hi - cutIx xs.length 0 lo)
/-- lo, lo + 1 .. below hi -/
def rangeL (lo hi : Int) : List Int := (List.range (hi - lo).toNat).map fun (i : Nat) => lo + (i : Int)
def rangeO (lo hi : Int) : Option (List Int) := if -(2 ^ 62) ≤ lo ∧ lo < 2 ^ 62 ∧ -(2 ^ 62) ≤ hi ∧ hi < 2 ^ 62 then some (rangeL lo hi) else none
/-- .. of no more than sixteen million -/
def rangeC (lo hi : Int) : Option (List Int) := if -(2 ^ 62) ≤ lo ∧ lo < 2 ^ 62 ∧ -(2 ^ 62) ≤ hi ∧ hi < 2 ^ 62 ∧ (hi - lo).toNat ≤ 16000000 then some (rangeL lo hi) else none
/-- how a turn ends: on, out, or handing back -/
inductive Fl (S R : Type) where
  | nx (s : S) | ex (s : S) | rt (r : R)
section
variable {S R α β : Type}
def itN (c : S → Option Bool) (b : S → Option S) : Nat → S → Option S
  | 0, _ => none
  | n + 1, s => (c s).bind fun t => cond t ((b s).bind fun s' => itN c b n s') (some s)
theorem itN_mono {c : S → Option Bool} {b : S → Option S} : ∀ {n m : Nat} {s r : S}, itN c b n s = some r → n ≤ m → itN c b m s = some r
  | 0, _, _, _, h, _ => by cases h
  | n + 1, 0, _, _, _, l => absurd l (Nat.not_succ_le_zero n)
  | n + 1, m + 1, s, r, h, l => by
    obtain ⟨t, h1, h2⟩ := bind_some (show (c s).bind _ = some r from h)
    show (c s).bind _ = some r
    rw [h1]
    cases t with
    | false => exact h2
    | true =>
      obtain ⟨s', h3, h4⟩ := bind_some (show (b s).bind _ = some r from h2)
      show (b s).bind _ = some r
      rw [h3]
      exact itN_mono h4 (Nat.le_of_succ_le_succ l)
open Classical in
/-- while, without a return in it -/
noncomputable def whileN (c : S → Option Bool) (b : S → Option S) (s : S) : Option S := if h : ∃ n r, itN c b n s = some r then some (Classical.choose (Classical.choose_spec h)) else none
theorem whileN_iff {c : S → Option Bool} {b : S → Option S} {s r : S} : whileN c b s = some r ↔ ∃ n, itN c b n s = some r := by
  unfold whileN
  by_cases h : ∃ n r, itN c b n s = some r
  · rw [dif_pos h]
    have q := Classical.choose_spec (Classical.choose_spec h)
    refine ⟨fun e => ⟨Classical.choose h, ?_⟩, fun ⟨n, e⟩ => ?_⟩
    · rw [q]
      exact e
    · have x := itN_mono q (Nat.le_max_left (Classical.choose h) n)
      have y := itN_mono e (Nat.le_max_right (Classical.choose h) n)
      rw [x] at y
      exact y
  · rw [dif_neg h]
    exact ⟨fun e => (nomatch e), fun ⟨n, e⟩ => absurd ⟨n, r, e⟩ h⟩
def itR (c : S → Option Bool) (b : S → Option (Fl S R)) : Nat → S → Option (Sum S R)
  | 0, _ => none
  | n + 1, s => (c s).bind fun t => cond t ((b s).bind fun f => match f with
    | .nx s' => itR c b n s'
    | .ex s' => some (.inl s')
    | .rt r => some (.inr r)) (some (.inl s))
theorem itR_mono {c : S → Option Bool} {b : S → Option (Fl S R)} : ∀ {n m : Nat} {s : S} {r : Sum S R}, itR c b n s = some r → n ≤ m → itR c b m s = some r
  | 0, _, _, _, h, _ => by cases h
  | n + 1, 0, _, _, _, l => absurd l (Nat.not_succ_le_zero n)
  | n + 1, m + 1, s, r, h, l => by
    obtain ⟨t, h1, h2⟩ := bind_some (show (c s).bind _ = some r from h)
    show (c s).bind _ = some r
    rw [h1]
    cases t with
    | false => exact h2
    | true =>
      obtain ⟨s', h3, h4⟩ := bind_some (show (b s).bind _ = some r from h2)
      show (b s).bind _ = some r
      rw [h3]
      cases s' with
      | nx s' => exact itR_mono (n := n) (m := m) h4 (Nat.le_of_succ_le_succ l)
      | ex s' => exact h4
      | rt r => exact h4
open Classical in
/-- while, with a return or a break in it -/
noncomputable def whileR (c : S → Option Bool) (b : S → Option (Fl S R)) (s : S) : Option (Sum S R) := if h : ∃ n r, itR c b n s = some r then some (Classical.choose (Classical.choose_spec h)) else none
theorem whileR_iff {c : S → Option Bool} {b : S → Option (Fl S R)} {s : S} {r : Sum S R} : whileR c b s = some r ↔ ∃ n, itR c b n s = some r := by
  unfold whileR
  by_cases h : ∃ n r, itR c b n s = some r
  · rw [dif_pos h]
    have q := Classical.choose_spec (Classical.choose_spec h)
    refine ⟨fun e => ⟨Classical.choose h, ?_⟩, fun ⟨n, e⟩ => ?_⟩
    · rw [q]
      exact e
    · have x := itR_mono q (Nat.le_max_left (Classical.choose h) n)
      have y := itR_mono e (Nat.le_max_right (Classical.choose h) n)
      rw [x] at y
      exact y
  · rw [dif_neg h]
    exact ⟨fun e => (nomatch e), fun ⟨n, e⟩ => absurd ⟨n, r, e⟩ h⟩
/-- for, without a return in it -/
def forN (b : S → α → Option S) : List α → S → Option S
  | [], s => some s
  | x :: xs, s => (b s x).bind fun s' => forN b xs s'
def forR (b : S → α → Option (Fl S R)) : List α → S → Option (Sum S R)
  | [], s => some (.inl s)
  | x :: xs, s => (b s x).bind fun f => match f with
    | .nx s' => forR b xs s'
    | .ex s' => some (.inl s')
    | .rt r => some (.inr r)
/-- a comprehension -/
def mapO (f : α → Option β) : List α → Option (List β)
  | [] => some []
  | x :: xs => (f x).bind fun y => (mapO f xs).bind fun ys => some (y :: ys)
def filO (c : α → Option Bool) (f : α → Option β) : List α → Option (List β)
  | [] => some []
  | x :: xs => (c x).bind fun t => cond t ((f x).bind fun y => (filO c f xs).bind fun ys => some (y :: ys)) (filO c f xs)
end
structure T3 (α β γ : Type) where
  a : α
  b : β
  c : γ
  deriving DecidableEq
structure T4 (α β γ δ : Type) where
  a : α
  b : β
  c : γ
  d : δ
  deriving DecidableEq
structure T5 (α β γ δ ε : Type) where
  a : α
  b : β
  c : γ
  d : δ
  e : ε
  deriving DecidableEq
structure KL (α : Type) where
  l : List α
structure TL (α : Type) where
  l : List α
def flE {S R β : Type} (f : S → β) (g : R → β) : Fl S R → β
  | .nx s => f s
  | .ex s => f s
  | .rt r => g r
/-- lo, lo + c, .. below hi, c above 0 -/
def rangeS (lo hi c : Int) : Option (List Int) := if -(2 ^ 61) ≤ lo ∧ lo < 2 ^ 61 ∧ -(2 ^ 61) ≤ hi ∧ hi < 2 ^ 61 then some ((List.range ((hi - lo + c - 1) / c).toNat).map fun (i : Nat) => lo + (i : Int) * c) else none
/-- sorted -/
def insI (x : Int) : List Int → List Int
  | [] => [x]
  | y :: r => if x ≤ y then x :: y :: r else y :: insI x r
def sortI : List Int → List Int
  | [] => []
  | x :: r => insI x (sortI r)
/-! dicts with whole numbers as keys -/
structure DI (β : Type) where
  l : List (Int × β)
section
variable {β : Type}
def dfind (l : List (Int × β)) (k : Int) : Option β := (l.find? fun x => decide (x.1 = k)).map (·.2)
def dput (l : List (Int × β)) (k : Int) (v : β) : List (Int × β) := if (l.any fun x => decide (x.1 = k)) = true then l.map (fun x => if x.1 = k then (x.1, v) else x) else l ++ [(k, v)]
def dputO (d : DI β) (k : Int) (v : β) : Option (DI β) := if d.l.length < 16000000 then some ⟨dput d.l k v⟩ else none
def dgetO (d : DI β) (k : Int) : Option β := dfind d.l k
def dhas (d : DI β) (k : Int) : Bool := (dfind d.l k).isSome
def dgetD (d : DI β) (k : Int) (x : β) : β := (dfind d.l k).getD x
def dput2 (l : List (Int × β)) : List (Int × β) → List (Int × β)
  | [] => l
  | x :: r => dput2 (dput l x.1 x.2) r
/-- a written dict -/
def dmk (l : List (Int × β)) : DI β := ⟨dput2 [] l⟩
/-- sorted(d) -/
def dsortO (d : DI β) : Option (List Int) := if d.l.length < 64 then some (sortI (d.l.map (·.1))) else none
end
/-! a value of one of two kinds -/
def sumB {α β : Type} (a b : Bool) : Sum α β → Bool
  | .inl _ => a
  | .inr _ => b
def outL {α β : Type} : Sum α β → Option α
  | .inl x => some x
  | .inr _ => none
def outR {α β : Type} : Sum α β → Option β
  | .inl _ => none
  | .inr x => some x
/-! a list of two unlike things -/
structure HL (α β : Type) where
  a : α
  b : β
  deriving DecidableEq
/-- enumerate -/
def enumL {α : Type} (k : Int) : List α → List (Int × α)
  | [] => []
  | x :: r => (k, x) :: enumL (k + 1) r
end Mi

/-! PlB: plain rules for partial functions: Tot m P says that m has a value, and that P holds of it. -/
namespace Mi
section
variable {α β S R : Type} {P Q : α → Prop} {m : Option α}
def Tot (m : Option α) (P : α → Prop) : Prop := ∃ a, m = some a ∧ P a
/-- not by rfl: the kernel need not unfold what stands around it -/
theorem bS {a : α} {f : α → Option β} : (some a).bind f = f a := by
  cases h : some a with
  | none => cases h
  | some b => cases h; rfl
theorem bA {γ : Type} {m : Option α} {f : α → Option β} {g : β → Option γ} : (m.bind f).bind g = m.bind fun x => (f x).bind g := Option.bind_assoc m f g
theorem bI {m : Option α} : (m.bind fun x => some x) = m := by cases m <;> rfl
theorem tot_some {a : α} (h : P a) : Tot (some a) P := ⟨a, rfl, h⟩
theorem tot_eq {a : α} (e : m = some a) (h : P a) : Tot m P := ⟨a, e, h⟩
theorem tot_bind {f : α → Option β} {P : β → Prop} (h : Tot m Q) (k : ∀ a, Q a → Tot (f a) P) : Tot (m.bind f) P := by
  obtain ⟨a, rfl, q⟩ := h
  exact k a q
theorem tot_bindE {f : α → Option β} {P : β → Prop} {a : α} (h : m = some a) (k : Tot (f a) P) : Tot (m.bind f) P := by
  subst h
  exact k
theorem tot_mono (h : Tot m Q) (k : ∀ a, Q a → P a) : Tot m P := by
  obtain ⟨a, e, q⟩ := h
  exact ⟨a, e, k a q⟩
theorem Tot.is {a : α} (h : Tot m (· = a)) : m = some a := by
  obtain ⟨b, e, rfl⟩ := h
  exact e
theorem tot_is {a : α} (h : m = some a) : Tot m (· = a) := ⟨a, h, rfl⟩
theorem tot_cond {b : Bool} {x y : Option α} (h1 : b = true → Tot x P) (h2 : b = false → Tot y P) : Tot (cond b x y) P := by
  cases b with
  | true => exact h1 rfl
  | false => exact h2 rfl
theorem tot_if {p : Prop} [Decidable p] {x y : Option α} (h1 : p → Tot x P) (h2 : ¬p → Tot y P) : Tot (cond (decide p) x y) P := by
  by_cases h : p
  · rw [decide_eq_true h]
    exact h1 h
  · rw [decide_eq_false h]
    exact h2 h
theorem tot_ifn {p : Prop} [Decidable p] {x y : Option α} (h1 : ¬p → Tot x P) (h2 : p → Tot y P) : Tot (cond (!decide p) x y) P := by
  by_cases h : p
  · rw [decide_eq_true h]
    exact h2 h
  · rw [decide_eq_false h]
    exact h1 h
/-- a test joined by or, and -/
theorem tot_or {p : Bool} {q : Bool} {x y : Option α} (h1 : (p = true ∨ q = true) → Tot x P) (h2 : p = false → q = false → Tot y P) : Tot (cond (p || q) x y) P := by
  cases p <;> cases q
  · exact h2 rfl rfl
  · exact h1 (.inr rfl)
  · exact h1 (.inl rfl)
  · exact h1 (.inl rfl)
theorem tot_and {p : Bool} {q : Bool} {x y : Option α} (h1 : p = true → q = true → Tot x P) (h2 : (p = false ∨ q = false) → Tot y P) : Tot (cond (p && q) x y) P := by
  cases p <;> cases q
  · exact h2 (.inl rfl)
  · exact h2 (.inl rfl)
  · exact h2 (.inr rfl)
  · exact h1 rfl rfl

/-! ### loops -/
/-- an invariant over what is done -/
theorem tot_forN {b : S → α → Option S} {Q : S → Prop} (I : List α → S → Prop) : ∀ {xs pre : List α} {s : S}, I pre s →
    (∀ pre x s, x ∈ xs → I pre s → Tot (b s x) (I (pre ++ [x]))) → (∀ s, I (pre ++ xs) s → Q s) → Tot (forN b xs s) Q
  | [], pre, s, h0, _, hq => tot_some (hq s (by rwa [List.append_nil]))
  | x :: xs, pre, s, h0, st, hq => by
    refine tot_bind (st pre x s List.mem_cons_self h0) fun s' h' => ?_
    refine tot_forN I (pre := pre ++ [x]) h' (fun p y s m h => st p y s (List.mem_cons_of_mem _ m) h) (fun s h => hq s ?_)
    rwa [List.append_assoc] at h
/-- an invariant over what is still to come -/
theorem tot_for {b : S → α → Option S} {Q : S → Prop} (I : List α → S → Prop) : ∀ {xs : List α} {s : S}, I xs s →
    (∀ x r s, I (x :: r) s → Tot (b s x) (I r)) → (∀ s, I [] s → Q s) → Tot (forN b xs s) Q
  | [], s, h0, _, hq => tot_some (hq s h0)
  | x :: xs, s, h0, st, hq => tot_bind (st x xs s h0) fun s' h' => tot_for I h' st hq
/-- an invariant that names no list -/
theorem tot_forI {b : S → α → Option S} {Q : S → Prop} (I : S → Prop) : ∀ {xs : List α} {s : S}, I s →
    (∀ x s, x ∈ xs → I s → Tot (b s x) I) → (∀ s, I s → Q s) → Tot (forN b xs s) Q
  | [], s, h0, _, hq => tot_some (hq s h0)
  | x :: xs, s, h0, st, hq => tot_bind (st x s List.mem_cons_self h0) fun s' h' => tot_forI I h' (fun y s m h => st y s (List.mem_cons_of_mem _ m) h) hq
def FlP (I : S → Prop) (Q : Sum S R → Prop) : Fl S R → Prop
  | .nx s => I s
  | .ex s => Q (.inl s)
  | .rt r => Q (.inr r)
theorem tot_forR {b : S → α → Option (Fl S R)} {Q : Sum S R → Prop} (I : List α → S → Prop) : ∀ {xs : List α} {s : S}, I xs s →
    (∀ x r s, I (x :: r) s → Tot (b s x) (FlP (I r) Q)) → (∀ s, I [] s → Q (.inl s)) → Tot (forR b xs s) Q
  | [], s, h0, _, hq => tot_some (hq s h0)
  | x :: xs, s, h0, st, hq => by
    refine tot_bind (st x xs s h0) fun f hf => ?_
    cases f with
    | nx s' => exact tot_forR I hf st hq
    | ex s' => exact tot_some hf
    | rt r => exact tot_some hf
theorem tot_forRI {b : S → α → Option (Fl S R)} {Q : Sum S R → Prop} (I : S → Prop) : ∀ {xs : List α} {s : S}, I s →
    (∀ x s, x ∈ xs → I s → Tot (b s x) (FlP I Q)) → (∀ s, I s → Q (.inl s)) → Tot (forR b xs s) Q
  | [], s, h0, _, hq => tot_some (hq s h0)
  | x :: xs, s, h0, st, hq => by
    refine tot_bind (st x s List.mem_cons_self h0) fun f hf => ?_
    cases f with
    | nx s' => exact tot_forRI I hf (fun y s m h => st y s (List.mem_cons_of_mem _ m) h) hq
    | ex s' => exact tot_some hf
    | rt r => exact tot_some hf
theorem rangeL_nil {lo hi : Int} (h : hi ≤ lo) : rangeL lo hi = [] := by
  unfold rangeL
  rw [Int.toNat_of_nonpos (by omega)]
  rfl
theorem rangeL_cons {lo hi : Int} (h : lo < hi) : rangeL lo hi = lo :: rangeL (lo + 1) hi := by
  unfold rangeL
  have e : (hi - lo).toNat = (hi - (lo + 1)).toNat + 1 := by omega
  rw [e, List.range_succ_eq_map, List.map_cons, List.map_map]
  congr 1
  · simp
  · apply List.map_congr_left
    intro a _
    show lo + ((a + 1 : Nat) : Int) = lo + 1 + (a : Int)
    omega
theorem mem_rangeL {lo hi x : Int} : x ∈ rangeL lo hi ↔ lo ≤ x ∧ x < hi := by
  unfold rangeL
  rw [List.mem_map]
  constructor
  · rintro ⟨a, ha, rfl⟩
    rw [List.mem_range] at ha
    omega
  · rintro ⟨h1, h2⟩
    exact ⟨(x - lo).toNat, List.mem_range.mpr (by omega), by omega⟩
theorem rangeL_length {lo hi : Int} : (rangeL lo hi).length = (hi - lo).toNat := by simp [rangeL]
/-- over a range, by the number -/
theorem tot_forI2 {b : S → Int → Option S} {Q : S → Prop} (I : Int → S → Prop) {lo hi : Int} (hl : lo ≤ hi) {s : S} (h0 : I lo s)
    (st : ∀ i s, lo ≤ i → i < hi → I i s → Tot (b s i) (I (i + 1))) (hq : ∀ s, I hi s → Q s) : Tot (forN b (rangeL lo hi) s) Q := by
  by_cases h : lo < hi
  · rw [rangeL_cons h]
    refine tot_bind (st lo s (Int.le_refl lo) h h0) fun s' h' => ?_
    exact tot_forI2 I (lo := lo + 1) (by omega) h' (fun i s h1 h2 => st i s (by omega) h2) hq
  · have e : lo = hi := by omega
    subst e
    rw [rangeL_nil (Int.le_refl _)]
    exact tot_some (hq s h0)
termination_by (hi - lo).toNat
decreasing_by omega
theorem tot_forR2 {b : S → Int → Option (Fl S R)} {Q : Sum S R → Prop} (I : Int → S → Prop) {lo hi : Int} (hl : lo ≤ hi) {s : S} (h0 : I lo s)
    (st : ∀ i s, lo ≤ i → i < hi → I i s → Tot (b s i) (FlP (I (i + 1)) Q)) (hq : ∀ s, I hi s → Q (.inl s)) : Tot (forR b (rangeL lo hi) s) Q := by
  by_cases h : lo < hi
  · rw [rangeL_cons h]
    refine tot_bind (st lo s (Int.le_refl lo) h h0) fun f hf => ?_
    cases f with
    | nx s' => exact tot_forR2 I (lo := lo + 1) (by omega) hf (fun i s h1 h2 => st i s (by omega) h2) hq
    | ex s' => exact tot_some hf
    | rt r => exact tot_some hf
  · have e : lo = hi := by omega
    subst e
    rw [rangeL_nil (Int.le_refl _)]
    exact tot_some (hq s h0)
termination_by (hi - lo).toNat
decreasing_by omega
theorem tot_itN {c : S → Option Bool} {b : S → Option S} {Q : S → Prop} (I : S → Prop) (μ : S → Nat)
    (st : ∀ s, I s → Tot (c s) fun t => (t = true → Tot (b s) fun s' => I s' ∧ μ s' < μ s) ∧ (t = false → Q s)) : ∀ (n : Nat) (s : S), I s → μ s < n → ∃ r, itN c b n s = some r ∧ Q r
  | 0, s, h0, h => absurd h (Nat.not_lt_zero _)
  | n + 1, s, h0, h => by
    obtain ⟨t, e, h1, h2⟩ := st s h0
    cases t with
    | false => exact ⟨s, by unfold itN; rw [e]; rfl, h2 rfl⟩
    | true =>
      obtain ⟨s', e2, h3, h4⟩ := h1 rfl
      obtain ⟨r, e3, hr⟩ := tot_itN I μ st n s' h3 (by omega)
      exact ⟨r, by unfold itN; rw [e]; show (b s).bind _ = _; rw [e2]; exact e3, hr⟩
theorem tot_while {c : S → Option Bool} {b : S → Option S} {Q : S → Prop} (I : S → Prop) (μ : S → Nat) {s : S} (h0 : I s)
    (st : ∀ s, I s → Tot (c s) fun t => (t = true → Tot (b s) fun s' => I s' ∧ μ s' < μ s) ∧ (t = false → Q s)) : Tot (whileN c b s) Q := by
  obtain ⟨r, e, hr⟩ := tot_itN I μ st _ s h0 (Nat.lt_succ_self _)
  exact ⟨r, whileN_iff.mpr ⟨_, e⟩, hr⟩
theorem tot_itR {c : S → Option Bool} {b : S → Option (Fl S R)} {Q : Sum S R → Prop} (I : S → Prop) (μ : S → Nat)
    (st : ∀ s, I s → Tot (c s) fun t => (t = true → Tot (b s) (FlP (fun s' => I s' ∧ μ s' < μ s) Q)) ∧ (t = false → Q (.inl s))) : ∀ (n : Nat) (s : S), I s → μ s < n → ∃ r, itR c b n s = some r ∧ Q r
  | 0, s, h0, h => absurd h (Nat.not_lt_zero _)
  | n + 1, s, h0, h => by
    obtain ⟨t, e, h1, h2⟩ := st s h0
    cases t with
    | false => exact ⟨.inl s, by unfold itR; rw [e]; rfl, h2 rfl⟩
    | true =>
      obtain ⟨f, e2, hf⟩ := h1 rfl
      cases f with
      | nx s' =>
        obtain ⟨h3, h4⟩ := hf
        obtain ⟨r, e3, hr⟩ := tot_itR I μ st n s' h3 (by omega)
        exact ⟨r, by unfold itR; rw [e]; show (b s).bind _ = _; rw [e2]; exact e3, hr⟩
      | ex s' => exact ⟨.inl s', by unfold itR; rw [e]; show (b s).bind _ = _; rw [e2]; rfl, hf⟩
      | rt r => exact ⟨.inr r, by unfold itR; rw [e]; show (b s).bind _ = _; rw [e2]; rfl, hf⟩
theorem tot_whileR {c : S → Option Bool} {b : S → Option (Fl S R)} {Q : Sum S R → Prop} (I : S → Prop) (μ : S → Nat) {s : S} (h0 : I s)
    (st : ∀ s, I s → Tot (c s) fun t => (t = true → Tot (b s) (FlP (fun s' => I s' ∧ μ s' < μ s) Q)) ∧ (t = false → Q (.inl s))) : Tot (whileR c b s) Q := by
  obtain ⟨r, e, hr⟩ := tot_itR I μ st _ s h0 (Nat.lt_succ_self _)
  exact ⟨r, whileR_iff.mpr ⟨_, e⟩, hr⟩
end

/-! ### the numbers' sizes -/
/-- no more than so many bits -/
def Sz (n : Nat) (a : Int) : Prop := a.natAbs < 2 ^ n
instance (n : Nat) (a : Int) : Decidable (Sz n a) := inferInstanceAs (Decidable (a.natAbs < 2 ^ n))
section
variable {a b : Int} {m n k : Nat}
theorem sz_log (h : Sz n a) (h1 : 1 ≤ n) : a.natAbs.log2 < n := by
  unfold Sz at h
  by_cases h0 : a.natAbs = 0
  · rw [h0, Nat.log2_zero]
    exact h1
  · exact (Nat.log2_lt h0).mpr h
theorem Sz.mono (h : Sz m a) (l : m ≤ n) : Sz n a := Nat.lt_of_lt_of_le h (Nat.pow_le_pow_right (by decide) l)
theorem Sz.mul (h : Sz m a) (g : Sz n b) : Sz (m + n) (a * b) := by
  unfold Sz at *
  rw [Int.natAbs_mul, Nat.pow_add]
  exact Nat.mul_lt_mul'' h g
theorem Sz.add (h : Sz m a) (g : Sz m b) : Sz (m + 1) (a + b) := by
  unfold Sz at *
  have := Int.natAbs_add_le a b
  rw [Nat.pow_succ]
  omega
theorem Sz.sub (h : Sz m a) (g : Sz m b) : Sz (m + 1) (a - b) := by
  unfold Sz at *
  have := Int.natAbs_sub_le a b
  rw [Nat.pow_succ]
  omega
theorem Sz.neg (h : Sz m a) : Sz m (-a) := by
  unfold Sz at *
  rwa [Int.natAbs_neg]
theorem Sz.le (h : Sz m b) (l : a.natAbs ≤ b.natAbs) : Sz m a := Nat.lt_of_le_of_lt l h
theorem dvd_le {a b : Int} (h : a ∣ b) (hb : b ≠ 0) : a.natAbs ≤ b.natAbs := Nat.le_of_dvd (by omega) (Int.natAbs_dvd_natAbs.mpr h)
theorem mulO_sz (h : Sz m a) (g : Sz n b) (l : m + n ≤ 134000000) : mulO a b = some (a * b) := by
  have h' : a.natAbs.log2 ≤ m := by
    by_cases h0 : a.natAbs = 0
    · rw [h0, Nat.log2_zero]; exact Nat.zero_le _
    · exact Nat.le_of_lt ((Nat.log2_lt h0).mpr h)
  have g' : b.natAbs.log2 < n + 1 := sz_log (g.mono (Nat.le_succ n)) (by omega)
  unfold mulO
  by_cases h0 : a.natAbs.log2 + b.natAbs.log2 < 134000000
  · rw [if_pos h0]
  · by_cases ha : a.natAbs = 0
    · exfalso
      rw [ha, Nat.log2_zero] at h0
      by_cases hb : b.natAbs = 0
      · rw [hb, Nat.log2_zero] at h0
        omega
      · have := (Nat.log2_lt hb).mpr g
        omega
    · have h3 := (Nat.log2_lt ha).mpr h
      omega
theorem log2_le_of_lt {x n : Nat} (h : x < 2 ^ n) : x.log2 ≤ n := by
  by_cases h0 : x = 0
  · rw [h0, Nat.log2_zero]
    exact Nat.zero_le _
  · exact Nat.le_of_lt ((Nat.log2_lt h0).mpr h)
theorem log2_lt_of_lt {x n : Nat} (h : x < 2 ^ n) (l : 0 < n) : x.log2 < n := by
  by_cases h0 : x = 0
  · rw [h0, Nat.log2_zero]
    exact l
  · exact (Nat.log2_lt h0).mpr h
theorem divO_sz (h0 : b ≠ 0) (g : Sz n b) (l : n ≤ 9000) : divO a b = some (a.fdiv b) := if_pos ⟨h0, Or.inl (Nat.lt_of_lt_of_le (log2_lt_of_lt g (Nat.pos_of_ne_zero fun e => by
  subst e
  unfold Sz at g
  omega)) l)⟩
theorem modO_ne (h : b ≠ 0) : modO a b = some (a.fmod b) := if_pos h
theorem modO_pos (h : 0 < b) : modO a b = some (a % b) := by
  rw [modO_ne (by omega), Int.fmod_eq_emod_of_nonneg _ (by omega)]
theorem divO_pos (h0 : 0 < b) (g : Sz n b) (l : n ≤ 9000) : divO a b = some (a / b) := by
  rw [divO_sz (by omega) g l, Int.fdiv_eq_ediv_of_nonneg _ (by omega)]
/-- sizes of middling numbers by their bounds -/
theorem sz250 (h : -2 ^ 250 < a) (g : a < 2 ^ 250) : Sz 250 a := by
  unfold Sz
  omega
theorem mulO_s (h1 : -2 ^ 250 < a) (h2 : a < 2 ^ 250) (h3 : -2 ^ 250 < b) (h4 : b < 2 ^ 250) : mulO a b = some (a * b) := mulO_sz (sz250 h1 h2) (sz250 h3 h4) (by decide)
theorem rangeO_s (h1 : -2 ^ 62 ≤ a) (h2 : a < 2 ^ 62) (h3 : -2 ^ 62 ≤ b) (h4 : b < 2 ^ 62) : rangeO a b = some (rangeL a b) := if_pos ⟨h1, h2, h3, h4⟩
theorem rangeC_s (h1 : -2 ^ 62 ≤ a) (h2 : a < 2 ^ 62) (h3 : -2 ^ 62 ≤ b) (h4 : b < 2 ^ 62) (h5 : b - a ≤ 16000000) : rangeC a b = some (rangeL a b) := if_pos ⟨h1, h2, h3, h4, by omega⟩
theorem rangeS_in {lo hi c : Int} (hc : 0 < c) (h1 : -(2 ^ 61) ≤ lo ∧ lo < 2 ^ 61) (h2 : -(2 ^ 61) ≤ hi ∧ hi < 2 ^ 61) : ∃ xs, rangeS lo hi c = some xs ∧ ∀ x ∈ xs, lo ≤ x ∧ x < hi := by
  refine ⟨_, if_pos ⟨h1.1, h1.2, h2⟩, fun x hx => ?_⟩
  simp only [List.mem_map, List.mem_range] at hx
  obtain ⟨n, hn, rfl⟩ := hx
  have hp : 0 ≤ (n : Int) * c := Int.mul_nonneg (by omega) (by omega)
  have h3 : (n : Int) + 1 ≤ (hi - lo + c - 1) / c := by omega
  have h4 := Int.mul_le_of_le_ediv hc h3
  rw [Int.add_mul, Int.one_mul] at h4
  omega
theorem ixO_nat {α : Type} {xs : List α} {i : Nat} (h : i < xs.length) : ixO xs (i : Int) = some xs[i] := by
  unfold ixO
  rw [if_pos (by omega), Int.toNat_natCast, List.getElem?_eq_getElem h]
theorem ixO_in {α : Type} {xs : List α} {i : Int} (h0 : 0 ≤ i) (h : i < xs.length) : ∃ x, ixO xs i = some x ∧ x ∈ xs := by
  obtain ⟨n, rfl⟩ := Int.eq_ofNat_of_zero_le h0
  have hn : n < xs.length := by omega
  exact ⟨xs[n], ixO_nat hn, List.getElem_mem hn⟩
end
end Mi

/-! MiW: values by types, what readings evaluate to, loops, calls: from readings to functions of plain Lean. -/
namespace Mi
open PySem L2

/-! ### the view G (what is not changed any more) within the heap H -/
/-- the tables of code objects that a law's lambdas need: the table's address, the lambda's name -/
class Tbs where
  T : List (Addr × Str)
abbrev NT (o : HO) : Prop := ∀ ps, o ≠ .tbl ps
theorem nt_lst {vs : List V} : NT (.lst vs) := fun _ z => by cases z
theorem nt_ext {f : Heap → Prop} : NT (.ext f) := fun _ z => by cases z
/-- what the heap holds stays, but the tables of code objects -/
structure HK (H H' : Hp) : Prop where
  k : ∀ b o, H b = some o → (nt : NT o := by first | exact nt_lst | exact nt_ext | assumption | (intro ps z; cases z)) → H' b = some o
  d : ∀ b, H' b = none → H b = none
variable [Tbs]
/-- the view within the heap -/
structure Vw (G H : Hp) : Prop where
  s : Same G H
  t : ∀ p ∈ Tbs.T, G p.1 = none ∧ LamX.TabS H p.1 p.2
instance {G H : Hp} : CoeFun (Vw G H) fun _ => ∀ b o, G b = some o → H b = some o := ⟨fun v => v.s⟩
instance {G H : Hp} : Coe (Vw G H) (Same G H) := ⟨fun v => v.s⟩
structure Ext (G H G' H' : Hp) : Prop where
  g : Same G G'
  s : Vw G' H'
  h : HK H H'
  a : ∀ b, H b ≠ none → G' b = G b
section
variable {G H G1 H1 G2 H2 G3 H3 : Hp} {K : PySem.W.Frag} {p q : Addr} {o u : HO}
omit [Tbs] in
theorem HK.refl (H : Hp) : HK H H := ⟨fun _ _ h _ => h, fun _ h => h⟩
omit [Tbs] in
theorem HK.trans (x : HK H H1) (y : HK H1 H2) : HK H H2 := ⟨fun b o h n => y.k b o (x.k b o h n) n, fun b h => x.d b (y.d b h)⟩
omit [Tbs] in
theorem HK.free (x : HK H H1) (h : H1 p = none) : H p = none := x.d p h
omit [Tbs] in
theorem HK.of (x : Same H H1) : HK H H1 := ⟨fun b o h _ => x b o h, fun _ h => x.free h⟩
omit [Tbs] in
theorem HK.seq {a : Addr} {xs : List V} (x : HK H H1) (h : SqL K H a xs) : SqL K H1 a xs := by
  rcases h with (h | ⟨o, h⟩) | h
  · exact .inl (.inl (x.k _ _ h))
  · exact .inl (.inr ⟨o, x.k _ _ h⟩)
  · exact .inr h
theorem Vw.free (x : Vw G H) (h : H p = none) : G p = none := x.s.free h
theorem Vw.seq {a : Addr} {xs : List V} (x : Vw G H) (h : SqL K G a xs) : SqL K H a xs := x.s.seq h
omit [Tbs] in
theorem tab_ne {P : Addr} {q : Str} (t : LamX.TabS H P q) : H P ≠ none := by
  obtain ⟨ps, h, _⟩ := t
  rw [h]
  intro z
  cases z
omit [Tbs] in
theorem tab_nt {P p : Addr} {q : Str} (t : LamX.TabS H P q) (h : H p = some u) (n : NT u) : P ≠ p := fun e => by
  obtain ⟨ps, h2, _⟩ := t
  rw [e, h] at h2
  exact n ps (Option.some.inj h2)
/-- neither a table nor a code object -/
structure Pn (u : HO) : Prop where
  t : NT u
  c : ∀ c q, u ≠ LamX.CodeO c q
omit [Tbs] in
theorem pn_of (h : ∀ ps, u ≠ .tbl ps) (h2 : ∀ f, u ≠ .ext f) : Pn u := ⟨h, fun c q z => h2 _ (by rw [z]; rfl)⟩
omit [Tbs] in
theorem pn_lst {vs : List V} : Pn (.lst vs) := pn_of (fun _ z => by cases z) (fun _ z => by cases z)
omit [Tbs] in
theorem tab_upd {P : Addr} {q : Str} (t : LamX.TabS H P q) (h : H p = some u) (n : Pn u) : LamX.TabS (upd H p o) P q := by
  have hp := tab_nt t h n.t
  obtain ⟨ps, h1, h2, h3⟩ := t
  refine ⟨ps, by rw [upd_ne hp]; exact h1, h2, fun pos cv hc => ?_⟩
  obtain ⟨c, e1, e2⟩ := h3 pos cv hc
  refine ⟨c, e1, ?_⟩
  rw [upd_ne fun e => n.c c q (by rw [e, h] at e2; rw [e]; exact Option.some.inj e2)]
  exact e2
theorem Ext.refl (s : Vw G H) : Ext G H G H := ⟨Same.refl _, s, HK.refl _, fun _ _ => rfl⟩
omit [Tbs] in
theorem same_ne (h : HK H H1) (n : H p ≠ none) : H1 p ≠ none := fun e => n (h.d p e)
theorem Ext.trans (x : Ext G H G1 H1) (y : Ext G1 H1 G2 H2) : Ext G H G2 H2 :=
  ⟨x.g.trans y.g, y.s, x.h.trans y.h, fun b n => (y.a b (same_ne x.h n)).trans (x.a b n)⟩
theorem Ext.s0 (x : Ext G H G1 H1) (s : Vw G H) : Vw G1 H1 := x.s
omit [Tbs] in
theorem same_new (n : H p = none) : Same H (upd H p o) := fun b u e => by
  rw [upd_ne (ne_of_none e n)]
  exact e
theorem same_under (s : Vw G H) (n : H p = none) : Vw G (upd H p o) := ⟨fun b u e => by
  rw [upd_ne (ne_of_none e (s.free n))]
  exact s.s _ _ e, fun x hx => ⟨(s.t x hx).1, (s.t x hx).2.ext (same_new n)⟩⟩
/-- an own object changed -/
theorem same_put (s : Vw G H) (n : G p = none) (h : H p = some u) (hu : Pn u) : Vw G (upd H p o) := ⟨fun b u e => by
  rw [upd_ne (ne_of_none e n)]
  exact s.s _ _ e, fun x hx => ⟨(s.t x hx).1, tab_upd (s.t x hx).2 h hu⟩⟩
theorem same_both (s : Vw G H) (n : H p = none) : Vw (upd G p o) (upd H p o) := ⟨fun b u e => by
  by_cases hb : b = p
  · subst hb
    rw [upd_same] at e ⊢
    exact e
  · rw [upd_ne hb] at e ⊢
    exact s.s _ _ e, fun x hx => by
  have hP : x.1 ≠ p := fun e => tab_ne (s.t x hx).2 (by rw [e]; exact n)
  exact ⟨by rw [upd_ne hP]; exact (s.t x hx).1, (s.t x hx).2.ext (same_new n)⟩⟩
/-- an object changed on both sides -/
theorem same_at (s : Vw G H) (h : H p = some u) (hu : Pn u) : Vw (upd G p o) (upd H p o) := ⟨fun b u e => by
  by_cases hb : b = p
  · subst hb
    rw [upd_same] at e ⊢
    exact e
  · rw [upd_ne hb] at e ⊢
    exact s.s _ _ e, fun x hx => ⟨by rw [upd_ne (tab_nt (s.t x hx).2 h hu.t)]; exact (s.t x hx).1, tab_upd (s.t x hx).2 h hu⟩⟩
/-- an own object shown -/
theorem same_show (s : Vw G H) (h : H p = some o) (n : NT o) : Vw (upd G p o) H := ⟨fun b u e => by
  by_cases hb : b = p
  · subst hb
    rw [upd_same] at e
    rw [← e]
    exact h
  · rw [upd_ne hb] at e
    exact s.s _ _ e, fun x hx => ⟨by rw [upd_ne (tab_nt (s.t x hx).2 h n)]; exact (s.t x hx).1, (s.t x hx).2⟩⟩
/-- less is shown -/
theorem Vw.less (s : Vw G1 H) (h : Same G G1) : Vw G H := ⟨h.trans s.s, fun x hx => ⟨h.free (s.t x hx).1, (s.t x hx).2⟩⟩
theorem Ext.own (s : Vw G H) (n : H p = none) : Ext G H G (upd H p o) := ⟨Same.refl _, same_under s n, HK.of (same_new n), fun _ _ => rfl⟩
theorem Ext.new (s : Vw G H) (n : H p = none) : Ext G H (upd G p o) (upd H p o) :=
  ⟨same_new (s.free n), same_both s n, HK.of (same_new n), fun b h => by rw [upd_ne (fun e => h (by rw [e]; exact n))]⟩
/-- what is new may be shown -/
theorem Ext.show (x : Ext G H G1 H1) (n : H p = none) (g : G1 p = none) (h : H1 p = some o) (nt : NT o := by first | exact nt_lst | exact nt_ext | assumption | (intro ps z; cases z)) : Ext G H (upd G1 p o) H1 :=
  ⟨x.g.trans (same_new g), same_show x.s h nt, x.h, fun b hb => by rw [upd_ne (fun e => hb (by rw [e]; exact n)), x.a b hb]⟩
/-- what is new may be changed -/
abbrev PnAt (H : Hp) (p : Addr) : Prop := ∃ u, H p = some u ∧ Pn u
theorem Ext.put (x : Ext G H G1 H1) (n : H p = none) (g : G1 p = none) (hx : PnAt H1 p) : Ext G H G1 (upd H1 p o) :=
  ⟨x.g, hx.elim fun _ hu => same_put x.s g hu.1 hu.2, ⟨fun b u e nt => by
    rw [upd_ne (ne_of_none e n)]
    exact x.h.k _ _ e nt, fun b e => by
    by_cases hb : b = p
    · rw [hb]; exact n
    · rw [upd_ne hb] at e
      exact x.h.d b e⟩, x.a⟩
/-- shown on both sides -/
theorem ext_up (e : Ext G H G1 H1) (hp : H1 p = some o) (nt : NT o := by first | exact nt_lst | exact nt_ext | assumption | (intro ps z; cases z)) : Ext (upd G p o) H (upd G1 p o) H1 := by
  refine ⟨fun b u eb => ?_, same_show e.s hp nt, e.h, fun b hb => ?_⟩
  · by_cases h : b = p
    · subst h
      rw [upd_same] at eb ⊢
      exact eb
    · rw [upd_ne h] at eb ⊢
      exact e.g _ _ eb
  · by_cases h : b = p
    · subst h
      rw [upd_same, upd_same]
    · rw [upd_ne h, upd_ne h]
      exact e.a _ hb
omit [Tbs] in
theorem same_tup {a : Addr} {xs : List V} (e : Same G H) (h : SqT K G a xs) : SqT K H a xs := by
  rcases h with (h | ⟨o, h⟩) | h
  · exact .inl (.inl (e _ _ h))
  · exact .inl (.inr ⟨o, e _ _ h⟩)
  · exact .inr h
end

/-! ### values by types -/
class Rp (α : Type) where
  rep : PySem.W.Frag → Hp → V → α → Prop
  mono : ∀ {K : PySem.W.Frag} {G G' : Hp} {v : V} {d : α}, Same G G' → rep K G v d → rep K G' v d
open Rp (rep)

instance : Rp Int := ⟨fun _ _ v d => v = .int d, fun _ h => h⟩
instance : Rp Bool := ⟨fun _ _ v d => v = .bl d, fun _ h => h⟩
instance : Rp Unit := ⟨fun _ _ v _ => v = .non, fun _ h => h⟩
instance : Rp Str := ⟨fun _ _ v d => v = .str d, fun _ h => h⟩
/-- None, or a value that isn't None -/
def ROpt {α : Type} [Rp α] (K : PySem.W.Frag) (G : Hp) (v : V) : Option α → Prop
  | none => v = .non
  | some x => rep K G v x ∧ v ≠ .non
instance {α : Type} [Rp α] : Rp (Option α) := ⟨ROpt, fun {_ _ _ _ d} s h => by
  cases d with
  | none => exact h
  | some x => exact ⟨Rp.mono s h.1, h.2⟩⟩
instance {α β : Type} [Rp α] [Rp β] : Rp (α × β) := ⟨fun K G v d => ∃ a x y, v = .ref a ∧ SqT K G a [x, y] ∧ rep K G x d.1 ∧ rep K G y d.2,
  fun s ⟨a, x, y, e, h, h1, h2⟩ => ⟨a, x, y, e, same_tup s h, Rp.mono s h1, Rp.mono s h2⟩⟩
section
variable {α β γ δ ε : Type} [Rp α] [Rp β] [Rp γ] [Rp δ] [Rp ε]
instance : Rp (T3 α β γ) := ⟨fun K G v d => ∃ p x y z, v = .ref p ∧ SqT K G p [x, y, z] ∧ rep K G x d.a ∧ rep K G y d.b ∧ rep K G z d.c,
  fun s ⟨p, x, y, z, e, h, h1, h2, h3⟩ => ⟨p, x, y, z, e, same_tup s h, Rp.mono s h1, Rp.mono s h2, Rp.mono s h3⟩⟩
instance : Rp (T4 α β γ δ) := ⟨fun K G v d => ∃ p x y z u, v = .ref p ∧ SqT K G p [x, y, z, u] ∧ rep K G x d.a ∧ rep K G y d.b ∧ rep K G z d.c ∧ rep K G u d.d,
  fun s ⟨p, x, y, z, u, e, h, h1, h2, h3, h4⟩ => ⟨p, x, y, z, u, e, same_tup s h, Rp.mono s h1, Rp.mono s h2, Rp.mono s h3, Rp.mono s h4⟩⟩
instance : Rp (T5 α β γ δ ε) := ⟨fun K G v d => ∃ p x y z u w, v = .ref p ∧ SqT K G p [x, y, z, u, w] ∧ rep K G x d.a ∧ rep K G y d.b ∧ rep K G z d.c ∧ rep K G u d.d ∧ rep K G w d.e,
  fun s ⟨p, x, y, z, u, w, e, h, h1, h2, h3, h4, h5⟩ => ⟨p, x, y, z, u, w, e, same_tup s h, Rp.mono s h1, Rp.mono s h2, Rp.mono s h3, Rp.mono s h4, Rp.mono s h5⟩⟩
end
abbrev Reps {α : Type} [Rp α] (K : PySem.W.Frag) (G : Hp) (vs : List V) (ds : List α) : Prop := Paired (rep K G) vs ds
section
variable {α β : Type} [Rp α] [Rp β] {K : PySem.W.Frag} {G G' : Hp} {vs ws : List V} {ds es : List α} {v : V} {d : α}
theorem Reps.mono (s : Same G G') (h : Reps K G vs ds) : Reps K G' vs ds := Paired.mapP h fun _ _ r => Rp.mono s r
theorem Reps.len (h : Reps K G vs ds) : vs.length = ds.length := Paired.length h
theorem Reps.get : ∀ {vs : List V} {ds : List α} {i : Nat} {d : α}, Reps K G vs ds → ds[i]? = some d → ∃ v, vs[i]? = some v ∧ rep K G v d
  | _, _, _, _, .nil, e => by simp at e
  | _, _, 0, _, .cons r _, e => by simp at e; subst e; exact ⟨_, rfl, r⟩
  | _, _, i + 1, d, .cons _ t, e => by
    obtain ⟨u, h1, h2⟩ := Reps.get (i := i) (d := d) t (by simpa using e)
    exact ⟨u, by simpa using h1, h2⟩
theorem Reps.set : ∀ {vs : List V} {ds : List α} (i : Nat), Reps K G vs ds → rep K G v d → Reps K G (vs.set i v) (ds.set i d)
  | _, _, _, .nil, _ => .nil
  | _, _, 0, .cons _ t, r => .cons r t
  | _, _, i + 1, .cons q t, r => .cons q (Reps.set i t r)
theorem Reps.app : ∀ {vs ws : List V} {ds es : List α}, Reps K G vs ds → Reps K G ws es → Reps K G (vs ++ ws) (ds ++ es)
  | _, _, _, _, .nil, s => s
  | _, _, _, _, .cons r t, s => .cons r (Reps.app t s)
theorem Reps.take : ∀ {vs : List V} {ds : List α} (n : Nat), Reps K G vs ds → Reps K G (vs.take n) (ds.take n)
  | _, _, 0, _ => .nil
  | _, _, _ + 1, .nil => .nil
  | _, _, n + 1, .cons r t => .cons r (Reps.take n t)
theorem Reps.drop : ∀ {vs : List V} {ds : List α} (n : Nat), Reps K G vs ds → Reps K G (vs.drop n) (ds.drop n)
  | _, _, 0, r => r
  | _, _, _ + 1, .nil => .nil
  | _, _, n + 1, .cons _ t => Reps.drop n t
theorem Reps.cut {lo hi : Option Int} (h : Reps K G vs ds) : Reps K G (cutV vs lo hi) (cutL ds lo hi) := by
  have e : ∀ (n d : Nat) (o : Option Int), HT.sIx n d o = cutIx n d o := fun n d o => by
    cases o with
    | none => rfl
    | some v =>
      have q := HT.clip_eq v n d
      show _ = ((if v < 0 then max (v + (n : Int)) 0 else min v (n : Int))).toNat
      rw [q]
      rfl
  unfold cutV cutL
  rw [e, e, h.len]
  exact (h.drop _).take _
theorem Reps.ints {ns : List Int} : ∀ {vs : List V}, Reps K G vs ns → vs = ns.map V.int := by
  induction ns with
  | nil =>
    intro vs h
    cases h
    rfl
  | cons n ns ih =>
    intro vs h
    cases h with
    | cons r t => rw [ih t, show _ = V.int n from r]; rfl
theorem reps_ints : ∀ (ns : List Int), Reps K G (ns.map V.int) ns
  | [] => .nil
  | n :: ns => .cons rfl (reps_ints ns)
theorem Reps.bls {ns : List Bool} : ∀ {vs : List V}, Reps K G vs ns → vs = ns.map V.bl := by
  induction ns with
  | nil =>
    intro vs h
    cases h
    rfl
  | cons n ns ih =>
    intro vs h
    cases h with
    | cons r t => rw [ih t, show _ = V.bl n from r]; rfl
end
/-- a list that is not changed any more -/
instance {α : Type} [Rp α] : Rp (List α) := ⟨fun K G v ds => ∃ a vs, v = .ref a ∧ G a = some (.lst vs) ∧ vs.length ≤ sizeLine ∧ Reps K G vs ds,
  fun s ⟨a, vs, e, h, l, r⟩ => ⟨a, vs, e, s _ _ h, l, r.mono s⟩⟩
instance {α : Type} [Rp α] : Rp (KL α) := ⟨fun K G v ds => ∃ a vs, v = .ref a ∧ SqL K G a vs ∧ vs.length ≤ sizeLine ∧ Reps K G vs ds.l,
  fun s ⟨a, vs, e, h, l, r⟩ => ⟨a, vs, e, s.seq h, l, r.mono s⟩⟩
instance {α : Type} [Rp α] : Rp (TL α) := ⟨fun K G v ds => ∃ a vs, v = .ref a ∧ SqT K G a vs ∧ vs.length ≤ sizeLine ∧ Reps K G vs ds.l,
  fun s ⟨a, vs, e, h, l, r⟩ => ⟨a, vs, e, same_tup s h, l, r.mono s⟩⟩
/-- a list of one's own: it stands in the heap, not in the view -/
structure Own {α : Type} [Rp α] (K : PySem.W.Frag) (H0 G H : Hp) (p : Addr) (ds : List α) : Prop where
  z : H0 p = none
  g : G p = none
  h : ∃ vs, H p = some (.lst vs) ∧ vs.length ≤ sizeLine ∧ Reps K G vs ds
section
variable {α β γ : Type} [Rp α] [Rp β] [Rp γ] {K : PySem.W.Frag} {G0 H0 G H G1 H1 G2 H2 : Hp} {p q : Addr} {ds : List α} {d : α} {v : V}
theorem Own.ne (x : Own K H0 G H p ds) : H p ≠ none := by
  obtain ⟨vs, h, _⟩ := x.h
  rw [h]
  intro z
  cases z
theorem Own.mono (x : Own K H0 G H p ds) (e : Ext G H G1 H1) : Own K H0 G1 H1 p ds := by
  obtain ⟨vs, h, l, r⟩ := x.h
  exact ⟨x.z, (e.a p x.ne).trans x.g, vs, e.h.k _ _ h, l, r.mono e.g⟩
theorem Own.pn (x : Own K H0 G H p ds) : PnAt H p := by
  obtain ⟨vs, h, _⟩ := x.h
  exact ⟨_, h, pn_lst⟩
theorem Own.lst (x : Own K H0 G H p ds) : ∃ vs, H p = some (.lst vs) := by
  obtain ⟨vs, h, _⟩ := x.h
  exact ⟨_, h⟩
/-- seen from nearer -/
theorem Own.at (x : Own K H0 G H p ds) : ∃ vs, H p = some (.lst vs) ∧ vs.length ≤ sizeLine ∧ Reps K G vs ds := x.h
/-- a change elsewhere -/
theorem Own.off {o : HO} (x : Own K H0 G H p ds) (n : p ≠ q) : Own K H0 G (upd H q o) p ds := by
  obtain ⟨vs, h, l, r⟩ := x.h
  exact ⟨x.z, x.g, vs, by rw [upd_ne n]; exact h, l, r⟩
/-- another one is shown -/
theorem Own.off2 {o : HO} (x : Own K H0 G H p ds) (n : p ≠ q) (gq : G q = none) : Own K H0 (upd G q o) H p ds := by
  obtain ⟨vs, h, l, r⟩ := x.h
  exact ⟨x.z, by rw [upd_ne n]; exact x.g, vs, h, l, r.mono (same_new gq)⟩
theorem Own.ne2 (x : Own K H0 G H p ds) (n : H q = none) : p ≠ q := fun e => x.ne (e ▸ n)
/-- it is shown: not changed any more -/
theorem Own.show (x : Own K H0 G H p ds) (e : Ext G0 H0 G H) : ∃ vs, Ext G0 H0 (upd G p (.lst vs)) H ∧ Same G (upd G p (.lst vs)) ∧ rep K (upd G p (.lst vs)) (.ref p) ds := by
  obtain ⟨vs, h, l, r⟩ := x.h
  exact ⟨vs, e.show x.z x.g h, same_new x.g, p, vs, rfl, upd_same, l, r.mono (same_new x.g)⟩
end

/-! ### what a reading evaluates to -/
section
variable {α β γ : Type} [Rp α] [Rp β] [Rp γ]
def SE (K : PySem.W.Frag) (te : TE) (σ : St) (G H : Hp) (m : Option α) : Prop :=
  ∀ G1 H1, Ext G H G1 H1 → ∀ r, m = some r → ∀ Q : VK, (∀ v G2 H2, Ext G1 H1 G2 H2 → rep K G2 v r → Q v H2) → te σ H1 Q
/-- .. a new list of one's own -/
def FE (K : PySem.W.Frag) (te : TE) (σ : St) (G H : Hp) (m : Option (List α)) : Prop :=
  ∀ G1 H1, Ext G H G1 H1 → ∀ r, m = some r → ∀ Q : VK, (∀ p G2 H2, Ext G1 H1 G2 H2 → Own K H1 G2 H2 p r → Q (.ref p) H2) → te σ H1 Q
def ST (tt : TT) (σ : St) (G H : Hp) (m : Option Bool) : Prop :=
  ∀ G1 H1, Ext G H G1 H1 → ∀ r, m = some r → ∀ Q : Bool → Hp → Prop, (∀ G2 H2, Ext G1 H1 G2 H2 → Q r H2) → tt σ H1 Q
def RO (K : PySem.W.Frag) (r : R2) (f : α → β → Option γ) : Prop :=
  ∀ {G H : Hp} {v w : V} {x : α} {y : β} {z : γ}, Vw G H → rep K G v x → rep K G w y → f x y = some z → ∀ Q : VK, (∀ u G2 H2, Ext G H G2 H2 → rep K G2 u z → Q u H2) → r v w H Q
/-- a call on values: one, two -/
def RC1 (K : PySem.W.Frag) (r : List V → Hp → VK → Prop) (f : α → Option γ) : Prop :=
  ∀ {G H : Hp} {v : V} {x : α} {z : γ}, Vw G H → rep K G v x → f x = some z → ∀ Q : VK, (∀ u G2 H2, Ext G H G2 H2 → rep K G2 u z → Q u H2) → r [v] H Q
def RC2 (K : PySem.W.Frag) (r : List V → Hp → VK → Prop) (f : α → β → Option γ) : Prop :=
  ∀ {G H : Hp} {v w : V} {x : α} {y : β} {z : γ}, Vw G H → rep K G v x → rep K G w y → f x y = some z → ∀ Q : VK, (∀ u G2 H2, Ext G H G2 H2 → rep K G2 u z → Q u H2) → r [v, w] H Q
variable {K : PySem.W.Frag} {σ : St} {G H G1 H1 : Hp} {ta tb te : TE} {tc tt : TT} {ma : Option α} {mb : Option β} {r : R2} {f : α → β → Option γ} {i : Nat} {v : V} {d : α}
theorem SE.mono (h : SE K te σ G H ma) (e : Ext G H G1 H1) : SE K te σ G1 H1 ma := fun G2 H2 e2 => h G2 H2 (e.trans e2)
theorem SE.is {m' : Option α} (h : SE K te σ G H ma) (e : ma = m') : SE K te σ G H m' := e ▸ h
theorem ST.is {m m' : Option Bool} (h : ST tt σ G H m) (e : m = m') : ST tt σ G H m' := e ▸ h
theorem FE.se {m : Option (List α)} (h : FE K te σ G H m) : SE K te σ G H m := fun G1 H1 e r hm Q q =>
  h G1 H1 e r hm Q fun p G2 H2 e2 o => by
    obtain ⟨vs, hp, l, rs⟩ := o.h
    exact q (.ref p) _ H2 (e2.show o.z o.g hp) ⟨p, vs, rfl, upd_same, l, rs.mono (same_new o.g)⟩
theorem se_var (h : σ[i]? = some (some v)) (hr : rep K G v d) : SE K (tVar i) σ G H (some d) := fun G1 H1 e r hm Q q => by
  cases hm
  exact ⟨v, h, q v G1 H1 (Ext.refl e.s) (Rp.mono e.g hr)⟩
/-- a name that holds a value, or None, where it isn't None -/
theorem se_opt {o : Option α} (h : σ[i]? = some (some v)) (hr : rep K G v o) : SE K (tVar i) σ G H o := fun G1 H1 e r hm Q q => by
  subst hm
  exact ⟨v, h, q v G1 H1 (Ext.refl e.s) (Rp.mono e.g hr.1)⟩
theorem se_c (h : ∀ G, rep K G v d) : SE K (tC v) σ G H (some d) := fun G1 H1 e r hm Q q => by
  cases hm
  exact q v G1 H1 (Ext.refl e.s) (h G1)
theorem se_int {n : Int} : SE K (tC (.int n)) σ G H (some n) := se_c fun _ => rfl
theorem se_bl {b : Bool} : SE K (tC (.bl b)) σ G H (some b) := se_c fun _ => rfl
theorem se_str {b : Str} : SE K (tC (.str b)) σ G H (some b) := se_c fun _ => rfl
theorem se_unit : SE K (tC .non) σ G H (some ()) := se_c (d := ()) fun _ => rfl
theorem se_none : SE K (tC .non) σ G H (some (none : Option α)) := se_c fun _ => rfl
theorem se_op (ha : SE K ta σ G H ma) (hb : SE K tb σ G H mb) (hr : RO K r f) : SE K (tOp r ta tb) σ G H (ma.bind fun x => mb.bind fun y => f x y) := fun G1 H1 e z hm Q q => by
  obtain ⟨x, hx, hm⟩ := bind_some hm
  obtain ⟨y, hy, hz⟩ := bind_some hm
  refine ha G1 H1 e x hx _ fun v G2 H2 e2 hv => ?_
  refine hb G2 H2 (e.trans e2) y hy _ fun w G3 H3 e3 hw => ?_
  exact hr e3.s (Rp.mono e3.g hv) hw hz Q fun u G4 H4 e4 hu => q u G4 H4 ((e2.trans e3).trans e4) hu
theorem se_opp {x : α} {y : β} (ha : SE K ta σ G H (some x)) (hb : SE K tb σ G H (some y)) (hr : RO K r f) : SE K (tOp r ta tb) σ G H (f x y) := se_op ha hb hr
/-- not None, as a value -/
class RpN (α : Type) [Rp α] : Prop where
  nn : ∀ {K : PySem.W.Frag} {G : Hp} {v : V} {d : α}, rep K G v d → v ≠ .non
instance : RpN Int := ⟨fun h => by rw [show _ = V.int _ from h]; intro z; cases z⟩
instance : RpN Bool := ⟨fun h => by rw [show _ = V.bl _ from h]; intro z; cases z⟩
instance : RpN Str := ⟨fun h => by rw [show _ = V.str _ from h]; intro z; cases z⟩
instance {α β : Type} [Rp α] [Rp β] : RpN (α × β) := ⟨fun ⟨_, _, _, h, _⟩ => by rw [h]; intro z; cases z⟩
instance {α β γ : Type} [Rp α] [Rp β] [Rp γ] : RpN (T3 α β γ) := ⟨fun ⟨_, _, _, _, h, _⟩ => by rw [h]; intro z; cases z⟩
instance {α β γ δ : Type} [Rp α] [Rp β] [Rp γ] [Rp δ] : RpN (T4 α β γ δ) := ⟨fun ⟨_, _, _, _, _, h, _⟩ => by rw [h]; intro z; cases z⟩
instance {α β γ δ ε : Type} [Rp α] [Rp β] [Rp γ] [Rp δ] [Rp ε] : RpN (T5 α β γ δ ε) := ⟨fun ⟨_, _, _, _, _, _, h, _⟩ => by rw [h]; intro z; cases z⟩
instance {α : Type} [Rp α] : RpN (List α) := ⟨fun ⟨_, _, h, _⟩ => by rw [h]; intro z; cases z⟩
theorem se_some [RpN α] (h : SE K te σ G H ma) : SE K te σ G H (ma.bind fun x => some (some x)) := fun G1 H1 e z hm Q q => by
  obtain ⟨x, hx, hm⟩ := bind_some hm
  cases hm
  exact h G1 H1 e x hx Q fun v G2 H2 e2 hv => q v G2 H2 e2 ⟨hv, RpN.nn hv⟩
theorem se_somep [RpN α] {x : α} (h : SE K te σ G H (some x)) : SE K te σ G H (some (some x)) := se_some h

/-! ### operators -/
theorem ro_i0 {g : Int → Int → V} {h : Int → Int → γ} (e : ∀ K G i j, rep K G (g i j) (h i j)) : RO K (rI0 g) (fun (i j : Int) => some (h i j)) := fun {G H v w x y z} s hv hw hz Q q => by
  cases (show some _ = some z from hz)
  exact ⟨x, y, hv, hw, q _ G H (Ext.refl s) (e K G x y)⟩
theorem ro_add : RO K (rI0 fun i j => .int (i + j)) (fun (i j : Int) => some (i + j)) := ro_i0 fun _ _ _ _ => rfl
theorem ro_sub : RO K (rI0 fun i j => .int (i - j)) (fun (i j : Int) => some (i - j)) := ro_i0 fun _ _ _ _ => rfl
theorem ro_lt : RO K (rI0 fun i j => .bl (decide (i < j))) (fun (i j : Int) => some (decide (i < j))) := ro_i0 (g := fun i j => .bl (decide (i < j))) (h := fun i j => decide (i < j)) fun _ _ _ _ => rfl
theorem ro_le : RO K (rI0 fun i j => .bl (decide (i ≤ j))) (fun (i j : Int) => some (decide (i ≤ j))) := ro_i0 (g := fun i j => .bl (decide (i ≤ j))) (h := fun i j => decide (i ≤ j)) fun _ _ _ _ => rfl
theorem ro_gt : RO K (rI0 fun i j => .bl (decide (j < i))) (fun (i j : Int) => some (decide (j < i))) := ro_i0 (g := fun i j => .bl (decide (j < i))) (h := fun i j => decide (j < i)) fun _ _ _ _ => rfl
theorem ro_ge : RO K (rI0 fun i j => .bl (decide (j ≤ i))) (fun (i j : Int) => some (decide (j ≤ i))) := ro_i0 (g := fun i j => .bl (decide (j ≤ i))) (h := fun i j => decide (j ≤ i)) fun _ _ _ _ => rfl
theorem ro_and : RO K (rI0 fun i j => .int (Builtin.bitAnd i j)) (fun (i j : Int) => some (Builtin.bitAnd i j)) := ro_i0 fun _ _ _ _ => rfl
theorem ro_xor : RO K (rI0 fun i j => .int (Builtin.bitXor i j)) (fun (i j : Int) => some (Builtin.bitXor i j)) := ro_i0 fun _ _ _ _ => rfl
theorem ro_i {C : Int → Int → Prop} {g : Int → Int → Int} {f : Int → Int → Option Int} (h : ∀ i j z, f i j = some z → C i j ∧ z = g i j) : RO K (rI C fun i j => .int (g i j)) f := fun {G H v w x y z} s hv hw hz Q q => by
  obtain ⟨c, e⟩ := h x y z hz
  subst e
  exact ⟨x, y, hv, hw, c, q _ G H (Ext.refl s) rfl⟩
def CMulZ (i j : Int) : Prop := i.natAbs.log2 + j.natAbs.log2 < 134000000
theorem CMulZ.ok {i j : Int} (h : CMulZ i j) : IntMulOk i j := by
  have b : ∀ x : Int, Builtin.Int.intBits x ≤ x.natAbs.log2 + 1 := fun x => by
    unfold Builtin.Int.intBits
    split <;> omega
  have h1 := b i
  have h2 := b j
  have h3 : i.natAbs.log2 + j.natAbs.log2 < 134000000 := h
  have e : bitsLine = 134217728 := by decide
  unfold IntMulOk
  intro z
  rw [Bool.and_eq_true] at z
  have z2 := z.2
  unfold Builtin.Int.intTooBig at z2
  have z3 := of_decide_eq_true z2
  rw [e] at z3
  omega
theorem op_mulZ {X : Cx} : OpR X (binaryOp .Mult) (rI CMulZ fun i j => .int (i * j)) := opI fun _ _ _ _ _ _ _ hc q => PyProof.Rows.mul_int q hc.ok
def CDivZ (i j : Int) : Prop := j ≠ 0 ∧ (j.natAbs.log2 < 9000 ∨ i.natAbs.log2 ≤ j.natAbs.log2 + 3000)
theorem CDivZ.ok {i j : Int} (h : CDivZ i j) : Builtin.divisionGoesByPylong i j = false := by
  obtain ⟨h0, h | h⟩ := h
  · exact PyProof.noPylong_of_log2 h
  · show (decide ((if j == 0 then 0 else j.natAbs.log2 / 30 + 1) > 300) && decide ((if i == 0 then 0 else i.natAbs.log2 / 30 + 1) > (if j == 0 then 0 else j.natAbs.log2 / 30 + 1) + 150)) = false
    rw [if_neg (show ¬ (j == 0) = true by simpa using h0), Bool.and_eq_false_iff]
    right
    rw [decide_eq_false_iff_not]
    split <;> omega
theorem op_divZ {X : Cx} : OpR X (binaryOp .FloorDiv) (rI CDivZ fun i j => .int (i.fdiv j)) := opI fun i j _ _ _ _ _ hc q => PyProof.Rows.floordiv_int hc.1 q (.inl hc.ok)
theorem iop_divZ {X : Cx} : OpR X (inplaceOp .FloorDiv) (rI CDivZ fun i j => .int (i.fdiv j)) := opI fun i j _ _ _ _ _ hc q => PyProof.Rows.ifloordiv_int hc.1 q (.inl hc.ok)
theorem ro_mul : RO K (rI CMulZ fun i j => .int (i * j)) mulO := ro_i fun i j z h => by
  unfold mulO at h
  split at h
  · rename_i c
    exact ⟨c, (Option.some.inj h).symm⟩
  · cases h
theorem ro_div : RO K (rI CDivZ fun i j => .int (i.fdiv j)) divO := ro_i fun i j z h => by
  unfold divO at h
  split at h
  · rename_i c
    exact ⟨c, (Option.some.inj h).symm⟩
  · cases h
theorem ro_mod : RO K (rI (fun _ j => j ≠ 0) fun i j => .int (i.fmod j)) modO := ro_i fun i j z h => by
  unfold modO at h
  split at h
  · rename_i c
    exact ⟨c, (Option.some.inj h).symm⟩
  · cases h
theorem ro_pow : RO K (rI CPow fun i j => .int (i ^ j.toNat)) powO := ro_i fun i j z h => by
  unfold powO at h
  split at h
  · rename_i c
    exact ⟨c, (Option.some.inj h).symm⟩
  · cases h
theorem ro_shl : RO K (rI CPow fun i j => .int (i * 2 ^ j.toNat)) shlO := ro_i fun i j z h => by
  unfold shlO at h
  split at h
  · rename_i c
    exact ⟨c, (Option.some.inj h).symm⟩
  · cases h
theorem ro_shr : RO K (rI (fun _ j => 0 ≤ j) fun i j => .int (i / 2 ^ j.toNat)) shrO := ro_i fun i j z h => by
  unfold shrO at h
  split at h
  · rename_i c
    exact ⟨c, (Option.some.inj h).symm⟩
  · cases h
/-- by a written number above 0 -/
theorem se_divc {m : Option Int} {j : Int} (ha : SE K ta σ G H m) (h : 0 < j ∧ j.natAbs.log2 < 9000) : SE K (tOp (rI CDivW fun i j => .int (i / j)) ta (tC (.int j))) σ G H (m.bind fun x => some (x / j)) := fun G1 H1 e z hm Q q => by
  obtain ⟨x, hx, hm⟩ := bind_some hm
  cases hm
  refine ha G1 H1 e x hx _ fun v G2 H2 e2 hv => ?_
  exact ⟨x, j, hv, rfl, h, q _ G2 H2 e2 rfl⟩
theorem se_divcp {x : Int} {j : Int} (ha : SE K ta σ G H (some x)) (h : 0 < j ∧ j.natAbs.log2 < 9000) : SE K (tOp (rI CDivW fun i j => .int (i / j)) ta (tC (.int j))) σ G H (some (x / j)) := se_divc ha h
theorem se_modc {m : Option Int} {j : Int} (ha : SE K ta σ G H m) (h : 0 < j) : SE K (tOp (rI (fun _ j => 0 < j) fun i j => .int (i % j)) ta (tC (.int j))) σ G H (m.bind fun x => some (x % j)) := fun G1 H1 e z hm Q q => by
  obtain ⟨x, hx, hm⟩ := bind_some hm
  cases hm
  refine ha G1 H1 e x hx _ fun v G2 H2 e2 hv => ?_
  exact ⟨x, j, hv, rfl, h, q _ G2 H2 e2 rfl⟩
theorem se_modcp {x : Int} {j : Int} (ha : SE K ta σ G H (some x)) (h : 0 < j) : SE K (tOp (rI (fun _ j => 0 < j) fun i j => .int (i % j)) ta (tC (.int j))) σ G H (some (x % j)) := se_modc ha h
/-- two written numbers -/
theorem se_cc {C : Int → Int → Prop} {g : Int → Int → Int} {i j n : Int} (h : C i j) (e : g i j = n) : SE K (tOp (rI C fun i j => .int (g i j)) (tC (.int i)) (tC (.int j))) σ G H (some n) := fun G1 H1 e1 z hm Q q => by
  cases hm
  exact ⟨i, j, rfl, rfl, h, q _ G1 H1 (Ext.refl e1.s) (show V.int (g i j) = .int n by rw [e])⟩
theorem se_neg {m : Option Int} (ha : SE K ta σ G H m) : SE K (tUn (rU fun i => .int (-i)) ta) σ G H (m.bind fun x => some (-x)) := fun G1 H1 e z hm Q q => by
  obtain ⟨x, hx, hm⟩ := bind_some hm
  cases hm
  exact ha G1 H1 e x hx _ fun v G2 H2 e2 hv => ⟨x, hv, q _ G2 H2 e2 rfl⟩
theorem se_negp {x : Int} (ha : SE K ta σ G H (some x)) : SE K (tUn (rU fun i => .int (-i)) ta) σ G H (some (-x)) := se_neg ha
end
end Mi

/-! MiX: tests, calls, tuples, lists, statements, loops. -/
namespace Mi
variable [Tbs]
open PySem L2
open Rp (rep)

section
variable {α β γ δ : Type} [Rp α] [Rp β] [Rp γ] [Rp δ]
variable {K : PySem.W.Frag} {σ : St} {G H G1 H1 : Hp} {ta tb te : TE} {t u tc tt : TT} {ma : Option α} {mb : Option β} {r : R2} {f : α → β → Option γ} {i : Nat} {v : V} {d : α}
/-! ### tests -/
theorem st_test {m : Option Bool} (h : SE K te σ G H m) : ST (tTest te) σ G H m := fun G1 H1 e b hm Q q =>
  h G1 H1 e b hm _ fun v G2 H2 e2 hv => ⟨b, hv, q G2 H2 e2⟩
theorem st_val {m : Option Bool} (h : SE K te σ G H m) : ST (tB te) σ G H m := fun G1 H1 e b hm Q q =>
  h G1 H1 e b hm _ fun v G2 H2 e2 hv => ⟨b, hv, q G2 H2 e2⟩
theorem st_and {m n : Option Bool} (h1 : ST t σ G H m) (h2 : ST u σ G H n) : ST (tAnd t u) σ G H (m.bind fun b => cond b n (some false)) := fun G1 H1 e b hm Q q => by
  obtain ⟨c, hc, hm⟩ := bind_some hm
  refine h1 G1 H1 e c hc _ fun G2 H2 e2 => ?_
  cases c with
  | true =>
    show u σ H2 Q
    exact h2 G2 H2 (e.trans e2) b hm Q fun G3 H3 e3 => q G3 H3 (e2.trans e3)
  | false =>
    cases hm
    exact q G2 H2 e2
theorem st_or {m n : Option Bool} (h1 : ST t σ G H m) (h2 : ST u σ G H n) : ST (tOr t u) σ G H (m.bind fun b => cond b (some true) n) := fun G1 H1 e b hm Q q => by
  obtain ⟨c, hc, hm⟩ := bind_some hm
  refine h1 G1 H1 e c hc _ fun G2 H2 e2 => ?_
  cases c with
  | false =>
    show u σ H2 Q
    exact h2 G2 H2 (e.trans e2) b hm Q fun G3 H3 e3 => q G3 H3 (e2.trans e3)
  | true =>
    cases hm
    exact q G2 H2 e2
theorem st_andp {a b : Bool} (h1 : ST t σ G H (some a)) (h2 : ST u σ G H (some b)) : ST (tAnd t u) σ G H (some (a && b)) := (st_and h1 h2).is (by cases a <;> rfl)
theorem st_orp {a b : Bool} (h1 : ST t σ G H (some a)) (h2 : ST u σ G H (some b)) : ST (tOr t u) σ G H (some (a || b)) := (st_or h1 h2).is (by cases a <;> rfl)
theorem st_not {m : Option Bool} (h1 : ST t σ G H m) : ST (tNot t) σ G H (m.bind fun b => some (!b)) := fun G1 H1 e b hm Q q => by
  obtain ⟨c, hc, hm⟩ := bind_some hm
  cases hm
  exact h1 G1 H1 e c hc _ fun G2 H2 e2 => q G2 H2 e2
theorem st_notp {a : Bool} (h1 : ST t σ G H (some a)) : ST (tNot t) σ G H (some (!a)) := st_not h1
theorem se_and {m n : Option Bool} (h1 : SE K ta σ G H m) (h2 : SE K tb σ G H n) : SE K (tAndV ta tb) σ G H (m.bind fun b => cond b n (some false)) := fun G1 H1 e b hm Q q => by
  obtain ⟨c, hc, hm⟩ := bind_some hm
  refine h1 G1 H1 e c hc _ fun v G2 H2 e2 hv => ⟨c, hv, ?_⟩
  cases c with
  | true =>
    show tb σ H2 Q
    exact h2 G2 H2 (e.trans e2) b hm Q fun v G3 H3 e3 => q v G3 H3 (e2.trans e3)
  | false =>
    cases hm
    exact q _ G2 H2 e2 rfl
theorem se_or {m n : Option Bool} (h1 : SE K ta σ G H m) (h2 : SE K tb σ G H n) : SE K (tOrV ta tb) σ G H (m.bind fun b => cond b (some true) n) := fun G1 H1 e b hm Q q => by
  obtain ⟨c, hc, hm⟩ := bind_some hm
  refine h1 G1 H1 e c hc _ fun v G2 H2 e2 hv => ⟨c, hv, ?_⟩
  cases c with
  | false =>
    show tb σ H2 Q
    exact h2 G2 H2 (e.trans e2) b hm Q fun v G3 H3 e3 => q v G3 H3 (e2.trans e3)
  | true =>
    cases hm
    exact q _ G2 H2 e2 rfl
theorem se_andp {a b : Bool} (h1 : SE K ta σ G H (some a)) (h2 : SE K tb σ G H (some b)) : SE K (tAndV ta tb) σ G H (some (a && b)) := (se_and h1 h2).is (by cases a <;> rfl)
theorem se_orp {a b : Bool} (h1 : SE K ta σ G H (some a)) (h2 : SE K tb σ G H (some b)) : SE K (tOrV ta tb) σ G H (some (a || b)) := (se_or h1 h2).is (by cases a <;> rfl)
theorem se_not {m : Option Bool} (h1 : SE K ta σ G H m) : SE K (tNotV ta) σ G H (m.bind fun b => some (!b)) := fun G1 H1 e b hm Q q => by
  obtain ⟨c, hc, hm⟩ := bind_some hm
  cases hm
  exact h1 G1 H1 e c hc _ fun v G2 H2 e2 hv => ⟨c, hv, q _ G2 H2 e2 rfl⟩
theorem se_notp {a : Bool} (h1 : SE K ta σ G H (some a)) : SE K (tNotV ta) σ G H (some (!a)) := se_not h1
theorem se_if {m : Option Bool} {mx my : Option α} (h : ST t σ G H m) (h1 : SE K ta σ G H mx) (h2 : SE K tb σ G H my) : SE K (tIf t ta tb) σ G H (m.bind fun b => cond b mx my) := fun G1 H1 e z hm Q q => by
  obtain ⟨c, hc, hm⟩ := bind_some hm
  refine h G1 H1 e c hc _ fun G2 H2 e2 => ?_
  cases c with
  | true =>
    show ta σ H2 Q
    exact h1 G2 H2 (e.trans e2) z hm Q fun v G3 H3 e3 => q v G3 H3 (e2.trans e3)
  | false =>
    show tb σ H2 Q
    exact h2 G2 H2 (e.trans e2) z hm Q fun v G3 H3 e3 => q v G3 H3 (e2.trans e3)
theorem st_wif {m mx my : Option Bool} {t1 t2 : TT} (h : ST t σ G H m) (h1 : ST t1 σ G H mx) (h2 : ST t2 σ G H my) : True := trivial
/-- a op b op c -/
theorem se_chain {r r' : R2} {ta tb tc : TE} {ma : Option α} {mb : Option β} {mc : Option γ} {f : α → β → Option Bool} {g : β → γ → Option Bool} (ha : SE K ta σ G H ma) (hb : SE K tb σ G H mb) (hc : SE K tc σ G H mc) (hr : RO K r f) (hr' : RO K r' g) :
    SE K (tChain r r' ta tb tc) σ G H (ma.bind fun x => mb.bind fun y => (f x y).bind fun k => cond k (mc.bind fun z => g y z) (some false)) := fun G1 H1 e z hm Q q => by
  obtain ⟨x, hx, hm⟩ := bind_some hm
  obtain ⟨y, hy, hm⟩ := bind_some hm
  obtain ⟨k, hk, hm⟩ := bind_some hm
  refine ha G1 H1 e x hx _ fun v G2 H2 e2 hv => ?_
  refine hb G2 H2 (e.trans e2) y hy _ fun w G3 H3 e3 hw => ?_
  refine hr e3.s (Rp.mono e3.g hv) hw hk _ fun u G4 H4 e4 hu => ⟨k, hu, ?_⟩
  cases k with
  | false =>
    cases hm
    exact q _ G4 H4 ((e2.trans e3).trans e4) rfl
  | true =>
    obtain ⟨c, hc2, hm⟩ := bind_some hm
    show tc σ H4 _
    refine hc G4 H4 (((e.trans e2).trans e3).trans e4) c hc2 _ fun w' G5 H5 e5 hw' => ?_
    exact hr' e5.s (Rp.mono (e4.trans e5).g hw) hw' hm Q fun u G6 H6 e6 hu => q u G6 H6 ((((e2.trans e3).trans e4).trans e5).trans e6) hu
theorem se_chainp {r r' : R2} {ta tb tc : TE} {x : α} {y : β} {z : γ} {f : α → β → Bool} {g : β → γ → Bool} (ha : SE K ta σ G H (some x)) (hb : SE K tb σ G H (some y)) (hc : SE K tc σ G H (some z)) (hr : RO K r fun x y => some (f x y)) (hr' : RO K r' fun x y => some (g x y)) :
    SE K (tChain r r' ta tb tc) σ G H (some (f x y && g y z)) := (se_chain ha hb hc hr hr').is (by
  show cond (f x y) (some (g y z)) (some false) = _
  cases f x y <;> rfl)

/-! ### comparisons -/
class Sc (α : Type) [Rp α] [DecidableEq α] : Prop where
  sc : ∀ {K : PySem.W.Frag} {G : Hp} {v w : V} {x y : α}, rep K G v x → rep K G w y → scal v w = true ∧ decide (v = w) = decide (x = y)
instance : Sc Int := ⟨fun {_ _ _ _ x y} h h' => by
  rw [show _ = V.int _ from h, show _ = V.int _ from h']
  refine ⟨rfl, ?_⟩
  rw [dec_int]
  rfl⟩
instance : Sc Bool := ⟨fun {_ _ _ _ x y} h h' => by
  rw [show _ = V.bl _ from h, show _ = V.bl _ from h']
  refine ⟨rfl, ?_⟩
  rw [dec_bl]
  rfl⟩
instance : Sc Str := ⟨fun {_ _ _ _ x y} h h' => by
  rw [show _ = V.str _ from h, show _ = V.str _ from h']
  refine ⟨rfl, ?_⟩
  rw [dec_str]
  rfl⟩
instance : Sc (Option Int) := ⟨fun {_ _ v w x y} h h' => by
  cases x with
  | none =>
    rw [show v = .non from h]
    cases y with
    | none =>
      rw [show w = .non from h']
      exact ⟨rfl, rfl⟩
    | some y =>
      rw [show w = .int y from h'.1]
      exact ⟨rfl, rfl⟩
  | some x =>
    rw [show v = .int x from h.1]
    cases y with
    | none =>
      rw [show w = .non from h']
      exact ⟨rfl, rfl⟩
    | some y =>
      rw [show w = .int y from h'.1]
      refine ⟨rfl, ?_⟩
      rw [dec_int, Bool.eq_iff_iff]
      simp⟩
theorem ro_eq [DecidableEq α] [Sc α] : RO K rEq (fun (x y : α) => some (decide (x = y))) := fun {G H v w x y z} s hv hw hz Q q => by
  cases (show some _ = some z from hz)
  obtain ⟨h1, h2⟩ := Sc.sc hv hw
  exact ⟨h1, by rw [h2]; exact q _ G H (Ext.refl s) rfl⟩
theorem ro_ne [DecidableEq α] [Sc α] : RO K rNe (fun (x y : α) => some (!decide (x = y))) := fun {G H v w x y z} s hv hw hz Q q => by
  cases (show some _ = some z from hz)
  obtain ⟨h1, h2⟩ := Sc.sc hv hw
  exact ⟨h1, by rw [h2]; exact q _ G H (Ext.refl s) rfl⟩
/-- == of data -/
class RpD (α : Type) [Rp α] [DecidableEq α] where
  py : α → PyData
  dp : ∀ {K : PySem.W.Frag} {G H : Hp} {v : V} {x : α}, Vw G H → rep K G v x → Dp K H v (py x)
  eqv : ∀ x y : α, PyData.eqv (py x) (py y) = decide (x = y)
  lay : ∀ x : α, (py x).canLay0 = true
  dep : Nat
  depth : ∀ x : α, (py x).depth ≤ dep


/-! ### == of data: what data there is -/
instance : RpD Int := ⟨.int, fun _ h => by rw [show _ = V.int _ from h]; exact .int _, fun x y => by
  show (x == y) = _
  rw [Bool.eq_iff_iff]
  simp, fun _ => rfl, 0, fun _ => Nat.le_refl 0⟩
instance : RpD Bool := ⟨.bool, fun _ h => by rw [show _ = V.bl _ from h]; exact .bl _, fun x y => by
  show (x == y) = _
  rw [Bool.eq_iff_iff]
  simp, fun _ => rfl, 0, fun _ => Nat.le_refl 0⟩
instance : RpD Unit := ⟨fun _ => .none, fun _ h => by rw [show _ = V.non from h]; exact .non, fun x y => by
  show true = _
  simp, fun _ => rfl, 0, fun _ => Nat.le_refl 0⟩
end
/-- data that is not None -/
class RpDN (α : Type) [Rp α] [DecidableEq α] [RpD α] : Prop where
  l : ∀ x : α, PyData.eqv .none (RpD.py x) = false
  r : ∀ x : α, PyData.eqv (RpD.py x) .none = false
instance : RpDN Int := ⟨fun _ => rfl, fun _ => rfl⟩
instance : RpDN Bool := ⟨fun _ => rfl, fun _ => rfl⟩
instance {α : Type} [Rp α] [DecidableEq α] [RpD α] [RpDN α] : RpD (Option α) := ⟨fun o => match o with
  | none => .none
  | some x => RpD.py x, fun {_ _ _ _ x} s h => by
    cases x with
    | none =>
      rw [show _ = V.non from h]
      exact .non
    | some x => exact RpD.dp s h.1, fun x y => by
    cases x with
    | none =>
      cases y with
      | none => rfl
      | some y =>
        show PyData.eqv .none (RpD.py y) = _
        rw [RpDN.l]
        rfl
    | some x =>
      cases y with
      | none =>
        show PyData.eqv (RpD.py x) .none = _
        rw [RpDN.r]
        rfl
      | some y =>
        show PyData.eqv (RpD.py x) (RpD.py y) = _
        rw [RpD.eqv, Bool.eq_iff_iff]
        simp, fun x => by
    cases x with
    | none => rfl
    | some x => exact RpD.lay x, RpD.dep α, fun x => by
    cases x with
    | none => exact Nat.zero_le _
    | some x => exact RpD.depth x⟩
theorem dall {α : Type} [Rp α] [DecidableEq α] [RpD α] {K : PySem.W.Frag} {G H : Hp} (s : Vw G H) : ∀ {vs : List V} {ds : List α}, Reps K G vs ds → DpAll K H vs (ds.map RpD.py)
  | _, _, .nil => .nil
  | _, _, .cons r t => .cons (RpD.dp s r) (dall s t)
theorem eqvAll_map {α : Type} [Rp α] [DecidableEq α] [RpD α] : ∀ xs ys : List α, PyData.eqvAll (xs.map RpD.py) (ys.map RpD.py) = decide (xs = ys)
  | [], [] => rfl
  | [], _ :: _ => rfl
  | _ :: _, [] => rfl
  | x :: xs, y :: ys => by
    show (PyData.eqv (RpD.py x) (RpD.py y) && PyData.eqvAll (xs.map RpD.py) (ys.map RpD.py)) = _
    rw [eqvAll_map xs ys, RpD.eqv, Bool.eq_iff_iff]
    simp
theorem layAll_map {α : Type} [Rp α] [DecidableEq α] [RpD α] : ∀ xs : List α, PyData.canLayAll0 (xs.map RpD.py) = true
  | [] => rfl
  | x :: xs => by
    show (PyData.canLay0 (RpD.py x) && PyData.canLayAll0 (xs.map RpD.py)) = true
    rw [layAll_map xs, RpD.lay]
    rfl
theorem depAll_map {α : Type} [Rp α] [DecidableEq α] [RpD α] : ∀ xs : List α, PyData.depthAll (xs.map RpD.py) ≤ RpD.dep α
  | [] => Nat.zero_le _
  | x :: xs => by
    show max (PyData.depth (RpD.py x)) (PyData.depthAll (xs.map RpD.py)) ≤ _
    exact Nat.max_le.mpr ⟨RpD.depth x, depAll_map xs⟩
instance {α : Type} [Rp α] [DecidableEq α] [RpD α] : RpD (List α) := ⟨fun xs => .list (xs.map RpD.py), fun s ⟨a, vs, e, h, _, r⟩ => by
  rw [e]
  exact .lst (SqL.of (s _ _ h)) (dall s r), fun x y => eqvAll_map x y, fun x => layAll_map x, RpD.dep α + 1, fun x => Nat.succ_le_succ (depAll_map x)⟩
instance {α : Type} [Rp α] [DecidableEq α] [RpD α] : RpDN (List α) := ⟨fun _ => rfl, fun _ => rfl⟩
theorem eqv2 {a b c d : PyData} : PyData.eqv (.tuple [a, b]) (.tuple [c, d]) = (PyData.eqv a c && PyData.eqv b d) := by
  show (PyData.eqv a c && (PyData.eqv b d && true)) = _
  rw [Bool.and_true]
instance {α β : Type} [Rp α] [DecidableEq α] [RpD α] [Rp β] [DecidableEq β] [RpD β] : RpD (α × β) := ⟨fun p => .tuple [RpD.py p.1, RpD.py p.2], fun s ⟨a, x, y, e, h, h1, h2⟩ => by
  rw [e]
  exact .tup (same_tup s h) (.cons (RpD.dp s h1) (.cons (RpD.dp s h2) .nil)), fun x y => by
  rw [eqv2, RpD.eqv, RpD.eqv, Bool.eq_iff_iff]
  simp [Prod.ext_iff], fun x => by
  show (PyData.canLay0 (RpD.py x.1) && (PyData.canLay0 (RpD.py x.2) && true)) = true
  rw [RpD.lay, RpD.lay]
  rfl, max (RpD.dep α) (RpD.dep β) + 1, fun x => by
  show max (PyData.depth (RpD.py x.1)) (max (PyData.depth (RpD.py x.2)) 0) + 1 ≤ _
  have h1 := RpD.depth x.1
  have h2 := RpD.depth x.2
  omega⟩
instance {α β : Type} [Rp α] [DecidableEq α] [RpD α] [Rp β] [DecidableEq β] [RpD β] : RpDN (α × β) := ⟨fun _ => rfl, fun _ => rfl⟩
instance {α β γ : Type} [Rp α] [DecidableEq α] [RpD α] [Rp β] [DecidableEq β] [RpD β] [Rp γ] [DecidableEq γ] [RpD γ] : RpD (T3 α β γ) := ⟨fun p => .tuple [RpD.py p.a, RpD.py p.b, RpD.py p.c], fun s ⟨a, x, y, z, e, h, h1, h2, h3⟩ => by
  rw [e]
  exact .tup (same_tup s h) (.cons (RpD.dp s h1) (.cons (RpD.dp s h2) (.cons (RpD.dp s h3) .nil))), fun x y => by
  show (PyData.eqv _ _ && (PyData.eqv _ _ && (PyData.eqv _ _ && true))) = _
  rw [RpD.eqv, RpD.eqv, RpD.eqv, Bool.eq_iff_iff]
  cases x
  cases y
  simp, fun x => by
  show (PyData.canLay0 (RpD.py x.a) && (PyData.canLay0 (RpD.py x.b) && (PyData.canLay0 (RpD.py x.c) && true))) = true
  rw [RpD.lay, RpD.lay, RpD.lay]
  rfl, max (RpD.dep α) (max (RpD.dep β) (RpD.dep γ)) + 1, fun x => by
  show max (PyData.depth (RpD.py x.a)) (max (PyData.depth (RpD.py x.b)) (max (PyData.depth (RpD.py x.c)) 0)) + 1 ≤ _
  have h1 := RpD.depth x.a
  have h2 := RpD.depth x.b
  have h3 := RpD.depth x.c
  omega⟩
instance {α β γ : Type} [Rp α] [DecidableEq α] [RpD α] [Rp β] [DecidableEq β] [RpD β] [Rp γ] [DecidableEq γ] [RpD γ] : RpDN (T3 α β γ) := ⟨fun _ => rfl, fun _ => rfl⟩
instance {α β γ δ : Type} [Rp α] [DecidableEq α] [RpD α] [Rp β] [DecidableEq β] [RpD β] [Rp γ] [DecidableEq γ] [RpD γ] [Rp δ] [DecidableEq δ] [RpD δ] : RpD (T4 α β γ δ) := ⟨fun p => .tuple [RpD.py p.a, RpD.py p.b, RpD.py p.c, RpD.py p.d], fun s ⟨a, x, y, z, u, e, h, h1, h2, h3, h4⟩ => by
  rw [e]
  exact .tup (same_tup s h) (.cons (RpD.dp s h1) (.cons (RpD.dp s h2) (.cons (RpD.dp s h3) (.cons (RpD.dp s h4) .nil)))), fun x y => by
  show (PyData.eqv _ _ && (PyData.eqv _ _ && (PyData.eqv _ _ && (PyData.eqv _ _ && true)))) = _
  rw [RpD.eqv, RpD.eqv, RpD.eqv, RpD.eqv, Bool.eq_iff_iff]
  cases x
  cases y
  simp, fun x => by
  show (PyData.canLay0 (RpD.py x.a) && (PyData.canLay0 (RpD.py x.b) && (PyData.canLay0 (RpD.py x.c) && (PyData.canLay0 (RpD.py x.d) && true)))) = true
  rw [RpD.lay, RpD.lay, RpD.lay, RpD.lay]
  rfl, max (max (RpD.dep α) (RpD.dep δ)) (max (RpD.dep β) (RpD.dep γ)) + 1, fun x => by
  show max (PyData.depth (RpD.py x.a)) (max (PyData.depth (RpD.py x.b)) (max (PyData.depth (RpD.py x.c)) (max (PyData.depth (RpD.py x.d)) 0))) + 1 ≤ _
  have h1 := RpD.depth x.a
  have h2 := RpD.depth x.b
  have h3 := RpD.depth x.c
  have h4 := RpD.depth x.d
  omega⟩
section
variable {α β γ δ : Type} [Rp α] [Rp β] [Rp γ] [Rp δ]
variable {K : PySem.W.Frag} {σ : St} {G H G1 H1 : Hp} {ta tb te tl : TE} {t u tc tt : TT} {ma : Option α} {mb : Option β} {r : R2} {f : α → β → Option γ} {i : Nat} {v : V} {d : α} {n : Nat} {ts : TA}
theorem shaped_of [DecidableEq α] [RpD α] (x : α) (h : RpD.dep α ≤ 64) : SeqAt.shaped (RpD.py x) = true := by
  unfold SeqAt.shaped
  rw [RpD.lay x, Bool.true_and, decide_eq_true_eq]
  exact Nat.le_trans (RpD.depth x) h
theorem ro_eqD [DecidableEq α] [RpD α] (h : RpD.dep α ≤ 64) : RO K (rEqD K) (fun (x y : α) => some (decide (x = y))) := fun {G H v w x y z} s hv hw hz Q q => by
  cases (show some _ = some z from hz)
  exact ⟨RpD.py x, RpD.py y, RpD.dp s hv, RpD.dp s hw, shaped_of x h, shaped_of y h, by rw [RpD.eqv]; exact q _ G H (Ext.refl s) rfl⟩
theorem ro_neD [DecidableEq α] [RpD α] (h : RpD.dep α ≤ 64) : RO K (rNeD K) (fun (x y : α) => some (!decide (x = y))) := fun {G H v w x y z} s hv hw hz Q q => by
  cases (show some _ = some z from hz)
  exact ⟨RpD.py x, RpD.py y, RpD.dp s hv, RpD.dp s hw, shaped_of x h, shaped_of y h, by rw [RpD.eqv]; exact q _ G H (Ext.refl s) rfl⟩

/-! ### is None -/
theorem opt_non {o : Option α} (h : rep K G v o) : decide (v = .non) = o.isNone := by
  cases o with
  | none =>
    rw [show v = .non from h]
    rfl
  | some x => exact decide_eq_false h.2
theorem se_isN {m : Option (Option α)} (ha : SE K ta σ G H m) : SE K (tOp (fun x y H Q => y = .non ∧ Q (.bl (decide (x = .non))) H) ta (tC .non)) σ G H (m.bind fun o => some o.isNone) := fun G1 H1 e z hm Q q => by
  obtain ⟨o, ho, hm⟩ := bind_some hm
  cases hm
  refine ha G1 H1 e o ho _ fun v G2 H2 e2 hv => ⟨rfl, ?_⟩
  rw [opt_non hv]
  exact q _ G2 H2 e2 rfl
theorem se_notN {m : Option (Option α)} (ha : SE K ta σ G H m) : SE K (tOp (fun x y H Q => y = .non ∧ Q (.bl (!decide (x = .non))) H) ta (tC .non)) σ G H (m.bind fun o => some (!o.isNone)) := fun G1 H1 e z hm Q q => by
  obtain ⟨o, ho, hm⟩ := bind_some hm
  cases hm
  refine ha G1 H1 e o ho _ fun v G2 H2 e2 hv => ⟨rfl, ?_⟩
  rw [opt_non hv]
  exact q _ G2 H2 e2 rfl
theorem se_isNp {o : Option α} (ha : SE K ta σ G H (some o)) : SE K (tOp (fun x y H Q => y = .non ∧ Q (.bl (decide (x = .non))) H) ta (tC .non)) σ G H (some o.isNone) := se_isN ha
theorem se_notNp {o : Option α} (ha : SE K ta σ G H (some o)) : SE K (tOp (fun x y H Q => y = .non ∧ Q (.bl (!decide (x = .non))) H) ta (tC .non)) σ G H (some (!o.isNone)) := se_notN ha
/-- a value that may be None, by what it is where it isn't None -/
theorem se_get {m : Option (Option α)} (ha : SE K ta σ G H m) : SE K ta σ G H (m.bind fun o => o) := fun G1 H1 e z hm Q q => by
  obtain ⟨o, ho, hm⟩ := bind_some hm
  cases hm
  exact ha G1 H1 e (some z) ho Q fun v G2 H2 e2 hv => q v G2 H2 e2 hv.1

/-! ### in -/
class RpF (α : Type) [Rp α] [DecidableEq α] : Prop where
  flat : ∀ {K : PySem.W.Frag} {G : Hp} {v : V} {x : α}, rep K G v x → flatV v = true
  eq : ∀ {K : PySem.W.Frag} {G : Hp} {v w : V} {x y : α}, rep K G v x → rep K G w y → eqV v w = decide (x = y)
instance : RpF Int := ⟨fun h => by rw [show _ = V.int _ from h]; rfl, fun {_ _ _ _ x y} h h' => by
  rw [show _ = V.int _ from h, show _ = V.int _ from h']
  show (x == y) = _
  rw [Bool.eq_iff_iff]
  simp⟩
theorem flats [DecidableEq α] [RpF α] : ∀ {vs : List V} {ds : List α}, Reps K G vs ds → vs.all flatV = true
  | _, _, .nil => rfl
  | _, _, .cons r t => by
    rw [List.all_cons, flats t, RpF.flat r]
    rfl
theorem in_reps [DecidableEq α] [RpF α] {x : α} (h : rep K G v x) : ∀ {vs : List V} {ds : List α}, Reps K G vs ds → inV v vs = decide (x ∈ ds)
  | _, _, .nil => by simp [inV]
  | _, _, .cons (a := b) (b := y) r t => by
    have ih := in_reps h t
    unfold inV at ih ⊢
    rw [List.any_cons, ih, RpF.eq r h, Bool.eq_iff_iff]
    simp
    exact ⟨fun q => q.imp Eq.symm id, fun q => q.imp Eq.symm id⟩
theorem ro_in [DecidableEq α] [RpF α] : RO K (rIn K false) (fun (x : α) (xs : List α) => some (decide (x ∈ xs))) := fun {G H v w x y z} s hv ⟨a, vs, e, h, l, rs⟩ hz Q q => by
  cases (show some _ = some z from hz)
  exact ⟨a, vs, e, .inl (SqL.of (s _ _ h)), RpF.flat hv, flats rs, by
    rw [in_reps hv rs]
    exact q _ G H (Ext.refl s) rfl⟩
theorem ro_notIn [DecidableEq α] [RpF α] : RO K (rIn K true) (fun (x : α) (xs : List α) => some (!decide (x ∈ xs))) := fun {G H v w x y z} s hv ⟨a, vs, e, h, l, rs⟩ hz Q q => by
  cases (show some _ = some z from hz)
  exact ⟨a, vs, e, .inl (SqL.of (s _ _ h)), RpF.flat hv, flats rs, by
    rw [in_reps hv rs]
    exact q _ G H (Ext.refl s) rfl⟩

/-! ### items -/
theorem atI_reps {vs : List V} {ds : List α} {k : Int} {d : α} (h : Reps K G vs ds) (e : ixO ds k = some d) : ∃ v, atI vs k = some v ∧ rep K G v d := by
  have l := h.len
  unfold ixO at e
  unfold atI ixN
  by_cases h0 : 0 ≤ k
  · rw [if_pos h0] at e
    obtain ⟨v, h1, h2⟩ := h.get e
    have hk : k.toNat < vs.length := by
      obtain ⟨hk, _⟩ := List.getElem?_eq_some_iff.mp h1
      exact hk
    rw [if_pos h0, if_pos (by omega)]
    exact ⟨v, h1, h2⟩
  · rw [if_neg h0] at e
    rw [if_neg h0]
    split at e
    · rename_i hl
      obtain ⟨v, h1, h2⟩ := h.get e
      rw [if_pos (by omega)]
      refine ⟨v, ?_, h2⟩
      show vs[(k + (vs.length : Int)).toNat]? = some v
      rw [l]
      exact h1
    · cases e
theorem ro_ix : RO K (rIxL K) (fun (xs : List α) (k : Int) => ixO xs k) := fun {G H v w x y z} s ⟨a, vs, e, h, l, rs⟩ hw hz Q q => by
  obtain ⟨u, h1, h2⟩ := atI_reps rs hz
  exact ⟨a, vs, y, u, e, hw, SqL.of (s _ _ h), h1, q u G H (Ext.refl s) h2⟩
theorem ro_ixK : RO K (rIxL K) (fun (xs : KL α) (k : Int) => ixO xs.l k) := fun {G H v w x y z} s ⟨a, vs, e, h, l, rs⟩ hw hz Q q => by
  obtain ⟨u, h1, h2⟩ := atI_reps rs hz
  exact ⟨a, vs, y, u, e, hw, s.seq h, h1, q u G H (Ext.refl s) h2⟩
theorem ro_ixT : RO K (rIxT K) (fun (xs : TL α) (k : Int) => ixO xs.l k) := fun {G H v w x y z} s ⟨a, vs, e, h, l, rs⟩ hw hz Q q => by
  obtain ⟨u, h1, h2⟩ := atI_reps rs hz
  exact ⟨a, vs, y, u, e, hw, same_tup s h, h1, q u G H (Ext.refl s) h2⟩
/-- an item of a list of one's own -/
theorem se_own_ix {H0 : Hp} {p : Addr} {ds : List α} {mk : Option Int} (hv : σ[i]? = some (some (.ref p))) (o : Own K H0 G H p ds) (hk : SE K tb σ G H mk) : SE K (tOp (rIxL K) (tVar i) tb) σ G H (mk.bind fun k => ixO ds k) := fun G1 H1 e z hm Q q => by
  obtain ⟨k, hk2, hm⟩ := bind_some hm
  refine ⟨.ref p, hv, ?_⟩
  refine hk G1 H1 e k hk2 _ fun w G2 H2 e2 hw => ?_
  obtain ⟨vs, h, l, rs⟩ := (o.mono (e.trans e2)).h
  obtain ⟨u, h1, h2⟩ := atI_reps rs hm
  exact ⟨p, vs, k, u, rfl, hw, SqL.of h, h1, q u G2 H2 e2 h2⟩
theorem se_own_ixp {H0 : Hp} {p : Addr} {ds : List α} {k : Int} (hv : σ[i]? = some (some (.ref p))) (o : Own K H0 G H p ds) (hk : SE K tb σ G H (some k)) : SE K (tOp (rIxL K) (tVar i) tb) σ G H (ixO ds k) := se_own_ix hv o hk

theorem se_t2_0 {m : Option (α × β)} (h : SE K ta σ G H m) : SE K (tOp (rIxT K) ta (tC (.int 0))) σ G H (m.bind fun t => some t.1) := fun G1 H1 e z hm Q q => by
  obtain ⟨t, ht, hm⟩ := bind_some hm
  cases hm
  refine h G1 H1 e t ht _ fun v G2 H2 e3 ⟨a, x, y, e2, h, h0, h1⟩ => ?_
  exact ⟨a, [x, y], 0, x, (by assumption), rfl, same_tup e3.s h, rfl, q x G2 H2 (by assumption) h0⟩
theorem se_t2_0p {t : α × β} (h : SE K ta σ G H (some t)) : SE K (tOp (rIxT K) ta (tC (.int 0))) σ G H (some t.1) := se_t2_0 h
theorem se_t2_1 {m : Option (α × β)} (h : SE K ta σ G H m) : SE K (tOp (rIxT K) ta (tC (.int 1))) σ G H (m.bind fun t => some t.2) := fun G1 H1 e z hm Q q => by
  obtain ⟨t, ht, hm⟩ := bind_some hm
  cases hm
  refine h G1 H1 e t ht _ fun v G2 H2 e3 ⟨a, x, y, e2, h, h0, h1⟩ => ?_
  exact ⟨a, [x, y], 1, y, (by assumption), rfl, same_tup e3.s h, rfl, q y G2 H2 (by assumption) h1⟩
theorem se_t2_1p {t : α × β} (h : SE K ta σ G H (some t)) : SE K (tOp (rIxT K) ta (tC (.int 1))) σ G H (some t.2) := se_t2_1 h
theorem se_tup2 {t0 t1 : TE} {m0 : Option α} {m1 : Option β} (h0 : SE K t0 σ G H m0) (h1 : SE K t1 σ G H m1) : SE K (tTup (tCons t0 (tCons t1 tNil))) σ G H (m0.bind fun x0 => (m1.bind fun x1 => some (((x0, x1) : α × β)))) := fun G1 H1 e z hm Q q => by
  obtain ⟨x0, hx0, hm⟩ := bind_some hm
  obtain ⟨x1, hx1, hm⟩ := bind_some hm
  cases hm
  refine h0 _ _ e x0 hx0 _ fun v0 G2 H2 e0 r0 => ?_
  refine h1 _ _ (e.trans e0) x1 hx1 _ fun v1 G3 H3 e1 r1 => ?_
  refine ⟨by show 2 ≤ sizeLine; decide, fun p np => ?_⟩
  exact q (.ref p) _ _ ((e0.trans e1).trans (Ext.new (o := .tup [v0, v1]) e1.s np)) ⟨p, v0, v1, rfl, SqT.of upd_same, Rp.mono (same_new (e1.s.free np)) (Rp.mono e1.g r0), Rp.mono (same_new (e1.s.free np)) (r1)⟩
theorem se_tup2p {t0 t1 : TE} {x0 : α} {x1 : β} (h0 : SE K t0 σ G H (some x0)) (h1 : SE K t1 σ G H (some x1)) : SE K (tTup (tCons t0 (tCons t1 tNil))) σ G H (some (((x0, x1) : α × β))) := se_tup2 h0 h1
theorem se_t3_0 {m : Option (T3 α β γ)} (h : SE K ta σ G H m) : SE K (tOp (rIxT K) ta (tC (.int 0))) σ G H (m.bind fun t => some t.a) := fun G1 H1 e z hm Q q => by
  obtain ⟨t, ht, hm⟩ := bind_some hm
  cases hm
  refine h G1 H1 e t ht _ fun v G2 H2 e3 ⟨a, x, y, z, e2, h, h0, h1, h2⟩ => ?_
  exact ⟨a, [x, y, z], 0, x, (by assumption), rfl, same_tup e3.s h, rfl, q x G2 H2 (by assumption) h0⟩
theorem se_t3_0p {t : T3 α β γ} (h : SE K ta σ G H (some t)) : SE K (tOp (rIxT K) ta (tC (.int 0))) σ G H (some t.a) := se_t3_0 h
theorem se_t3_1 {m : Option (T3 α β γ)} (h : SE K ta σ G H m) : SE K (tOp (rIxT K) ta (tC (.int 1))) σ G H (m.bind fun t => some t.b) := fun G1 H1 e z hm Q q => by
  obtain ⟨t, ht, hm⟩ := bind_some hm
  cases hm
  refine h G1 H1 e t ht _ fun v G2 H2 e3 ⟨a, x, y, z, e2, h, h0, h1, h2⟩ => ?_
  exact ⟨a, [x, y, z], 1, y, (by assumption), rfl, same_tup e3.s h, rfl, q y G2 H2 (by assumption) h1⟩
theorem se_t3_1p {t : T3 α β γ} (h : SE K ta σ G H (some t)) : SE K (tOp (rIxT K) ta (tC (.int 1))) σ G H (some t.b) := se_t3_1 h
theorem se_t3_2 {m : Option (T3 α β γ)} (h : SE K ta σ G H m) : SE K (tOp (rIxT K) ta (tC (.int 2))) σ G H (m.bind fun t => some t.c) := fun G1 H1 e z hm Q q => by
  obtain ⟨t, ht, hm⟩ := bind_some hm
  cases hm
  refine h G1 H1 e t ht _ fun v G2 H2 e3 ⟨a, x, y, z, e2, h, h0, h1, h2⟩ => ?_
  exact ⟨a, [x, y, z], 2, z, (by assumption), rfl, same_tup e3.s h, rfl, q z G2 H2 (by assumption) h2⟩
theorem se_t3_2p {t : T3 α β γ} (h : SE K ta σ G H (some t)) : SE K (tOp (rIxT K) ta (tC (.int 2))) σ G H (some t.c) := se_t3_2 h
theorem se_tup3 {t0 t1 t2 : TE} {m0 : Option α} {m1 : Option β} {m2 : Option γ} (h0 : SE K t0 σ G H m0) (h1 : SE K t1 σ G H m1) (h2 : SE K t2 σ G H m2) : SE K (tTup (tCons t0 (tCons t1 (tCons t2 tNil)))) σ G H (m0.bind fun x0 => (m1.bind fun x1 => (m2.bind fun x2 => some ((⟨x0, x1, x2⟩ : T3 α β γ))))) := fun G1 H1 e z hm Q q => by
  obtain ⟨x0, hx0, hm⟩ := bind_some hm
  obtain ⟨x1, hx1, hm⟩ := bind_some hm
  obtain ⟨x2, hx2, hm⟩ := bind_some hm
  cases hm
  refine h0 _ _ e x0 hx0 _ fun v0 G2 H2 e0 r0 => ?_
  refine h1 _ _ (e.trans e0) x1 hx1 _ fun v1 G3 H3 e1 r1 => ?_
  refine h2 _ _ ((e.trans e0).trans e1) x2 hx2 _ fun v2 G4 H4 e2 r2 => ?_
  refine ⟨by show 3 ≤ sizeLine; decide, fun p np => ?_⟩
  exact q (.ref p) _ _ (((e0.trans e1).trans e2).trans (Ext.new (o := .tup [v0, v1, v2]) e2.s np)) ⟨p, v0, v1, v2, rfl, SqT.of upd_same, Rp.mono (same_new (e2.s.free np)) (Rp.mono (e1.trans e2).g r0), Rp.mono (same_new (e2.s.free np)) (Rp.mono e2.g r1), Rp.mono (same_new (e2.s.free np)) (r2)⟩
theorem se_tup3p {t0 t1 t2 : TE} {x0 : α} {x1 : β} {x2 : γ} (h0 : SE K t0 σ G H (some x0)) (h1 : SE K t1 σ G H (some x1)) (h2 : SE K t2 σ G H (some x2)) : SE K (tTup (tCons t0 (tCons t1 (tCons t2 tNil)))) σ G H (some ((⟨x0, x1, x2⟩ : T3 α β γ))) := se_tup3 h0 h1 h2
theorem se_t4_0 {m : Option (T4 α β γ δ)} (h : SE K ta σ G H m) : SE K (tOp (rIxT K) ta (tC (.int 0))) σ G H (m.bind fun t => some t.a) := fun G1 H1 e z hm Q q => by
  obtain ⟨t, ht, hm⟩ := bind_some hm
  cases hm
  refine h G1 H1 e t ht _ fun v G2 H2 e3 ⟨a, x, y, z, u, e2, h, h0, h1, h2, h3⟩ => ?_
  exact ⟨a, [x, y, z, u], 0, x, (by assumption), rfl, same_tup e3.s h, rfl, q x G2 H2 (by assumption) h0⟩
theorem se_t4_0p {t : T4 α β γ δ} (h : SE K ta σ G H (some t)) : SE K (tOp (rIxT K) ta (tC (.int 0))) σ G H (some t.a) := se_t4_0 h
theorem se_t4_1 {m : Option (T4 α β γ δ)} (h : SE K ta σ G H m) : SE K (tOp (rIxT K) ta (tC (.int 1))) σ G H (m.bind fun t => some t.b) := fun G1 H1 e z hm Q q => by
  obtain ⟨t, ht, hm⟩ := bind_some hm
  cases hm
  refine h G1 H1 e t ht _ fun v G2 H2 e3 ⟨a, x, y, z, u, e2, h, h0, h1, h2, h3⟩ => ?_
  exact ⟨a, [x, y, z, u], 1, y, (by assumption), rfl, same_tup e3.s h, rfl, q y G2 H2 (by assumption) h1⟩
theorem se_t4_1p {t : T4 α β γ δ} (h : SE K ta σ G H (some t)) : SE K (tOp (rIxT K) ta (tC (.int 1))) σ G H (some t.b) := se_t4_1 h
theorem se_t4_2 {m : Option (T4 α β γ δ)} (h : SE K ta σ G H m) : SE K (tOp (rIxT K) ta (tC (.int 2))) σ G H (m.bind fun t => some t.c) := fun G1 H1 e z hm Q q => by
  obtain ⟨t, ht, hm⟩ := bind_some hm
  cases hm
  refine h G1 H1 e t ht _ fun v G2 H2 e3 ⟨a, x, y, z, u, e2, h, h0, h1, h2, h3⟩ => ?_
  exact ⟨a, [x, y, z, u], 2, z, (by assumption), rfl, same_tup e3.s h, rfl, q z G2 H2 (by assumption) h2⟩
theorem se_t4_2p {t : T4 α β γ δ} (h : SE K ta σ G H (some t)) : SE K (tOp (rIxT K) ta (tC (.int 2))) σ G H (some t.c) := se_t4_2 h
theorem se_t4_3 {m : Option (T4 α β γ δ)} (h : SE K ta σ G H m) : SE K (tOp (rIxT K) ta (tC (.int 3))) σ G H (m.bind fun t => some t.d) := fun G1 H1 e z hm Q q => by
  obtain ⟨t, ht, hm⟩ := bind_some hm
  cases hm
  refine h G1 H1 e t ht _ fun v G2 H2 e3 ⟨a, x, y, z, u, e2, h, h0, h1, h2, h3⟩ => ?_
  exact ⟨a, [x, y, z, u], 3, u, (by assumption), rfl, same_tup e3.s h, rfl, q u G2 H2 (by assumption) h3⟩
theorem se_t4_3p {t : T4 α β γ δ} (h : SE K ta σ G H (some t)) : SE K (tOp (rIxT K) ta (tC (.int 3))) σ G H (some t.d) := se_t4_3 h
theorem se_tup4 {t0 t1 t2 t3 : TE} {m0 : Option α} {m1 : Option β} {m2 : Option γ} {m3 : Option δ} (h0 : SE K t0 σ G H m0) (h1 : SE K t1 σ G H m1) (h2 : SE K t2 σ G H m2) (h3 : SE K t3 σ G H m3) : SE K (tTup (tCons t0 (tCons t1 (tCons t2 (tCons t3 tNil))))) σ G H (m0.bind fun x0 => (m1.bind fun x1 => (m2.bind fun x2 => (m3.bind fun x3 => some ((⟨x0, x1, x2, x3⟩ : T4 α β γ δ)))))) := fun G1 H1 e z hm Q q => by
  obtain ⟨x0, hx0, hm⟩ := bind_some hm
  obtain ⟨x1, hx1, hm⟩ := bind_some hm
  obtain ⟨x2, hx2, hm⟩ := bind_some hm
  obtain ⟨x3, hx3, hm⟩ := bind_some hm
  cases hm
  refine h0 _ _ e x0 hx0 _ fun v0 G2 H2 e0 r0 => ?_
  refine h1 _ _ (e.trans e0) x1 hx1 _ fun v1 G3 H3 e1 r1 => ?_
  refine h2 _ _ ((e.trans e0).trans e1) x2 hx2 _ fun v2 G4 H4 e2 r2 => ?_
  refine h3 _ _ (((e.trans e0).trans e1).trans e2) x3 hx3 _ fun v3 G5 H5 e3 r3 => ?_
  refine ⟨by show 4 ≤ sizeLine; decide, fun p np => ?_⟩
  exact q (.ref p) _ _ ((((e0.trans e1).trans e2).trans e3).trans (Ext.new (o := .tup [v0, v1, v2, v3]) e3.s np)) ⟨p, v0, v1, v2, v3, rfl, SqT.of upd_same, Rp.mono (same_new (e3.s.free np)) (Rp.mono ((e1.trans e2).trans e3).g r0), Rp.mono (same_new (e3.s.free np)) (Rp.mono (e2.trans e3).g r1), Rp.mono (same_new (e3.s.free np)) (Rp.mono e3.g r2), Rp.mono (same_new (e3.s.free np)) (r3)⟩
theorem se_tup4p {t0 t1 t2 t3 : TE} {x0 : α} {x1 : β} {x2 : γ} {x3 : δ} (h0 : SE K t0 σ G H (some x0)) (h1 : SE K t1 σ G H (some x1)) (h2 : SE K t2 σ G H (some x2)) (h3 : SE K t3 σ G H (some x3)) : SE K (tTup (tCons t0 (tCons t1 (tCons t2 (tCons t3 tNil))))) σ G H (some ((⟨x0, x1, x2, x3⟩ : T4 α β γ δ))) := se_tup4 h0 h1 h2 h3
theorem se_t5_0 {ε : Type} [Rp ε] {m : Option (T5 α β γ δ ε)} (h : SE K ta σ G H m) : SE K (tOp (rIxT K) ta (tC (.int 0))) σ G H (m.bind fun t => some t.a) := fun G1 H1 e z hm Q q => by
  obtain ⟨t, ht, hm⟩ := bind_some hm
  cases hm
  refine h G1 H1 e t ht _ fun v G2 H2 e3 ⟨a, x, y, z, u, w, e2, h, h0, h1, h2, h3, h4⟩ => ?_
  exact ⟨a, [x, y, z, u, w], 0, x, (by assumption), rfl, same_tup e3.s h, rfl, q x G2 H2 (by assumption) h0⟩
theorem se_t5_0p {ε : Type} [Rp ε] {t : T5 α β γ δ ε} (h : SE K ta σ G H (some t)) : SE K (tOp (rIxT K) ta (tC (.int 0))) σ G H (some t.a) := se_t5_0 h
theorem se_t5_1 {ε : Type} [Rp ε] {m : Option (T5 α β γ δ ε)} (h : SE K ta σ G H m) : SE K (tOp (rIxT K) ta (tC (.int 1))) σ G H (m.bind fun t => some t.b) := fun G1 H1 e z hm Q q => by
  obtain ⟨t, ht, hm⟩ := bind_some hm
  cases hm
  refine h G1 H1 e t ht _ fun v G2 H2 e3 ⟨a, x, y, z, u, w, e2, h, h0, h1, h2, h3, h4⟩ => ?_
  exact ⟨a, [x, y, z, u, w], 1, y, (by assumption), rfl, same_tup e3.s h, rfl, q y G2 H2 (by assumption) h1⟩
theorem se_t5_1p {ε : Type} [Rp ε] {t : T5 α β γ δ ε} (h : SE K ta σ G H (some t)) : SE K (tOp (rIxT K) ta (tC (.int 1))) σ G H (some t.b) := se_t5_1 h
theorem se_t5_2 {ε : Type} [Rp ε] {m : Option (T5 α β γ δ ε)} (h : SE K ta σ G H m) : SE K (tOp (rIxT K) ta (tC (.int 2))) σ G H (m.bind fun t => some t.c) := fun G1 H1 e z hm Q q => by
  obtain ⟨t, ht, hm⟩ := bind_some hm
  cases hm
  refine h G1 H1 e t ht _ fun v G2 H2 e3 ⟨a, x, y, z, u, w, e2, h, h0, h1, h2, h3, h4⟩ => ?_
  exact ⟨a, [x, y, z, u, w], 2, z, (by assumption), rfl, same_tup e3.s h, rfl, q z G2 H2 (by assumption) h2⟩
theorem se_t5_2p {ε : Type} [Rp ε] {t : T5 α β γ δ ε} (h : SE K ta σ G H (some t)) : SE K (tOp (rIxT K) ta (tC (.int 2))) σ G H (some t.c) := se_t5_2 h
theorem se_t5_3 {ε : Type} [Rp ε] {m : Option (T5 α β γ δ ε)} (h : SE K ta σ G H m) : SE K (tOp (rIxT K) ta (tC (.int 3))) σ G H (m.bind fun t => some t.d) := fun G1 H1 e z hm Q q => by
  obtain ⟨t, ht, hm⟩ := bind_some hm
  cases hm
  refine h G1 H1 e t ht _ fun v G2 H2 e3 ⟨a, x, y, z, u, w, e2, h, h0, h1, h2, h3, h4⟩ => ?_
  exact ⟨a, [x, y, z, u, w], 3, u, (by assumption), rfl, same_tup e3.s h, rfl, q u G2 H2 (by assumption) h3⟩
theorem se_t5_3p {ε : Type} [Rp ε] {t : T5 α β γ δ ε} (h : SE K ta σ G H (some t)) : SE K (tOp (rIxT K) ta (tC (.int 3))) σ G H (some t.d) := se_t5_3 h
theorem se_t5_4 {ε : Type} [Rp ε] {m : Option (T5 α β γ δ ε)} (h : SE K ta σ G H m) : SE K (tOp (rIxT K) ta (tC (.int 4))) σ G H (m.bind fun t => some t.e) := fun G1 H1 e z hm Q q => by
  obtain ⟨t, ht, hm⟩ := bind_some hm
  cases hm
  refine h G1 H1 e t ht _ fun v G2 H2 e3 ⟨a, x, y, z, u, w, e2, h, h0, h1, h2, h3, h4⟩ => ?_
  exact ⟨a, [x, y, z, u, w], 4, w, (by assumption), rfl, same_tup e3.s h, rfl, q w G2 H2 (by assumption) h4⟩
theorem se_t5_4p {ε : Type} [Rp ε] {t : T5 α β γ δ ε} (h : SE K ta σ G H (some t)) : SE K (tOp (rIxT K) ta (tC (.int 4))) σ G H (some t.e) := se_t5_4 h
theorem se_tup5 {ε : Type} [Rp ε] {t0 t1 t2 t3 t4 : TE} {m0 : Option α} {m1 : Option β} {m2 : Option γ} {m3 : Option δ} {m4 : Option ε} (h0 : SE K t0 σ G H m0) (h1 : SE K t1 σ G H m1) (h2 : SE K t2 σ G H m2) (h3 : SE K t3 σ G H m3) (h4 : SE K t4 σ G H m4) : SE K (tTup (tCons t0 (tCons t1 (tCons t2 (tCons t3 (tCons t4 tNil)))))) σ G H (m0.bind fun x0 => (m1.bind fun x1 => (m2.bind fun x2 => (m3.bind fun x3 => (m4.bind fun x4 => some ((⟨x0, x1, x2, x3, x4⟩ : T5 α β γ δ ε))))))) := fun G1 H1 e z hm Q q => by
  obtain ⟨x0, hx0, hm⟩ := bind_some hm
  obtain ⟨x1, hx1, hm⟩ := bind_some hm
  obtain ⟨x2, hx2, hm⟩ := bind_some hm
  obtain ⟨x3, hx3, hm⟩ := bind_some hm
  obtain ⟨x4, hx4, hm⟩ := bind_some hm
  cases hm
  refine h0 _ _ e x0 hx0 _ fun v0 G2 H2 e0 r0 => ?_
  refine h1 _ _ (e.trans e0) x1 hx1 _ fun v1 G3 H3 e1 r1 => ?_
  refine h2 _ _ ((e.trans e0).trans e1) x2 hx2 _ fun v2 G4 H4 e2 r2 => ?_
  refine h3 _ _ (((e.trans e0).trans e1).trans e2) x3 hx3 _ fun v3 G5 H5 e3 r3 => ?_
  refine h4 _ _ ((((e.trans e0).trans e1).trans e2).trans e3) x4 hx4 _ fun v4 G6 H6 e4 r4 => ?_
  refine ⟨by show 5 ≤ sizeLine; decide, fun p np => ?_⟩
  exact q (.ref p) _ _ (((((e0.trans e1).trans e2).trans e3).trans e4).trans (Ext.new (o := .tup [v0, v1, v2, v3, v4]) e4.s np)) ⟨p, v0, v1, v2, v3, v4, rfl, SqT.of upd_same, Rp.mono (same_new (e4.s.free np)) (Rp.mono (((e1.trans e2).trans e3).trans e4).g r0), Rp.mono (same_new (e4.s.free np)) (Rp.mono ((e2.trans e3).trans e4).g r1), Rp.mono (same_new (e4.s.free np)) (Rp.mono (e3.trans e4).g r2), Rp.mono (same_new (e4.s.free np)) (Rp.mono e4.g r3), Rp.mono (same_new (e4.s.free np)) (r4)⟩
theorem se_tup5p {ε : Type} [Rp ε] {t0 t1 t2 t3 t4 : TE} {x0 : α} {x1 : β} {x2 : γ} {x3 : δ} {x4 : ε} (h0 : SE K t0 σ G H (some x0)) (h1 : SE K t1 σ G H (some x1)) (h2 : SE K t2 σ G H (some x2)) (h3 : SE K t3 σ G H (some x3)) (h4 : SE K t4 σ G H (some x4)) : SE K (tTup (tCons t0 (tCons t1 (tCons t2 (tCons t3 (tCons t4 tNil)))))) σ G H (some ((⟨x0, x1, x2, x3, x4⟩ : T5 α β γ δ ε))) := se_tup5 h0 h1 h2 h3 h4

/-! ### lists -/
/-- n expressions of one type -/
def LA (K : PySem.W.Frag) (n : Nat) (ta : TA) (σ : St) (G H : Hp) (m : Option (List α)) : Prop :=
  ∀ G1 H1, Ext G H G1 H1 → ∀ r, m = some r → ∀ Q : List V → Hp → Prop, (∀ vs G2 H2, Ext G1 H1 G2 H2 → Reps K G2 vs r → vs.length = n → Q vs H2) → ta σ H1 Q
theorem la_nil : LA K 0 tNil σ G H (some ([] : List α)) := fun G1 H1 e r hm Q q => by
  cases hm
  exact q [] G1 H1 (Ext.refl e.s) .nil rfl
theorem la_cons {m : Option (List α)} (h : SE K ta σ G H ma) (hr : LA K n ts σ G H m) : LA K (n + 1) (tCons ta ts) σ G H (ma.bind fun x => m.bind fun xs => some (x :: xs)) := fun G1 H1 e r hm Q q => by
  obtain ⟨x, hx, hm⟩ := bind_some hm
  obtain ⟨xs, hxs, hm⟩ := bind_some hm
  cases hm
  refine h G1 H1 e x hx _ fun v G2 H2 e2 hv => ?_
  refine hr G2 H2 (e.trans e2) xs hxs _ fun vs G3 H3 e3 hvs l => ?_
  exact q (v :: vs) G3 H3 (e2.trans e3) (.cons (Rp.mono e3.g hv) hvs) (by rw [List.length_cons, l])
theorem la_consp {x : α} {xs : List α} (h : SE K ta σ G H (some x)) (hr : LA K n ts σ G H (some xs)) : LA K (n + 1) (tCons ta ts) σ G H (some (x :: xs)) := la_cons h hr
theorem own_new {vs : List V} {ds : List α} {p : Addr} (s : Vw G H) (n : H p = none) (l : vs.length ≤ sizeLine) (r : Reps K G vs ds) : Own K H G (upd H p (.lst vs)) p ds := ⟨n, s.free n, vs, upd_same, l, r⟩
theorem fe_lst {m : Option (List α)} (h : LA K n ts σ G H m) (hn : n ≤ 1000 := by decide) : FE K (tLst ts) σ G H m := fun G1 H1 e r hm Q q =>
  h G1 H1 e r hm _ fun vs G2 H2 e2 hvs l => ⟨by rw [l]; exact Nat.le_trans hn (by decide), fun p np =>
    q p G2 _ (e2.trans (Ext.own e2.s np)) (by
      have o := own_new (K := K) e2.s np (by rw [l]; exact Nat.le_trans hn (by decide)) hvs
      exact ⟨e2.h.free np, o.g, o.h⟩)⟩
/-- a part of a slice -/
def SO (to : TO) (σ : St) (G H : Hp) (m : Option (Option Int)) : Prop :=
  ∀ G1 H1, Ext G H G1 H1 → ∀ r, m = some r → ∀ Q : Option Int → Hp → Prop, (∀ G2 H2, Ext G1 H1 G2 H2 → Q r H2) → to σ H1 Q
theorem so_none : SO tNoPart σ G H (some none) := fun G1 H1 e r hm Q q => by
  cases hm
  exact q G1 H1 (Ext.refl e.s)
theorem so_some {m : Option Int} (h : SE K te σ G H m) : SO (tPart te) σ G H (m.bind fun k => some (some k)) := fun G1 H1 e r hm Q q => by
  obtain ⟨x, hx, hm⟩ := bind_some hm
  cases hm
  exact h G1 H1 e x hx _ fun v G2 H2 e2 hv => ⟨x, hv, q G2 H2 e2⟩
theorem so_somep {k : Int} (h : SE K te σ G H (some k)) : SO (tPart te) σ G H (some (some k)) := so_some h
theorem fe_slice {m : Option (List α)} {tlo thi : TO} {mlo mhi : Option (Option Int)} (h : SE K te σ G H m) (h1 : SO tlo σ G H mlo) (h2 : SO thi σ G H mhi) : FE K (tSl (rSlL K) te tlo thi) σ G H (m.bind fun xs => mlo.bind fun lo => mhi.bind fun hi => some (cutL xs lo hi)) := fun G1 H1 e r hm Q q => by
  obtain ⟨xs, hx, hm⟩ := bind_some hm
  obtain ⟨lo, hlo, hm⟩ := bind_some hm
  obtain ⟨hi, hhi, hm⟩ := bind_some hm
  cases hm
  refine h G1 H1 e xs hx _ fun v G2 H2 e2 hv => ?_
  refine h1 G2 H2 (e.trans e2) lo hlo _ fun G3 H3 e3 => ?_
  refine h2 G3 H3 ((e.trans e2).trans e3) hi hhi _ fun G4 H4 e4 => ?_
  obtain ⟨a, vs, e0, hs, l, rs⟩ := hv
  refine ⟨a, vs, e0, (e3.h.trans e4.h).seq (SqL.of (e2.s _ _ hs)), fun p np => ?_⟩
  have o := own_new (K := K) (vs := cutV vs lo hi) e4.s np (Nat.le_trans (cutV_length vs lo hi) l) ((rs.mono (e3.g.trans e4.g)).cut (lo := lo) (hi := hi))
  exact q p G4 _ (((e2.trans e3).trans e4).trans (Ext.own e4.s np)) ⟨((e2.trans e3).trans e4).h.free np, o.g, o.h⟩
theorem fe_slicep {xs : List α} {tlo thi : TO} {lo hi : Option Int} (h : SE K te σ G H (some xs)) (h1 : SO tlo σ G H (some lo)) (h2 : SO thi σ G H (some hi)) : FE K (tSl (rSlL K) te tlo thi) σ G H (some (cutL xs lo hi)) := fe_slice h h1 h2
/-- two lists, one behind the other -/
theorem fe_cat {xs ys : Option (List α)} (h : SE K ta σ G H xs) (h2 : SE K tb σ G H ys) : FE K (tOp rCat ta tb) σ G H (xs.bind fun x => ys.bind fun y => catO x y) := fun G1 H1 e r hm Q q => by
  obtain ⟨x, hx, hm⟩ := bind_some hm
  obtain ⟨y, hy, hm⟩ := bind_some hm
  unfold catO at hm
  split at hm
  · rename_i hl
    cases hm
    refine h G1 H1 e x hx _ fun v G2 H2 e2 hv => ?_
    refine h2 G2 H2 (e.trans e2) y hy _ fun w G3 H3 e3 hw => ?_
    obtain ⟨a, vs, ea, ha, la, ra⟩ := Rp.mono e3.g hv
    obtain ⟨b, ws, eb, hb, lb, rb⟩ := hw
    have ll : vs.length + ws.length ≤ sizeLine := by
      have x1 := ra.len
      have x2 := rb.len
      rw [x1, x2]
      exact Nat.le_trans hl (by decide)
    refine ⟨a, b, vs, ws, ea, eb, e3.s _ _ ha, e3.s _ _ hb, ll, fun p np => ?_⟩
    have o := own_new (K := K) e3.s np (by rw [List.length_append]; exact ll) (ra.app rb)
    exact q p G3 _ ((e2.trans e3).trans (Ext.own e3.s np)) ⟨(e2.trans e3).h.free np, o.g, o.h⟩
  · cases hm
theorem fe_catp {xs ys : List α} (h : SE K ta σ G H (some xs)) (h2 : SE K tb σ G H (some ys)) : FE K (tOp rCat ta tb) σ G H (catO xs ys) := fe_cat h h2
/-- list(xs), of a list, a tuple -/
theorem fe_list {m : Option (List α)} (h : SE K te σ G H m) : FE K (tCB (fun xs H Q => ∃ p ys, xs = [.ref p] ∧ (SqL K H p ys ∨ SqT K H p ys) ∧ ∀ l, H l = none → Q (.ref l) (upd H l (.lst ys))) (tCons te tNil)) σ G H m := fun G1 H1 e r hm Q q => by
  refine h G1 H1 e r hm _ fun v G2 H2 e2 hv => ?_
  obtain ⟨a, vs, ea, ha, la, ra⟩ := hv
  rw [ea]
  refine ⟨a, vs, rfl, .inl (SqL.of (e2.s _ _ ha)), fun p np => ?_⟩
  have o := own_new (K := K) e2.s np la ra
  exact q p G2 _ (e2.trans (Ext.own e2.s np)) ⟨e2.h.free np, o.g, o.h⟩
theorem fe_listT {m : Option (TL α)} (h : SE K te σ G H m) : FE K (tCB (fun xs H Q => ∃ p ys, xs = [.ref p] ∧ (SqL K H p ys ∨ SqT K H p ys) ∧ ∀ l, H l = none → Q (.ref l) (upd H l (.lst ys))) (tCons te tNil)) σ G H (m.bind fun t => some t.l) := fun G1 H1 e r hm Q q => by
  obtain ⟨t, ht, hm⟩ := bind_some hm
  cases hm
  refine h G1 H1 e t ht _ fun v G2 H2 e2 hv => ?_
  obtain ⟨a, vs, ea, ha, la, ra⟩ := hv
  rw [ea]
  refine ⟨a, vs, rfl, .inr (same_tup e2.s ha), fun p np => ?_⟩
  have o := own_new (K := K) e2.s np la ra
  exact q p G2 _ (e2.trans (Ext.own e2.s np)) ⟨e2.h.free np, o.g, o.h⟩
/-- len -/
theorem rc_len : RC1 K (fun xs H Q => ∃ p ys, xs = [.ref p] ∧ (SqL K H p ys ∨ SqT K H p ys) ∧ Q (.int ys.length) H) (fun (xs : List α) => some (xs.length : Int)) := fun {G H v x z} s ⟨a, vs, e, h, l, rs⟩ hz Q q => by
  cases (show some _ = some z from hz)
  exact ⟨a, vs, by rw [e], .inl (SqL.of (s _ _ h)), by rw [rs.len]; exact q _ G H (Ext.refl s) rfl⟩
theorem rc_lenK : RC1 K (fun xs H Q => ∃ p ys, xs = [.ref p] ∧ (SqL K H p ys ∨ SqT K H p ys) ∧ Q (.int ys.length) H) (fun (xs : KL α) => some (xs.l.length : Int)) := fun {G H v x z} s ⟨a, vs, e, h, l, rs⟩ hz Q q => by
  cases (show some _ = some z from hz)
  exact ⟨a, vs, by rw [e], .inl (s.seq h), by rw [rs.len]; exact q _ G H (Ext.refl s) rfl⟩
theorem rc_lenT : RC1 K (fun xs H Q => ∃ p ys, xs = [.ref p] ∧ (SqL K H p ys ∨ SqT K H p ys) ∧ Q (.int ys.length) H) (fun (xs : TL α) => some (xs.l.length : Int)) := fun {G H v x z} s ⟨a, vs, e, h, l, rs⟩ hz Q q => by
  cases (show some _ = some z from hz)
  exact ⟨a, vs, by rw [e], .inr (same_tup s h), by rw [rs.len]; exact q _ G H (Ext.refl s) rfl⟩
theorem rc_len2 : RC1 K (fun xs H Q => ∃ p ys, xs = [.ref p] ∧ (SqL K H p ys ∨ SqT K H p ys) ∧ Q (.int ys.length) H) (fun (_ : α × β) => some (2 : Int)) := fun {G H v x z} s ⟨a, x1, y1, e, h, _⟩ hz Q q => by
  cases (show some _ = some z from hz)
  exact ⟨a, _, by rw [e], .inr (same_tup s h), q _ G H (Ext.refl s) rfl⟩
theorem rc_len3 : RC1 K (fun xs H Q => ∃ p ys, xs = [.ref p] ∧ (SqL K H p ys ∨ SqT K H p ys) ∧ Q (.int ys.length) H) (fun (_ : T3 α β γ) => some (3 : Int)) := fun {G H v x z} s ⟨a, _, _, _, e, h, _⟩ hz Q q => by
  cases (show some _ = some z from hz)
  exact ⟨a, _, by rw [e], .inr (same_tup s h), q _ G H (Ext.refl s) rfl⟩
theorem rc_len4 : RC1 K (fun xs H Q => ∃ p ys, xs = [.ref p] ∧ (SqL K H p ys ∨ SqT K H p ys) ∧ Q (.int ys.length) H) (fun (_ : T4 α β γ δ) => some (4 : Int)) := fun {G H v x z} s ⟨a, _, _, _, _, e, h, _⟩ hz Q q => by
  cases (show some _ = some z from hz)
  exact ⟨a, _, by rw [e], .inr (same_tup s h), q _ G H (Ext.refl s) rfl⟩
theorem rc_abs : RC1 K (fun xs H Q => ∃ i, xs = [.int i] ∧ Q (.int (if i < 0 then -i else i)) H) (fun (x : Int) => some ((x.natAbs : Int))) := fun {G H v x z} s h hz Q q => by
  cases (show some _ = some z from hz)
  refine ⟨x, by rw [show v = .int x from h], ?_⟩
  have e : (if x < 0 then -x else x) = (x.natAbs : Int) := by split <;> omega
  rw [e]
  exact q _ G H (Ext.refl s) rfl
theorem rc_max2 : RC2 K (fun xs H Q => ∃ i j, xs = [.int i, .int j] ∧ Q (.int (if j > i then j else i)) H) (fun (x y : Int) => some (max x y)) := fun {G H v w x y z} s h h2 hz Q q => by
  cases (show some _ = some z from hz)
  refine ⟨x, y, by rw [show v = .int x from h, show w = .int y from h2], ?_⟩
  have e : (if y > x then y else x) = max x y := by split <;> omega
  rw [e]
  exact q _ G H (Ext.refl s) rfl
theorem rc_min2 : RC2 K (fun xs H Q => ∃ i j, xs = [.int i, .int j] ∧ Q (.int (if j < i then j else i)) H) (fun (x y : Int) => some (min x y)) := fun {G H v w x y z} s h h2 hz Q q => by
  cases (show some _ = some z from hz)
  refine ⟨x, y, by rw [show v = .int x from h, show w = .int y from h2], ?_⟩
  have e : (if y < x then y else x) = min x y := by split <;> omega
  rw [e]
  exact q _ G H (Ext.refl s) rfl
theorem rc_sum : RC1 K (rSum K) (fun (xs : List Int) => some xs.sum) := fun {G H v x z} s ⟨a, vs, e, h, l, rs⟩ hz Q q => by
  cases (show some _ = some z from hz)
  have e2 := rs.ints
  exact ⟨a, x, by rw [e], SqL.of (by rw [← e2]; exact s _ _ h), q _ G H (Ext.refl s) rfl⟩
theorem rc_all : RC1 K (rAll K) (fun (xs : List Bool) => some (xs.all id)) := fun {G H v x z} s ⟨a, vs, e, h, l, rs⟩ hz Q q => by
  cases (show some _ = some z from hz)
  have e2 := rs.bls
  exact ⟨a, x, by rw [e], SqL.of (by rw [← e2]; exact s _ _ h), q _ G H (Ext.refl s) rfl⟩
theorem rc_any : RC1 K (rAny K) (fun (xs : List Bool) => some (xs.any id)) := fun {G H v x z} s ⟨a, vs, e, h, l, rs⟩ hz Q q => by
  cases (show some _ = some z from hz)
  have e2 := rs.bls
  exact ⟨a, x, by rw [e], SqL.of (by rw [← e2]; exact s _ _ h), q _ G H (Ext.refl s) rfl⟩
/-- the greatest, the least of some numbers -/
def maxO (xs : List Int) : Option Int := match xs with
  | [] => none
  | x :: r => some (r.foldl max x)
def minO (xs : List Int) : Option Int := match xs with
  | [] => none
  | x :: r => some (r.foldl min x)
theorem foldl_max : ∀ (r : List Int) (x : Int), (r.foldl max x = x ∨ r.foldl max x ∈ r) ∧ x ≤ r.foldl max x ∧ ∀ y ∈ r, y ≤ r.foldl max x
  | [], x => ⟨.inl rfl, Int.le_refl _, fun _ h => nomatch h⟩
  | z :: r, x => by
    obtain ⟨h1, h2, h3⟩ := foldl_max r (max x z)
    show ((z :: r).foldl max x = x ∨ _) ∧ _
    rw [List.foldl_cons]
    refine ⟨?_, by omega, fun y hy => ?_⟩
    · rcases h1 with h1 | h1
      · rw [h1]
        by_cases hx : z ≤ x
        · exact .inl (by omega)
        · right
          rw [show max x z = z by omega]
          exact List.mem_cons_self
      · exact .inr (List.mem_cons_of_mem _ h1)
    · rcases List.mem_cons.mp hy with e | hy
      · subst e
        omega
      · exact h3 y hy
theorem foldl_min : ∀ (r : List Int) (x : Int), (r.foldl min x = x ∨ r.foldl min x ∈ r) ∧ r.foldl min x ≤ x ∧ ∀ y ∈ r, r.foldl min x ≤ y
  | [], x => ⟨.inl rfl, Int.le_refl _, fun _ h => nomatch h⟩
  | z :: r, x => by
    obtain ⟨h1, h2, h3⟩ := foldl_min r (min x z)
    show ((z :: r).foldl min x = x ∨ _) ∧ _
    rw [List.foldl_cons]
    refine ⟨?_, by omega, fun y hy => ?_⟩
    · rcases h1 with h1 | h1
      · rw [h1]
        by_cases hx : x ≤ z
        · exact .inl (by omega)
        · right
          rw [show min x z = z by omega]
          exact List.mem_cons_self
      · exact .inr (List.mem_cons_of_mem _ h1)
    · rcases List.mem_cons.mp hy with e | hy
      · subst e
        omega
      · exact h3 y hy
theorem rc_max : RC1 K (rMax K) maxO := fun {G H v x z} s ⟨a, vs, e, h, l, rs⟩ hz Q q => by
  have e2 := rs.ints
  cases x with
  | nil => cases hz
  | cons y r =>
    cases (show some _ = some z from hz)
    obtain ⟨h1, h2, h3⟩ := foldl_max r y
    refine ⟨a, y :: r, by rw [e], SqL.of (by rw [← e2]; exact s _ _ h), Nat.succ_pos _, fun m hm hle => ?_⟩
    have em : m = r.foldl max y := by
      have x1 : r.foldl max y ≤ m := hle _ (by
        rcases h1 with h1 | h1
        · rw [h1]
          exact List.mem_cons_self
        · exact List.mem_cons_of_mem _ h1)
      have x2 : m ≤ r.foldl max y := by
        rcases List.mem_cons.mp hm with q | q
        · rw [q]
          exact h2
        · exact h3 m q
      omega
    rw [em]
    exact q _ G H (Ext.refl s) rfl
theorem rc_min : RC1 K (rMin K) minO := fun {G H v x z} s ⟨a, vs, e, h, l, rs⟩ hz Q q => by
  have e2 := rs.ints
  cases x with
  | nil => cases hz
  | cons y r =>
    cases (show some _ = some z from hz)
    obtain ⟨h1, h2, h3⟩ := foldl_min r y
    refine ⟨a, y :: r, by rw [e], SqL.of (by rw [← e2]; exact s _ _ h), Nat.succ_pos _, fun m hm hle => ?_⟩
    have em : m = r.foldl min y := by
      have x1 : m ≤ r.foldl min y := hle _ (by
        rcases h1 with h1 | h1
        · rw [h1]
          exact List.mem_cons_self
        · exact List.mem_cons_of_mem _ h1)
      have x2 : r.foldl min y ≤ m := by
        rcases List.mem_cons.mp hm with q | q
        · rw [q]
          exact h2
        · exact h3 m q
      omega
    rw [em]
    exact q _ G H (Ext.refl s) rfl
theorem rc_int : RC1 K (fun xs H Q => (∃ i, xs = [.int i] ∧ Q (.int i) H) ∨ ∃ k, xs = [.bl k] ∧ Q (.int (if k then 1 else 0)) H) (fun (x : Int) => some x) := fun {G H v x z} s h hz Q q => by
  cases (show some _ = some z from hz)
  exact .inl ⟨x, by rw [show v = .int x from h], q _ G H (Ext.refl s) rfl⟩
theorem rc_intb : RC1 K (fun xs H Q => (∃ i, xs = [.int i] ∧ Q (.int i) H) ∨ ∃ k, xs = [.bl k] ∧ Q (.int (if k then 1 else 0)) H) (fun (x : Bool) => some (if x then (1 : Int) else 0)) := fun {G H v x z} s h hz Q q => by
  cases (show some _ = some z from hz)
  exact .inr ⟨x, by rw [show v = .bl x from h], q _ G H (Ext.refl s) rfl⟩
theorem se_cb1 {r : List V → Hp → VK → Prop} {f : α → Option γ} (ha : SE K ta σ G H ma) (hr : RC1 K r f) : SE K (tCB r (tCons ta tNil)) σ G H (ma.bind fun x => f x) := fun G1 H1 e z hm Q q => by
  obtain ⟨x, hx, hm⟩ := bind_some hm
  refine ha G1 H1 e x hx _ fun v G2 H2 e2 hv => ?_
  exact hr e2.s hv hm Q fun u G3 H3 e3 hu => q u G3 H3 (e2.trans e3) hu
theorem se_cb1p {r : List V → Hp → VK → Prop} {f : α → Option γ} {x : α} (ha : SE K ta σ G H (some x)) (hr : RC1 K r f) : SE K (tCB r (tCons ta tNil)) σ G H (f x) := se_cb1 ha hr
theorem se_cb2 {r : List V → Hp → VK → Prop} (ha : SE K ta σ G H ma) (hb : SE K tb σ G H mb) (hr : RC2 K r f) : SE K (tCB r (tCons ta (tCons tb tNil))) σ G H (ma.bind fun x => mb.bind fun y => f x y) := fun G1 H1 e z hm Q q => by
  obtain ⟨x, hx, hm⟩ := bind_some hm
  obtain ⟨y, hy, hm⟩ := bind_some hm
  refine ha G1 H1 e x hx _ fun v G2 H2 e2 hv => ?_
  refine hb G2 H2 (e.trans e2) y hy _ fun w G3 H3 e3 hw => ?_
  exact hr e3.s (Rp.mono e3.g hv) hw hm Q fun u G4 H4 e4 hu => q u G4 H4 ((e2.trans e3).trans e4) hu
theorem se_cb2p {r : List V → Hp → VK → Prop} {x : α} {y : β} (ha : SE K ta σ G H (some x)) (hb : SE K tb σ G H (some y)) (hr : RC2 K r f) : SE K (tCB r (tCons ta (tCons tb tNil))) σ G H (f x y) := se_cb2 ha hb hr
/-- isinstance(x, T), T a built-in class -/
class RpTy (α : Type) [Rp α] where
  ty : String
  tyX : ∀ {K : PySem.W.Frag} {G H : Hp} {v : V} {x : α}, Vw G H → rep K G v x → TyX K H v (.type ty)
instance : RpTy Int := ⟨"int", fun _ h => by rw [show _ = V.int _ from h]; exact .base (.int _)⟩
instance : RpTy Bool := ⟨"bool", fun _ h => by rw [show _ = V.bl _ from h]; exact .base (.bl _)⟩
instance {α : Type} [Rp α] : RpTy (List α) := ⟨"list", fun s ⟨a, vs, e, h, _⟩ => by rw [e]; exact .base (.lst (s _ _ h))⟩
theorem ty_tup {a : Addr} {xs : List V} (h : SqT K H a xs) : TyX K H (.ref a) (.type "tuple") := by
  rcases h with (h | ⟨o, h⟩) | ⟨o, its, n, h, hc, _⟩
  · exact .base (.tup h)
  · exact .fTuple h
  · exact .kTuple h hc
instance {α β : Type} [Rp α] [Rp β] : RpTy (α × β) := ⟨"tuple", fun s ⟨a, _, _, e, h, _⟩ => by rw [e]; exact ty_tup (same_tup s h)⟩
instance {α β γ : Type} [Rp α] [Rp β] [Rp γ] : RpTy (T3 α β γ) := ⟨"tuple", fun s ⟨a, _, _, _, e, h, _⟩ => by rw [e]; exact ty_tup (same_tup s h)⟩
instance {α β γ δ : Type} [Rp α] [Rp β] [Rp γ] [Rp δ] : RpTy (T4 α β γ δ) := ⟨"tuple", fun s ⟨a, _, _, _, _, e, h, _⟩ => by rw [e]; exact ty_tup (same_tup s h)⟩
theorem se_isi [RpTy α] {T : String} {b : Bool} (h : SE K te σ G H ma) (hk : kitB (RpTy.ty α) T = some b) : SE K (tCB (rIsi K) (tCons te (tCons (tC (.ty T)) tNil))) σ G H (ma.bind fun _ => some b) := fun G1 H1 e z hm Q q => by
  obtain ⟨x, hx, hm⟩ := bind_some hm
  cases hm
  refine h G1 H1 e x hx _ fun v G2 H2 e2 hv => ?_
  exact ⟨v, .ty T, _, _, b, rfl, .ty T, RpTy.tyX e2.s hv, kit_ty hk, q _ G2 H2 e2 rfl⟩
theorem se_isip [RpTy α] {T : String} {b : Bool} {x : α} (h : SE K te σ G H (some x)) (hk : kitB (RpTy.ty α) T = some b) : SE K (tCB (rIsi K) (tCons te (tCons (tC (.ty T)) tNil))) σ G H (some b) := se_isi h hk
/-- .. of a value that may be None -/
theorem se_isiO [RpTy α] {T : String} {b : Bool} {m : Option (Option α)} (h : SE K te σ G H m) (hk : kitB (RpTy.ty α) T = some b) (hn : kitB "NoneType" T = some false) : SE K (tCB (rIsi K) (tCons te (tCons (tC (.ty T)) tNil))) σ G H (m.bind fun o => some (!o.isNone && b)) := fun G1 H1 e z hm Q q => by
  obtain ⟨o, ho, hm⟩ := bind_some hm
  cases hm
  refine h G1 H1 e o ho _ fun v G2 H2 e2 hv => ?_
  cases o with
  | none =>
    rw [show v = .non from hv]
    exact ⟨.non, .ty T, _, _, false, rfl, .ty T, .base .non, kit_ty hn, q _ G2 H2 e2 rfl⟩
  | some x => exact ⟨v, .ty T, _, _, b, rfl, .ty T, RpTy.tyX e2.s hv.1, kit_ty hk, q _ G2 H2 e2 (by rfl)⟩

end

end Mi

/-! MiY: calls, statements, loops, comprehensions. -/
namespace Mi
variable [Tbs]
open PySem L2
open Rp (rep)
theorem Own.up {α : Type} [Rp α] {K : PySem.W.Frag} {H0 H G1 H1 : Hp} {p : Addr} {ds : List α} (x : Own K H G1 H1 p ds) (s : HK H0 H) : Own K H0 G1 H1 p ds := ⟨s.free x.z, x.g, x.h⟩

/-! ### calls of defs -/
/-- what a call hands back: a value; a new list; a tuple of a new list and a value -/
def RV {ρ : Type} [Rp ρ] (K : PySem.W.Frag) (_ G' _ : Hp) (u : V) (r : ρ) : Prop := rep K G' u r
def RF {ρ : Type} [Rp ρ] (K : PySem.W.Frag) (H G' H' : Hp) (u : V) (r : List ρ) : Prop := ∃ p, u = .ref p ∧ Own K H G' H' p r
def RP {ρ τ : Type} [Rp ρ] [Rp τ] (K : PySem.W.Frag) (H G' H' : Hp) (u : V) (r : List ρ × τ) : Prop := ∃ t p y, u = .ref t ∧ SqT K G' t [.ref p, y] ∧ Own K H G' H' p r.1 ∧ rep K G' y r.2
def XE {ρ : Type} (RR : Hp → Hp → Hp → V → ρ → Prop) (te : TE) (σ : St) (G H : Hp) (m : Option ρ) : Prop :=
  ∀ G1 H1, Ext G H G1 H1 → ∀ r, m = some r → ∀ Q : VK, (∀ u G2 H2, Ext G1 H1 G2 H2 → RR H1 G2 H2 u r → Q u H2) → te σ H1 Q
theorem XE.se {ρ : Type} [Rp ρ] {K : PySem.W.Frag} {te : TE} {σ : St} {G H : Hp} {m : Option ρ} (h : XE (RV K) te σ G H m) : SE K te σ G H m := h
theorem SE.xe {ρ : Type} [Rp ρ] {K : PySem.W.Frag} {te : TE} {σ : St} {G H : Hp} {m : Option ρ} (h : SE K te σ G H m) : XE (RV K) te σ G H m := h
theorem XE.fe {ρ : Type} [Rp ρ] {K : PySem.W.Frag} {te : TE} {σ : St} {G H : Hp} {m : Option (List ρ)} (h : XE (RF K) te σ G H m) : FE K te σ G H m := fun G1 H1 e r hm Q q =>
  h G1 H1 e r hm Q fun u G2 H2 e2 ⟨p, eu, o⟩ => by
    rw [eu]
    exact q p G2 H2 e2 o
theorem FE.xe {ρ : Type} [Rp ρ] {K : PySem.W.Frag} {te : TE} {σ : St} {G H : Hp} {m : Option (List ρ)} (h : FE K te σ G H m) : XE (RF K) te σ G H m := fun G1 H1 e r hm Q q =>
  h G1 H1 e r hm Q fun p G2 H2 e2 o => q (.ref p) G2 H2 e2 ⟨p, rfl, o⟩
/-- seen as a value -/
theorem XE.pse {ρ τ : Type} [Rp ρ] [Rp τ] {K : PySem.W.Frag} {te : TE} {σ : St} {G H : Hp} {m : Option (List ρ × τ)} (h : XE (RP K) te σ G H m) : SE K te σ G H m := fun G1 H1 e r hm Q q =>
  h G1 H1 e r hm Q fun u G2 H2 e2 ⟨t, p, y, eu, ht, o, hy⟩ => by
    obtain ⟨vs, hp, l, rs⟩ := o.h
    rw [eu]
    exact q (.ref t) _ H2 (e2.show o.z o.g hp) ⟨t, .ref p, y, rfl, same_tup (same_new o.g) ht, ⟨p, vs, rfl, upd_same, l, rs.mono (same_new o.g)⟩, Rp.mono (same_new o.g) hy⟩
theorem XE.is {ρ : Type} {RR : Hp → Hp → Hp → V → ρ → Prop} {te : TE} {σ : St} {G H : Hp} {m m' : Option ρ} (h : XE RR te σ G H m) (e : m = m') : XE RR te σ G H m' := e ▸ h

def Sp0  {ρ : Type} (K : PySem.W.Frag) (RR : Hp → Hp → Hp → V → ρ → Prop) (f : Option ρ) : Sp := fun vs H Q _ => ∃ (G : Hp) (r : ρ), vs = [] ∧ Vw G H ∧ f = some r ∧ ∀ u G' H', Ext G H G' H' → RR H G' H' u r → Q u H'
theorem Sp0.len  {ρ : Type} {K : PySem.W.Frag} {RR : Hp → Hp → Hp → V → ρ → Prop} {f : Option ρ} {ps : List Str} (hp : ps.length = 0) : ∀ vs H Q E, Sp0 K RR f vs H Q E → vs.length = ps.length := by
  intro vs H Q E ⟨_, _, e, _⟩
  rw [e, hp]
  rfl
theorem xe_call0  {ρ : Type} {K : PySem.W.Frag} {RR : Hp → Hp → Hp → V → ρ → Prop}  {σ : St} {G H : Hp}   {f : Option ρ} {E : XK}  : XE RR (tCall (Sp0 K RR f) [] E tNil) σ G H f := fun G1 H1 e z hm Q q => by
  exact ⟨G1, z, rfl, e.s, hm, fun u G' H' eu hu => q u G' H' eu hu⟩
def Sp1 {α0 : Type} [Rp α0] {ρ : Type} (K : PySem.W.Frag) (RR : Hp → Hp → Hp → V → ρ → Prop) (f : α0 → Option ρ) : Sp := fun vs H Q _ => ∃ (G : Hp) (v0 : V) (x0 : α0) (r : ρ), vs = [v0] ∧ Vw G H ∧ rep K G v0 x0 ∧ f x0 = some r ∧ ∀ u G' H', Ext G H G' H' → RR H G' H' u r → Q u H'
theorem Sp1.len {α0 : Type} [Rp α0] {ρ : Type} {K : PySem.W.Frag} {RR : Hp → Hp → Hp → V → ρ → Prop} {f : α0 → Option ρ} {ps : List Str} (hp : ps.length = 1) : ∀ vs H Q E, Sp1 K RR f vs H Q E → vs.length = ps.length := by
  intro vs H Q E ⟨_, _, _, _, e, _⟩
  rw [e, hp]
  rfl
theorem xe_call1 {α0 : Type} [Rp α0] {ρ : Type} {K : PySem.W.Frag} {RR : Hp → Hp → Hp → V → ρ → Prop} (RRm : ∀ H1 H2, HK H1 H2 → ∀ G' H' u r, RR H2 G' H' u r → RR H1 G' H' u r) {σ : St} {G H : Hp} {t0 : TE} {m0 : Option α0} {f : α0 → Option ρ} {E : XK} (h0 : SE K t0 σ G H m0) : XE RR (tCall (Sp1 K RR f) [] E (tCons t0 tNil)) σ G H (m0.bind fun x0 => f x0) := fun G1 H1 e z hm Q q => by
  obtain ⟨x0, hx0, hm⟩ := bind_some hm
  refine h0 _ _ e x0 hx0 _ fun v0 G2 H2 e0 r0 => ?_
  exact ⟨_, v0, x0, z, rfl, e0.s, r0, hm, fun u G' H' eu hu => q u G' H' (e0.trans eu) (RRm _ _ (e0).h _ _ _ _ hu)⟩
theorem xe_call1p {α0 : Type} [Rp α0] {ρ : Type} {K : PySem.W.Frag} {RR : Hp → Hp → Hp → V → ρ → Prop} (RRm : ∀ H1 H2, HK H1 H2 → ∀ G' H' u r, RR H2 G' H' u r → RR H1 G' H' u r) {σ : St} {G H : Hp} {t0 : TE} {x0 : α0} {f : α0 → Option ρ} {E : XK} (h0 : SE K t0 σ G H (some x0)) : XE RR (tCall (Sp1 K RR f) [] E (tCons t0 tNil)) σ G H (f x0) := xe_call1 RRm h0
def Sp2 {α0 : Type} [Rp α0] {α1 : Type} [Rp α1] {ρ : Type} (K : PySem.W.Frag) (RR : Hp → Hp → Hp → V → ρ → Prop) (f : α0 → α1 → Option ρ) : Sp := fun vs H Q _ => ∃ (G : Hp) (v0 v1 : V) (x0 : α0) (x1 : α1) (r : ρ), vs = [v0, v1] ∧ Vw G H ∧ rep K G v0 x0 ∧ rep K G v1 x1 ∧ f x0 x1 = some r ∧ ∀ u G' H', Ext G H G' H' → RR H G' H' u r → Q u H'
theorem Sp2.len {α0 : Type} [Rp α0] {α1 : Type} [Rp α1] {ρ : Type} {K : PySem.W.Frag} {RR : Hp → Hp → Hp → V → ρ → Prop} {f : α0 → α1 → Option ρ} {ps : List Str} (hp : ps.length = 2) : ∀ vs H Q E, Sp2 K RR f vs H Q E → vs.length = ps.length := by
  intro vs H Q E ⟨_, _, _, _, _, _, e, _⟩
  rw [e, hp]
  rfl
theorem xe_call2 {α0 : Type} [Rp α0] {α1 : Type} [Rp α1] {ρ : Type} {K : PySem.W.Frag} {RR : Hp → Hp → Hp → V → ρ → Prop} (RRm : ∀ H1 H2, HK H1 H2 → ∀ G' H' u r, RR H2 G' H' u r → RR H1 G' H' u r) {σ : St} {G H : Hp} {t0 t1 : TE} {m0 : Option α0} {m1 : Option α1} {f : α0 → α1 → Option ρ} {E : XK} (h0 : SE K t0 σ G H m0) (h1 : SE K t1 σ G H m1) : XE RR (tCall (Sp2 K RR f) [] E (tCons t0 (tCons t1 tNil))) σ G H (m0.bind fun x0 => (m1.bind fun x1 => f x0 x1)) := fun G1 H1 e z hm Q q => by
  obtain ⟨x0, hx0, hm⟩ := bind_some hm
  obtain ⟨x1, hx1, hm⟩ := bind_some hm
  refine h0 _ _ e x0 hx0 _ fun v0 G2 H2 e0 r0 => ?_
  refine h1 _ _ (e.trans e0) x1 hx1 _ fun v1 G3 H3 e1 r1 => ?_
  exact ⟨_, v0, v1, x0, x1, z, rfl, e1.s, Rp.mono e1.g r0, r1, hm, fun u G' H' eu hu => q u G' H' ((e0.trans e1).trans eu) (RRm _ _ ((e0.trans e1)).h _ _ _ _ hu)⟩
theorem xe_call2p {α0 : Type} [Rp α0] {α1 : Type} [Rp α1] {ρ : Type} {K : PySem.W.Frag} {RR : Hp → Hp → Hp → V → ρ → Prop} (RRm : ∀ H1 H2, HK H1 H2 → ∀ G' H' u r, RR H2 G' H' u r → RR H1 G' H' u r) {σ : St} {G H : Hp} {t0 t1 : TE} {x0 : α0} {x1 : α1} {f : α0 → α1 → Option ρ} {E : XK} (h0 : SE K t0 σ G H (some x0)) (h1 : SE K t1 σ G H (some x1)) : XE RR (tCall (Sp2 K RR f) [] E (tCons t0 (tCons t1 tNil))) σ G H (f x0 x1) := xe_call2 RRm h0 h1
def Sp3 {α0 : Type} [Rp α0] {α1 : Type} [Rp α1] {α2 : Type} [Rp α2] {ρ : Type} (K : PySem.W.Frag) (RR : Hp → Hp → Hp → V → ρ → Prop) (f : α0 → α1 → α2 → Option ρ) : Sp := fun vs H Q _ => ∃ (G : Hp) (v0 v1 v2 : V) (x0 : α0) (x1 : α1) (x2 : α2) (r : ρ), vs = [v0, v1, v2] ∧ Vw G H ∧ rep K G v0 x0 ∧ rep K G v1 x1 ∧ rep K G v2 x2 ∧ f x0 x1 x2 = some r ∧ ∀ u G' H', Ext G H G' H' → RR H G' H' u r → Q u H'
theorem Sp3.len {α0 : Type} [Rp α0] {α1 : Type} [Rp α1] {α2 : Type} [Rp α2] {ρ : Type} {K : PySem.W.Frag} {RR : Hp → Hp → Hp → V → ρ → Prop} {f : α0 → α1 → α2 → Option ρ} {ps : List Str} (hp : ps.length = 3) : ∀ vs H Q E, Sp3 K RR f vs H Q E → vs.length = ps.length := by
  intro vs H Q E ⟨_, _, _, _, _, _, _, _, e, _⟩
  rw [e, hp]
  rfl
theorem xe_call3 {α0 : Type} [Rp α0] {α1 : Type} [Rp α1] {α2 : Type} [Rp α2] {ρ : Type} {K : PySem.W.Frag} {RR : Hp → Hp → Hp → V → ρ → Prop} (RRm : ∀ H1 H2, HK H1 H2 → ∀ G' H' u r, RR H2 G' H' u r → RR H1 G' H' u r) {σ : St} {G H : Hp} {t0 t1 t2 : TE} {m0 : Option α0} {m1 : Option α1} {m2 : Option α2} {f : α0 → α1 → α2 → Option ρ} {E : XK} (h0 : SE K t0 σ G H m0) (h1 : SE K t1 σ G H m1) (h2 : SE K t2 σ G H m2) : XE RR (tCall (Sp3 K RR f) [] E (tCons t0 (tCons t1 (tCons t2 tNil)))) σ G H (m0.bind fun x0 => (m1.bind fun x1 => (m2.bind fun x2 => f x0 x1 x2))) := fun G1 H1 e z hm Q q => by
  obtain ⟨x0, hx0, hm⟩ := bind_some hm
  obtain ⟨x1, hx1, hm⟩ := bind_some hm
  obtain ⟨x2, hx2, hm⟩ := bind_some hm
  refine h0 _ _ e x0 hx0 _ fun v0 G2 H2 e0 r0 => ?_
  refine h1 _ _ (e.trans e0) x1 hx1 _ fun v1 G3 H3 e1 r1 => ?_
  refine h2 _ _ ((e.trans e0).trans e1) x2 hx2 _ fun v2 G4 H4 e2 r2 => ?_
  exact ⟨_, v0, v1, v2, x0, x1, x2, z, rfl, e2.s, Rp.mono (e1.trans e2).g r0, Rp.mono e2.g r1, r2, hm, fun u G' H' eu hu => q u G' H' (((e0.trans e1).trans e2).trans eu) (RRm _ _ (((e0.trans e1).trans e2)).h _ _ _ _ hu)⟩
theorem xe_call3p {α0 : Type} [Rp α0] {α1 : Type} [Rp α1] {α2 : Type} [Rp α2] {ρ : Type} {K : PySem.W.Frag} {RR : Hp → Hp → Hp → V → ρ → Prop} (RRm : ∀ H1 H2, HK H1 H2 → ∀ G' H' u r, RR H2 G' H' u r → RR H1 G' H' u r) {σ : St} {G H : Hp} {t0 t1 t2 : TE} {x0 : α0} {x1 : α1} {x2 : α2} {f : α0 → α1 → α2 → Option ρ} {E : XK} (h0 : SE K t0 σ G H (some x0)) (h1 : SE K t1 σ G H (some x1)) (h2 : SE K t2 σ G H (some x2)) : XE RR (tCall (Sp3 K RR f) [] E (tCons t0 (tCons t1 (tCons t2 tNil)))) σ G H (f x0 x1 x2) := xe_call3 RRm h0 h1 h2
def Sp4 {α0 : Type} [Rp α0] {α1 : Type} [Rp α1] {α2 : Type} [Rp α2] {α3 : Type} [Rp α3] {ρ : Type} (K : PySem.W.Frag) (RR : Hp → Hp → Hp → V → ρ → Prop) (f : α0 → α1 → α2 → α3 → Option ρ) : Sp := fun vs H Q _ => ∃ (G : Hp) (v0 v1 v2 v3 : V) (x0 : α0) (x1 : α1) (x2 : α2) (x3 : α3) (r : ρ), vs = [v0, v1, v2, v3] ∧ Vw G H ∧ rep K G v0 x0 ∧ rep K G v1 x1 ∧ rep K G v2 x2 ∧ rep K G v3 x3 ∧ f x0 x1 x2 x3 = some r ∧ ∀ u G' H', Ext G H G' H' → RR H G' H' u r → Q u H'
theorem Sp4.len {α0 : Type} [Rp α0] {α1 : Type} [Rp α1] {α2 : Type} [Rp α2] {α3 : Type} [Rp α3] {ρ : Type} {K : PySem.W.Frag} {RR : Hp → Hp → Hp → V → ρ → Prop} {f : α0 → α1 → α2 → α3 → Option ρ} {ps : List Str} (hp : ps.length = 4) : ∀ vs H Q E, Sp4 K RR f vs H Q E → vs.length = ps.length := by
  intro vs H Q E ⟨_, _, _, _, _, _, _, _, _, _, e, _⟩
  rw [e, hp]
  rfl
theorem xe_call4 {α0 : Type} [Rp α0] {α1 : Type} [Rp α1] {α2 : Type} [Rp α2] {α3 : Type} [Rp α3] {ρ : Type} {K : PySem.W.Frag} {RR : Hp → Hp → Hp → V → ρ → Prop} (RRm : ∀ H1 H2, HK H1 H2 → ∀ G' H' u r, RR H2 G' H' u r → RR H1 G' H' u r) {σ : St} {G H : Hp} {t0 t1 t2 t3 : TE} {m0 : Option α0} {m1 : Option α1} {m2 : Option α2} {m3 : Option α3} {f : α0 → α1 → α2 → α3 → Option ρ} {E : XK} (h0 : SE K t0 σ G H m0) (h1 : SE K t1 σ G H m1) (h2 : SE K t2 σ G H m2) (h3 : SE K t3 σ G H m3) : XE RR (tCall (Sp4 K RR f) [] E (tCons t0 (tCons t1 (tCons t2 (tCons t3 tNil))))) σ G H (m0.bind fun x0 => (m1.bind fun x1 => (m2.bind fun x2 => (m3.bind fun x3 => f x0 x1 x2 x3)))) := fun G1 H1 e z hm Q q => by
  obtain ⟨x0, hx0, hm⟩ := bind_some hm
  obtain ⟨x1, hx1, hm⟩ := bind_some hm
  obtain ⟨x2, hx2, hm⟩ := bind_some hm
  obtain ⟨x3, hx3, hm⟩ := bind_some hm
  refine h0 _ _ e x0 hx0 _ fun v0 G2 H2 e0 r0 => ?_
  refine h1 _ _ (e.trans e0) x1 hx1 _ fun v1 G3 H3 e1 r1 => ?_
  refine h2 _ _ ((e.trans e0).trans e1) x2 hx2 _ fun v2 G4 H4 e2 r2 => ?_
  refine h3 _ _ (((e.trans e0).trans e1).trans e2) x3 hx3 _ fun v3 G5 H5 e3 r3 => ?_
  exact ⟨_, v0, v1, v2, v3, x0, x1, x2, x3, z, rfl, e3.s, Rp.mono ((e1.trans e2).trans e3).g r0, Rp.mono (e2.trans e3).g r1, Rp.mono e3.g r2, r3, hm, fun u G' H' eu hu => q u G' H' ((((e0.trans e1).trans e2).trans e3).trans eu) (RRm _ _ ((((e0.trans e1).trans e2).trans e3)).h _ _ _ _ hu)⟩
theorem xe_call4p {α0 : Type} [Rp α0] {α1 : Type} [Rp α1] {α2 : Type} [Rp α2] {α3 : Type} [Rp α3] {ρ : Type} {K : PySem.W.Frag} {RR : Hp → Hp → Hp → V → ρ → Prop} (RRm : ∀ H1 H2, HK H1 H2 → ∀ G' H' u r, RR H2 G' H' u r → RR H1 G' H' u r) {σ : St} {G H : Hp} {t0 t1 t2 t3 : TE} {x0 : α0} {x1 : α1} {x2 : α2} {x3 : α3} {f : α0 → α1 → α2 → α3 → Option ρ} {E : XK} (h0 : SE K t0 σ G H (some x0)) (h1 : SE K t1 σ G H (some x1)) (h2 : SE K t2 σ G H (some x2)) (h3 : SE K t3 σ G H (some x3)) : XE RR (tCall (Sp4 K RR f) [] E (tCons t0 (tCons t1 (tCons t2 (tCons t3 tNil))))) σ G H (f x0 x1 x2 x3) := xe_call4 RRm h0 h1 h2 h3
def Sp5 {α0 : Type} [Rp α0] {α1 : Type} [Rp α1] {α2 : Type} [Rp α2] {α3 : Type} [Rp α3] {α4 : Type} [Rp α4] {ρ : Type} (K : PySem.W.Frag) (RR : Hp → Hp → Hp → V → ρ → Prop) (f : α0 → α1 → α2 → α3 → α4 → Option ρ) : Sp := fun vs H Q _ => ∃ (G : Hp) (v0 v1 v2 v3 v4 : V) (x0 : α0) (x1 : α1) (x2 : α2) (x3 : α3) (x4 : α4) (r : ρ), vs = [v0, v1, v2, v3, v4] ∧ Vw G H ∧ rep K G v0 x0 ∧ rep K G v1 x1 ∧ rep K G v2 x2 ∧ rep K G v3 x3 ∧ rep K G v4 x4 ∧ f x0 x1 x2 x3 x4 = some r ∧ ∀ u G' H', Ext G H G' H' → RR H G' H' u r → Q u H'
theorem Sp5.len {α0 : Type} [Rp α0] {α1 : Type} [Rp α1] {α2 : Type} [Rp α2] {α3 : Type} [Rp α3] {α4 : Type} [Rp α4] {ρ : Type} {K : PySem.W.Frag} {RR : Hp → Hp → Hp → V → ρ → Prop} {f : α0 → α1 → α2 → α3 → α4 → Option ρ} {ps : List Str} (hp : ps.length = 5) : ∀ vs H Q E, Sp5 K RR f vs H Q E → vs.length = ps.length := by
  intro vs H Q E ⟨_, _, _, _, _, _, _, _, _, _, _, _, e, _⟩
  rw [e, hp]
  rfl
theorem xe_call5 {α0 : Type} [Rp α0] {α1 : Type} [Rp α1] {α2 : Type} [Rp α2] {α3 : Type} [Rp α3] {α4 : Type} [Rp α4] {ρ : Type} {K : PySem.W.Frag} {RR : Hp → Hp → Hp → V → ρ → Prop} (RRm : ∀ H1 H2, HK H1 H2 → ∀ G' H' u r, RR H2 G' H' u r → RR H1 G' H' u r) {σ : St} {G H : Hp} {t0 t1 t2 t3 t4 : TE} {m0 : Option α0} {m1 : Option α1} {m2 : Option α2} {m3 : Option α3} {m4 : Option α4} {f : α0 → α1 → α2 → α3 → α4 → Option ρ} {E : XK} (h0 : SE K t0 σ G H m0) (h1 : SE K t1 σ G H m1) (h2 : SE K t2 σ G H m2) (h3 : SE K t3 σ G H m3) (h4 : SE K t4 σ G H m4) : XE RR (tCall (Sp5 K RR f) [] E (tCons t0 (tCons t1 (tCons t2 (tCons t3 (tCons t4 tNil)))))) σ G H (m0.bind fun x0 => (m1.bind fun x1 => (m2.bind fun x2 => (m3.bind fun x3 => (m4.bind fun x4 => f x0 x1 x2 x3 x4))))) := fun G1 H1 e z hm Q q => by
  obtain ⟨x0, hx0, hm⟩ := bind_some hm
  obtain ⟨x1, hx1, hm⟩ := bind_some hm
  obtain ⟨x2, hx2, hm⟩ := bind_some hm
  obtain ⟨x3, hx3, hm⟩ := bind_some hm
  obtain ⟨x4, hx4, hm⟩ := bind_some hm
  refine h0 _ _ e x0 hx0 _ fun v0 G2 H2 e0 r0 => ?_
  refine h1 _ _ (e.trans e0) x1 hx1 _ fun v1 G3 H3 e1 r1 => ?_
  refine h2 _ _ ((e.trans e0).trans e1) x2 hx2 _ fun v2 G4 H4 e2 r2 => ?_
  refine h3 _ _ (((e.trans e0).trans e1).trans e2) x3 hx3 _ fun v3 G5 H5 e3 r3 => ?_
  refine h4 _ _ ((((e.trans e0).trans e1).trans e2).trans e3) x4 hx4 _ fun v4 G6 H6 e4 r4 => ?_
  exact ⟨_, v0, v1, v2, v3, v4, x0, x1, x2, x3, x4, z, rfl, e4.s, Rp.mono (((e1.trans e2).trans e3).trans e4).g r0, Rp.mono ((e2.trans e3).trans e4).g r1, Rp.mono (e3.trans e4).g r2, Rp.mono e4.g r3, r4, hm, fun u G' H' eu hu => q u G' H' (((((e0.trans e1).trans e2).trans e3).trans e4).trans eu) (RRm _ _ (((((e0.trans e1).trans e2).trans e3).trans e4)).h _ _ _ _ hu)⟩
theorem xe_call5p {α0 : Type} [Rp α0] {α1 : Type} [Rp α1] {α2 : Type} [Rp α2] {α3 : Type} [Rp α3] {α4 : Type} [Rp α4] {ρ : Type} {K : PySem.W.Frag} {RR : Hp → Hp → Hp → V → ρ → Prop} (RRm : ∀ H1 H2, HK H1 H2 → ∀ G' H' u r, RR H2 G' H' u r → RR H1 G' H' u r) {σ : St} {G H : Hp} {t0 t1 t2 t3 t4 : TE} {x0 : α0} {x1 : α1} {x2 : α2} {x3 : α3} {x4 : α4} {f : α0 → α1 → α2 → α3 → α4 → Option ρ} {E : XK} (h0 : SE K t0 σ G H (some x0)) (h1 : SE K t1 σ G H (some x1)) (h2 : SE K t2 σ G H (some x2)) (h3 : SE K t3 σ G H (some x3)) (h4 : SE K t4 σ G H (some x4)) : XE RR (tCall (Sp5 K RR f) [] E (tCons t0 (tCons t1 (tCons t2 (tCons t3 (tCons t4 tNil)))))) σ G H (f x0 x1 x2 x3 x4) := xe_call5 RRm h0 h1 h2 h3 h4
def Sp6 {α0 : Type} [Rp α0] {α1 : Type} [Rp α1] {α2 : Type} [Rp α2] {α3 : Type} [Rp α3] {α4 : Type} [Rp α4] {α5 : Type} [Rp α5] {ρ : Type} (K : PySem.W.Frag) (RR : Hp → Hp → Hp → V → ρ → Prop) (f : α0 → α1 → α2 → α3 → α4 → α5 → Option ρ) : Sp := fun vs H Q _ => ∃ (G : Hp) (v0 v1 v2 v3 v4 v5 : V) (x0 : α0) (x1 : α1) (x2 : α2) (x3 : α3) (x4 : α4) (x5 : α5) (r : ρ), vs = [v0, v1, v2, v3, v4, v5] ∧ Vw G H ∧ rep K G v0 x0 ∧ rep K G v1 x1 ∧ rep K G v2 x2 ∧ rep K G v3 x3 ∧ rep K G v4 x4 ∧ rep K G v5 x5 ∧ f x0 x1 x2 x3 x4 x5 = some r ∧ ∀ u G' H', Ext G H G' H' → RR H G' H' u r → Q u H'
theorem Sp6.len {α0 : Type} [Rp α0] {α1 : Type} [Rp α1] {α2 : Type} [Rp α2] {α3 : Type} [Rp α3] {α4 : Type} [Rp α4] {α5 : Type} [Rp α5] {ρ : Type} {K : PySem.W.Frag} {RR : Hp → Hp → Hp → V → ρ → Prop} {f : α0 → α1 → α2 → α3 → α4 → α5 → Option ρ} {ps : List Str} (hp : ps.length = 6) : ∀ vs H Q E, Sp6 K RR f vs H Q E → vs.length = ps.length := by
  intro vs H Q E ⟨_, _, _, _, _, _, _, _, _, _, _, _, _, _, e, _⟩
  rw [e, hp]
  rfl
theorem xe_call6 {α0 : Type} [Rp α0] {α1 : Type} [Rp α1] {α2 : Type} [Rp α2] {α3 : Type} [Rp α3] {α4 : Type} [Rp α4] {α5 : Type} [Rp α5] {ρ : Type} {K : PySem.W.Frag} {RR : Hp → Hp → Hp → V → ρ → Prop} (RRm : ∀ H1 H2, HK H1 H2 → ∀ G' H' u r, RR H2 G' H' u r → RR H1 G' H' u r) {σ : St} {G H : Hp} {t0 t1 t2 t3 t4 t5 : TE} {m0 : Option α0} {m1 : Option α1} {m2 : Option α2} {m3 : Option α3} {m4 : Option α4} {m5 : Option α5} {f : α0 → α1 → α2 → α3 → α4 → α5 → Option ρ} {E : XK} (h0 : SE K t0 σ G H m0) (h1 : SE K t1 σ G H m1) (h2 : SE K t2 σ G H m2) (h3 : SE K t3 σ G H m3) (h4 : SE K t4 σ G H m4) (h5 : SE K t5 σ G H m5) : XE RR (tCall (Sp6 K RR f) [] E (tCons t0 (tCons t1 (tCons t2 (tCons t3 (tCons t4 (tCons t5 tNil))))))) σ G H (m0.bind fun x0 => (m1.bind fun x1 => (m2.bind fun x2 => (m3.bind fun x3 => (m4.bind fun x4 => (m5.bind fun x5 => f x0 x1 x2 x3 x4 x5)))))) := fun G1 H1 e z hm Q q => by
  obtain ⟨x0, hx0, hm⟩ := bind_some hm
  obtain ⟨x1, hx1, hm⟩ := bind_some hm
  obtain ⟨x2, hx2, hm⟩ := bind_some hm
  obtain ⟨x3, hx3, hm⟩ := bind_some hm
  obtain ⟨x4, hx4, hm⟩ := bind_some hm
  obtain ⟨x5, hx5, hm⟩ := bind_some hm
  refine h0 _ _ e x0 hx0 _ fun v0 G2 H2 e0 r0 => ?_
  refine h1 _ _ (e.trans e0) x1 hx1 _ fun v1 G3 H3 e1 r1 => ?_
  refine h2 _ _ ((e.trans e0).trans e1) x2 hx2 _ fun v2 G4 H4 e2 r2 => ?_
  refine h3 _ _ (((e.trans e0).trans e1).trans e2) x3 hx3 _ fun v3 G5 H5 e3 r3 => ?_
  refine h4 _ _ ((((e.trans e0).trans e1).trans e2).trans e3) x4 hx4 _ fun v4 G6 H6 e4 r4 => ?_
  refine h5 _ _ (((((e.trans e0).trans e1).trans e2).trans e3).trans e4) x5 hx5 _ fun v5 G7 H7 e5 r5 => ?_
  exact ⟨_, v0, v1, v2, v3, v4, v5, x0, x1, x2, x3, x4, x5, z, rfl, e5.s, Rp.mono ((((e1.trans e2).trans e3).trans e4).trans e5).g r0, Rp.mono (((e2.trans e3).trans e4).trans e5).g r1, Rp.mono ((e3.trans e4).trans e5).g r2, Rp.mono (e4.trans e5).g r3, Rp.mono e5.g r4, r5, hm, fun u G' H' eu hu => q u G' H' ((((((e0.trans e1).trans e2).trans e3).trans e4).trans e5).trans eu) (RRm _ _ ((((((e0.trans e1).trans e2).trans e3).trans e4).trans e5)).h _ _ _ _ hu)⟩
theorem xe_call6p {α0 : Type} [Rp α0] {α1 : Type} [Rp α1] {α2 : Type} [Rp α2] {α3 : Type} [Rp α3] {α4 : Type} [Rp α4] {α5 : Type} [Rp α5] {ρ : Type} {K : PySem.W.Frag} {RR : Hp → Hp → Hp → V → ρ → Prop} (RRm : ∀ H1 H2, HK H1 H2 → ∀ G' H' u r, RR H2 G' H' u r → RR H1 G' H' u r) {σ : St} {G H : Hp} {t0 t1 t2 t3 t4 t5 : TE} {x0 : α0} {x1 : α1} {x2 : α2} {x3 : α3} {x4 : α4} {x5 : α5} {f : α0 → α1 → α2 → α3 → α4 → α5 → Option ρ} {E : XK} (h0 : SE K t0 σ G H (some x0)) (h1 : SE K t1 σ G H (some x1)) (h2 : SE K t2 σ G H (some x2)) (h3 : SE K t3 σ G H (some x3)) (h4 : SE K t4 σ G H (some x4)) (h5 : SE K t5 σ G H (some x5)) : XE RR (tCall (Sp6 K RR f) [] E (tCons t0 (tCons t1 (tCons t2 (tCons t3 (tCons t4 (tCons t5 tNil))))))) σ G H (f x0 x1 x2 x3 x4 x5) := xe_call6 RRm h0 h1 h2 h3 h4 h5
def Sp7 {α0 : Type} [Rp α0] {α1 : Type} [Rp α1] {α2 : Type} [Rp α2] {α3 : Type} [Rp α3] {α4 : Type} [Rp α4] {α5 : Type} [Rp α5] {α6 : Type} [Rp α6] {ρ : Type} (K : PySem.W.Frag) (RR : Hp → Hp → Hp → V → ρ → Prop) (f : α0 → α1 → α2 → α3 → α4 → α5 → α6 → Option ρ) : Sp := fun vs H Q _ => ∃ (G : Hp) (v0 v1 v2 v3 v4 v5 v6 : V) (x0 : α0) (x1 : α1) (x2 : α2) (x3 : α3) (x4 : α4) (x5 : α5) (x6 : α6) (r : ρ), vs = [v0, v1, v2, v3, v4, v5, v6] ∧ Vw G H ∧ rep K G v0 x0 ∧ rep K G v1 x1 ∧ rep K G v2 x2 ∧ rep K G v3 x3 ∧ rep K G v4 x4 ∧ rep K G v5 x5 ∧ rep K G v6 x6 ∧ f x0 x1 x2 x3 x4 x5 x6 = some r ∧ ∀ u G' H', Ext G H G' H' → RR H G' H' u r → Q u H'
theorem Sp7.len {α0 : Type} [Rp α0] {α1 : Type} [Rp α1] {α2 : Type} [Rp α2] {α3 : Type} [Rp α3] {α4 : Type} [Rp α4] {α5 : Type} [Rp α5] {α6 : Type} [Rp α6] {ρ : Type} {K : PySem.W.Frag} {RR : Hp → Hp → Hp → V → ρ → Prop} {f : α0 → α1 → α2 → α3 → α4 → α5 → α6 → Option ρ} {ps : List Str} (hp : ps.length = 7) : ∀ vs H Q E, Sp7 K RR f vs H Q E → vs.length = ps.length := by
  intro vs H Q E ⟨_, _, _, _, _, _, _, _, _, _, _, _, _, _, _, _, e, _⟩
  rw [e, hp]
  rfl
theorem xe_call7 {α0 : Type} [Rp α0] {α1 : Type} [Rp α1] {α2 : Type} [Rp α2] {α3 : Type} [Rp α3] {α4 : Type} [Rp α4] {α5 : Type} [Rp α5] {α6 : Type} [Rp α6] {ρ : Type} {K : PySem.W.Frag} {RR : Hp → Hp → Hp → V → ρ → Prop} (RRm : ∀ H1 H2, HK H1 H2 → ∀ G' H' u r, RR H2 G' H' u r → RR H1 G' H' u r) {σ : St} {G H : Hp} {t0 t1 t2 t3 t4 t5 t6 : TE} {m0 : Option α0} {m1 : Option α1} {m2 : Option α2} {m3 : Option α3} {m4 : Option α4} {m5 : Option α5} {m6 : Option α6} {f : α0 → α1 → α2 → α3 → α4 → α5 → α6 → Option ρ} {E : XK} (h0 : SE K t0 σ G H m0) (h1 : SE K t1 σ G H m1) (h2 : SE K t2 σ G H m2) (h3 : SE K t3 σ G H m3) (h4 : SE K t4 σ G H m4) (h5 : SE K t5 σ G H m5) (h6 : SE K t6 σ G H m6) : XE RR (tCall (Sp7 K RR f) [] E (tCons t0 (tCons t1 (tCons t2 (tCons t3 (tCons t4 (tCons t5 (tCons t6 tNil)))))))) σ G H (m0.bind fun x0 => (m1.bind fun x1 => (m2.bind fun x2 => (m3.bind fun x3 => (m4.bind fun x4 => (m5.bind fun x5 => (m6.bind fun x6 => f x0 x1 x2 x3 x4 x5 x6))))))) := fun G1 H1 e z hm Q q => by
  obtain ⟨x0, hx0, hm⟩ := bind_some hm
  obtain ⟨x1, hx1, hm⟩ := bind_some hm
  obtain ⟨x2, hx2, hm⟩ := bind_some hm
  obtain ⟨x3, hx3, hm⟩ := bind_some hm
  obtain ⟨x4, hx4, hm⟩ := bind_some hm
  obtain ⟨x5, hx5, hm⟩ := bind_some hm
  obtain ⟨x6, hx6, hm⟩ := bind_some hm
  refine h0 _ _ e x0 hx0 _ fun v0 G2 H2 e0 r0 => ?_
  refine h1 _ _ (e.trans e0) x1 hx1 _ fun v1 G3 H3 e1 r1 => ?_
  refine h2 _ _ ((e.trans e0).trans e1) x2 hx2 _ fun v2 G4 H4 e2 r2 => ?_
  refine h3 _ _ (((e.trans e0).trans e1).trans e2) x3 hx3 _ fun v3 G5 H5 e3 r3 => ?_
  refine h4 _ _ ((((e.trans e0).trans e1).trans e2).trans e3) x4 hx4 _ fun v4 G6 H6 e4 r4 => ?_
  refine h5 _ _ (((((e.trans e0).trans e1).trans e2).trans e3).trans e4) x5 hx5 _ fun v5 G7 H7 e5 r5 => ?_
  refine h6 _ _ ((((((e.trans e0).trans e1).trans e2).trans e3).trans e4).trans e5) x6 hx6 _ fun v6 G8 H8 e6 r6 => ?_
  exact ⟨_, v0, v1, v2, v3, v4, v5, v6, x0, x1, x2, x3, x4, x5, x6, z, rfl, e6.s, Rp.mono (((((e1.trans e2).trans e3).trans e4).trans e5).trans e6).g r0, Rp.mono ((((e2.trans e3).trans e4).trans e5).trans e6).g r1, Rp.mono (((e3.trans e4).trans e5).trans e6).g r2, Rp.mono ((e4.trans e5).trans e6).g r3, Rp.mono (e5.trans e6).g r4, Rp.mono e6.g r5, r6, hm, fun u G' H' eu hu => q u G' H' (((((((e0.trans e1).trans e2).trans e3).trans e4).trans e5).trans e6).trans eu) (RRm _ _ (((((((e0.trans e1).trans e2).trans e3).trans e4).trans e5).trans e6)).h _ _ _ _ hu)⟩
theorem xe_call7p {α0 : Type} [Rp α0] {α1 : Type} [Rp α1] {α2 : Type} [Rp α2] {α3 : Type} [Rp α3] {α4 : Type} [Rp α4] {α5 : Type} [Rp α5] {α6 : Type} [Rp α6] {ρ : Type} {K : PySem.W.Frag} {RR : Hp → Hp → Hp → V → ρ → Prop} (RRm : ∀ H1 H2, HK H1 H2 → ∀ G' H' u r, RR H2 G' H' u r → RR H1 G' H' u r) {σ : St} {G H : Hp} {t0 t1 t2 t3 t4 t5 t6 : TE} {x0 : α0} {x1 : α1} {x2 : α2} {x3 : α3} {x4 : α4} {x5 : α5} {x6 : α6} {f : α0 → α1 → α2 → α3 → α4 → α5 → α6 → Option ρ} {E : XK} (h0 : SE K t0 σ G H (some x0)) (h1 : SE K t1 σ G H (some x1)) (h2 : SE K t2 σ G H (some x2)) (h3 : SE K t3 σ G H (some x3)) (h4 : SE K t4 σ G H (some x4)) (h5 : SE K t5 σ G H (some x5)) (h6 : SE K t6 σ G H (some x6)) : XE RR (tCall (Sp7 K RR f) [] E (tCons t0 (tCons t1 (tCons t2 (tCons t3 (tCons t4 (tCons t5 (tCons t6 tNil)))))))) σ G H (f x0 x1 x2 x3 x4 x5 x6) := xe_call7 RRm h0 h1 h2 h3 h4 h5 h6
def Sp8 {α0 : Type} [Rp α0] {α1 : Type} [Rp α1] {α2 : Type} [Rp α2] {α3 : Type} [Rp α3] {α4 : Type} [Rp α4] {α5 : Type} [Rp α5] {α6 : Type} [Rp α6] {α7 : Type} [Rp α7] {ρ : Type} (K : PySem.W.Frag) (RR : Hp → Hp → Hp → V → ρ → Prop) (f : α0 → α1 → α2 → α3 → α4 → α5 → α6 → α7 → Option ρ) : Sp := fun vs H Q _ => ∃ (G : Hp) (v0 v1 v2 v3 v4 v5 v6 v7 : V) (x0 : α0) (x1 : α1) (x2 : α2) (x3 : α3) (x4 : α4) (x5 : α5) (x6 : α6) (x7 : α7) (r : ρ), vs = [v0, v1, v2, v3, v4, v5, v6, v7] ∧ Vw G H ∧ rep K G v0 x0 ∧ rep K G v1 x1 ∧ rep K G v2 x2 ∧ rep K G v3 x3 ∧ rep K G v4 x4 ∧ rep K G v5 x5 ∧ rep K G v6 x6 ∧ rep K G v7 x7 ∧ f x0 x1 x2 x3 x4 x5 x6 x7 = some r ∧ ∀ u G' H', Ext G H G' H' → RR H G' H' u r → Q u H'
theorem Sp8.len {α0 : Type} [Rp α0] {α1 : Type} [Rp α1] {α2 : Type} [Rp α2] {α3 : Type} [Rp α3] {α4 : Type} [Rp α4] {α5 : Type} [Rp α5] {α6 : Type} [Rp α6] {α7 : Type} [Rp α7] {ρ : Type} {K : PySem.W.Frag} {RR : Hp → Hp → Hp → V → ρ → Prop} {f : α0 → α1 → α2 → α3 → α4 → α5 → α6 → α7 → Option ρ} {ps : List Str} (hp : ps.length = 8) : ∀ vs H Q E, Sp8 K RR f vs H Q E → vs.length = ps.length := by
  intro vs H Q E ⟨_, _, _, _, _, _, _, _, _, _, _, _, _, _, _, _, _, _, e, _⟩
  rw [e, hp]
  rfl
theorem xe_call8 {α0 : Type} [Rp α0] {α1 : Type} [Rp α1] {α2 : Type} [Rp α2] {α3 : Type} [Rp α3] {α4 : Type} [Rp α4] {α5 : Type} [Rp α5] {α6 : Type} [Rp α6] {α7 : Type} [Rp α7] {ρ : Type} {K : PySem.W.Frag} {RR : Hp → Hp → Hp → V → ρ → Prop} (RRm : ∀ H1 H2, HK H1 H2 → ∀ G' H' u r, RR H2 G' H' u r → RR H1 G' H' u r) {σ : St} {G H : Hp} {t0 t1 t2 t3 t4 t5 t6 t7 : TE} {m0 : Option α0} {m1 : Option α1} {m2 : Option α2} {m3 : Option α3} {m4 : Option α4} {m5 : Option α5} {m6 : Option α6} {m7 : Option α7} {f : α0 → α1 → α2 → α3 → α4 → α5 → α6 → α7 → Option ρ} {E : XK} (h0 : SE K t0 σ G H m0) (h1 : SE K t1 σ G H m1) (h2 : SE K t2 σ G H m2) (h3 : SE K t3 σ G H m3) (h4 : SE K t4 σ G H m4) (h5 : SE K t5 σ G H m5) (h6 : SE K t6 σ G H m6) (h7 : SE K t7 σ G H m7) : XE RR (tCall (Sp8 K RR f) [] E (tCons t0 (tCons t1 (tCons t2 (tCons t3 (tCons t4 (tCons t5 (tCons t6 (tCons t7 tNil))))))))) σ G H (m0.bind fun x0 => (m1.bind fun x1 => (m2.bind fun x2 => (m3.bind fun x3 => (m4.bind fun x4 => (m5.bind fun x5 => (m6.bind fun x6 => (m7.bind fun x7 => f x0 x1 x2 x3 x4 x5 x6 x7)))))))) := fun G1 H1 e z hm Q q => by
  obtain ⟨x0, hx0, hm⟩ := bind_some hm
  obtain ⟨x1, hx1, hm⟩ := bind_some hm
  obtain ⟨x2, hx2, hm⟩ := bind_some hm
  obtain ⟨x3, hx3, hm⟩ := bind_some hm
  obtain ⟨x4, hx4, hm⟩ := bind_some hm
  obtain ⟨x5, hx5, hm⟩ := bind_some hm
  obtain ⟨x6, hx6, hm⟩ := bind_some hm
  obtain ⟨x7, hx7, hm⟩ := bind_some hm
  refine h0 _ _ e x0 hx0 _ fun v0 G2 H2 e0 r0 => ?_
  refine h1 _ _ (e.trans e0) x1 hx1 _ fun v1 G3 H3 e1 r1 => ?_
  refine h2 _ _ ((e.trans e0).trans e1) x2 hx2 _ fun v2 G4 H4 e2 r2 => ?_
  refine h3 _ _ (((e.trans e0).trans e1).trans e2) x3 hx3 _ fun v3 G5 H5 e3 r3 => ?_
  refine h4 _ _ ((((e.trans e0).trans e1).trans e2).trans e3) x4 hx4 _ fun v4 G6 H6 e4 r4 => ?_
  refine h5 _ _ (((((e.trans e0).trans e1).trans e2).trans e3).trans e4) x5 hx5 _ fun v5 G7 H7 e5 r5 => ?_
  refine h6 _ _ ((((((e.trans e0).trans e1).trans e2).trans e3).trans e4).trans e5) x6 hx6 _ fun v6 G8 H8 e6 r6 => ?_
  refine h7 _ _ (((((((e.trans e0).trans e1).trans e2).trans e3).trans e4).trans e5).trans e6) x7 hx7 _ fun v7 G9 H9 e7 r7 => ?_
  exact ⟨_, v0, v1, v2, v3, v4, v5, v6, v7, x0, x1, x2, x3, x4, x5, x6, x7, z, rfl, e7.s, Rp.mono ((((((e1.trans e2).trans e3).trans e4).trans e5).trans e6).trans e7).g r0, Rp.mono (((((e2.trans e3).trans e4).trans e5).trans e6).trans e7).g r1, Rp.mono ((((e3.trans e4).trans e5).trans e6).trans e7).g r2, Rp.mono (((e4.trans e5).trans e6).trans e7).g r3, Rp.mono ((e5.trans e6).trans e7).g r4, Rp.mono (e6.trans e7).g r5, Rp.mono e7.g r6, r7, hm, fun u G' H' eu hu => q u G' H' ((((((((e0.trans e1).trans e2).trans e3).trans e4).trans e5).trans e6).trans e7).trans eu) (RRm _ _ ((((((((e0.trans e1).trans e2).trans e3).trans e4).trans e5).trans e6).trans e7)).h _ _ _ _ hu)⟩
theorem xe_call8p {α0 : Type} [Rp α0] {α1 : Type} [Rp α1] {α2 : Type} [Rp α2] {α3 : Type} [Rp α3] {α4 : Type} [Rp α4] {α5 : Type} [Rp α5] {α6 : Type} [Rp α6] {α7 : Type} [Rp α7] {ρ : Type} {K : PySem.W.Frag} {RR : Hp → Hp → Hp → V → ρ → Prop} (RRm : ∀ H1 H2, HK H1 H2 → ∀ G' H' u r, RR H2 G' H' u r → RR H1 G' H' u r) {σ : St} {G H : Hp} {t0 t1 t2 t3 t4 t5 t6 t7 : TE} {x0 : α0} {x1 : α1} {x2 : α2} {x3 : α3} {x4 : α4} {x5 : α5} {x6 : α6} {x7 : α7} {f : α0 → α1 → α2 → α3 → α4 → α5 → α6 → α7 → Option ρ} {E : XK} (h0 : SE K t0 σ G H (some x0)) (h1 : SE K t1 σ G H (some x1)) (h2 : SE K t2 σ G H (some x2)) (h3 : SE K t3 σ G H (some x3)) (h4 : SE K t4 σ G H (some x4)) (h5 : SE K t5 σ G H (some x5)) (h6 : SE K t6 σ G H (some x6)) (h7 : SE K t7 σ G H (some x7)) : XE RR (tCall (Sp8 K RR f) [] E (tCons t0 (tCons t1 (tCons t2 (tCons t3 (tCons t4 (tCons t5 (tCons t6 (tCons t7 tNil))))))))) σ G H (f x0 x1 x2 x3 x4 x5 x6 x7) := xe_call8 RRm h0 h1 h2 h3 h4 h5 h6 h7

theorem rvm {ρ : Type} [Rp ρ] {K : PySem.W.Frag} : ∀ H1 H2, HK H1 H2 → ∀ G' H' u (r : ρ), RV K H2 G' H' u r → RV K H1 G' H' u r := fun _ _ _ _ _ _ _ h => h
theorem rfm {ρ : Type} [Rp ρ] {K : PySem.W.Frag} : ∀ H1 H2, HK H1 H2 → ∀ G' H' u (r : List ρ), RF K H2 G' H' u r → RF K H1 G' H' u r := fun _ _ s _ _ _ _ ⟨p, e, o⟩ => ⟨p, e, o.up s⟩
theorem rpm {ρ τ : Type} [Rp ρ] [Rp τ] {K : PySem.W.Frag} : ∀ H1 H2, HK H1 H2 → ∀ G' H' u (r : List ρ × τ), RP K H2 G' H' u r → RP K H1 G' H' u r := fun _ _ s _ _ _ _ ⟨t, p, y, e, h, o, hy⟩ => ⟨t, p, y, e, h, o.up s, hy⟩

/-! ### statements -/
section
variable {α β γ δ ρ S R : Type} [Rp α] [Rp β] [Rp γ] [Rp δ]
variable {K : PySem.W.Frag} {σ : St} {G0 H0 G H G1 H1 Gs : Hp} {ta tb te tl : TE} {tc tt : TT} {t u : TS} {ma : Option α} {mb : Option β} {i j l : Nat} {v : V} {d : α} {D : Ends} {out : ρ} {A B : Option ρ}
theorem st_set {k : α → Option ρ} (hs : Vw G H) (se : SE K te σ G H ma) (hm : ma.bind k = some out) (kont : ∀ x v G1 H1, Ext G H G1 H1 → rep K G1 v x → k x = some out → D.nx (σ.set i (some v)) H1) : tAsg te (gName i) D σ H := by
  obtain ⟨x, hx, hk⟩ := bind_some hm
  exact se G H (Ext.refl hs) x hx _ fun v G1 H1 e hv => kont x v G1 H1 e hv hk
theorem st_setF {m : Option (List α)} {k : List α → Option ρ} (hs : Vw G H) (se : FE K te σ G H m) (hm : m.bind k = some out) (kont : ∀ x p G1 H1, Ext G H G1 H1 → Own K H G1 H1 p x → k x = some out → D.nx (σ.set i (some (.ref p))) H1) : tAsg te (gName i) D σ H := by
  obtain ⟨x, hx, hk⟩ := bind_some hm
  exact se G H (Ext.refl hs) x hx _ fun p G1 H1 e o => kont x p G1 H1 e o hk
/-- a, b = e -/
theorem st_un2 {m : Option (α × β)} {k : α × β → Option ρ} (hs : Vw G H) (se : SE K te σ G H m) (hm : m.bind k = some out) (kont : ∀ x v w G1 H1, Ext G H G1 H1 → rep K G1 v x.1 → rep K G1 w x.2 → k x = some out → D.nx ((σ.set i (some v)).set j (some w)) H1) :
    tAsg te (gTup K 2 (gCons (gName i) (gCons (gName j) gNil))) D σ H := by
  obtain ⟨x, hx, hk⟩ := bind_some hm
  refine se G H (Ext.refl hs) x hx _ fun v G1 H1 e ⟨a, y, z, ea, ha, h1, h2⟩ => ?_
  exact ⟨a, [y, z], ea, same_tup e.s.s ha, rfl, y, [z], rfl, z, [], rfl, rfl, kont x y z G1 H1 e h1 h2 hk⟩
/-- .. the first a new list -/
theorem st_un2P {m : Option (List α × β)} {k : List α × β → Option ρ} (hs : Vw G H) (se : XE (RP K) te σ G H m) (hm : m.bind k = some out) (kont : ∀ x p w G1 H1, Ext G H G1 H1 → Own K H G1 H1 p x.1 → rep K G1 w x.2 → k x = some out → D.nx ((σ.set i (some (.ref p))).set j (some w)) H1) :
    tAsg te (gTup K 2 (gCons (gName i) (gCons (gName j) gNil))) D σ H := by
  obtain ⟨x, hx, hk⟩ := bind_some hm
  refine se G H (Ext.refl hs) x hx _ fun v G1 H1 e ⟨a, p, z, ea, ha, h1, h2⟩ => ?_
  exact ⟨a, [.ref p, z], ea, same_tup e.s.s ha, rfl, .ref p, [z], rfl, z, [], rfl, rfl, kont x p z G1 H1 e h1 h2 hk⟩
theorem st_un3 {m : Option (T3 α β γ)} {k : T3 α β γ → Option ρ} (hs : Vw G H) (se : SE K te σ G H m) (hm : m.bind k = some out) (kont : ∀ x v w z G1 H1, Ext G H G1 H1 → rep K G1 v x.a → rep K G1 w x.b → rep K G1 z x.c → k x = some out → D.nx (((σ.set i (some v)).set j (some w)).set l (some z)) H1) :
    tAsg te (gTup K 3 (gCons (gName i) (gCons (gName j) (gCons (gName l) gNil)))) D σ H := by
  obtain ⟨x, hx, hk⟩ := bind_some hm
  refine se G H (Ext.refl hs) x hx _ fun v G1 H1 e ⟨a, y, z, w, ea, ha, h1, h2, h3⟩ => ?_
  exact ⟨a, [y, z, w], ea, same_tup e.s.s ha, rfl, y, [z, w], rfl, z, [w], rfl, w, [], rfl, rfl, kont x y z w G1 H1 e h1 h2 h3 hk⟩
theorem st_un4 {m : Option (T4 α β γ δ)} {n : Nat} {k : T4 α β γ δ → Option ρ} (hs : Vw G H) (se : SE K te σ G H m) (hm : m.bind k = some out) (kont : ∀ x v w z y G1 H1, Ext G H G1 H1 → rep K G1 v x.a → rep K G1 w x.b → rep K G1 z x.c → rep K G1 y x.d → k x = some out → D.nx ((((σ.set i (some v)).set j (some w)).set l (some z)).set n (some y)) H1) :
    tAsg te (gTup K 4 (gCons (gName i) (gCons (gName j) (gCons (gName l) (gCons (gName n) gNil))))) D σ H := by
  obtain ⟨x, hx, hk⟩ := bind_some hm
  refine se G H (Ext.refl hs) x hx _ fun v G1 H1 e ⟨a, y, z, w, q, ea, ha, h1, h2, h3, h4⟩ => ?_
  exact ⟨a, [y, z, w, q], ea, same_tup e.s.s ha, rfl, y, [z, w, q], rfl, z, [w, q], rfl, w, [q], rfl, q, [], rfl, rfl, kont x y z w q G1 H1 e h1 h2 h3 h4 hk⟩
/-- a, b = e1, e2, both names the def's own -/
theorem st_par {k : α → β → Option ρ} (hs : Vw G H) (s1 : SE K ta σ G H ma) (s2 : SE K tb σ G H mb) (hm : (ma.bind fun x => mb.bind fun y => k x y) = some out) (kont : ∀ x y v w G1 H1, Ext G H G1 H1 → rep K G1 v x → rep K G1 w y → k x y = some out → D.nx ((σ.set i (some v)).set j (some w)) H1) :
    tPar i j (tCons ta (tCons tb tNil)) D σ H := by
  obtain ⟨x, hx, hm⟩ := bind_some hm
  obtain ⟨y, hy, hm⟩ := bind_some hm
  refine s1 G H (Ext.refl hs) x hx _ fun v G1 H1 e1 hv => ?_
  refine s2 G1 H1 e1 y hy _ fun w G2 H2 e2 hw => ?_
  exact ⟨v, w, rfl, kont x y v w G2 H2 (e1.trans e2) (Rp.mono e2.g hv) hw hm⟩
theorem st_if {m : Option Bool} (hs : Vw G H) (s : ST tc σ G H m) (hm : (m.bind fun b => cond b A B) = some out) (kt : ∀ G1 H1, Ext G H G1 H1 → A = some out → t D σ H1) (kf : ∀ G1 H1, Ext G H G1 H1 → B = some out → u D σ H1) : tIfS tc t u D σ H := by
  obtain ⟨b, hb, hm⟩ := bind_some hm
  refine s G H (Ext.refl hs) b hb _ fun G1 H1 e => ?_
  cases b with
  | true => exact kt G1 H1 e hm
  | false => exact kf G1 H1 e hm
theorem st_join (J : St → Hp → Prop) (hj : ∀ σ' H', J σ' H' → D.nx σ' H') (h : ∀ N : St → Hp → Prop, (∀ σ' H', J σ' H' → N σ' H') → t { D with nx := N } σ H) : t D σ H := h D.nx hj
theorem st_ret (e : Ext G0 H0 G H) {m : Option ρ} {RR : Hp → Hp → Hp → V → ρ → Prop} {r : ρ} (RRm : ∀ H1 H2, HK H1 H2 → ∀ G' H' u r, RR H2 G' H' u r → RR H1 G' H' u r) (se : XE RR te σ G H m) (hm : m = some r) (q : ∀ u G' H', Ext G0 H0 G' H' → RR H0 G' H' u r → D.rt u H') : tRet te D σ H :=
  se G H (Ext.refl e.s) r hm _ fun u G1 H1 e1 hu => q u G1 H1 (e.trans e1) (RRm _ _ e.h _ _ _ _ hu)
theorem st_retL (e : Ext G0 H0 G H) {m : Option ρ} {RR : Hp → Hp → Hp → V → ρ → Prop} {f : Fl S ρ} (RRm : ∀ H1 H2, HK H1 H2 → ∀ G' H' u r, RR H2 G' H' u r → RR H1 G' H' u r) (se : XE RR te σ G H m) (hm : (m.bind fun x => some (Fl.rt x : Fl S ρ)) = some f)
    (q : ∀ x, f = .rt x → ∀ u G' H', Ext G0 H0 G' H' → RR H0 G' H' u x → D.rt u H') : tRet te D σ H := by
  obtain ⟨x, hx, hf⟩ := bind_some hm
  cases hf
  exact se G H (Ext.refl e.s) x hx _ fun u G1 H1 e1 hu => q x rfl u G1 H1 (e.trans e1) (RRm _ _ e.h _ _ _ _ hu)
/-- xs.append(e), the list one's own -/
theorem st_app {p : Addr} {ds : List α} {k : List α → Option ρ} (hs : Vw G H) (hv : σ[i]? = some (some (.ref p))) (o : Own K H0 G H p ds) (se : SE K te σ G H ma) (hm : (ma.bind fun x => (appO ds x).bind k) = some out)
    (kont : ∀ es h G1 H1, Ext G H G1 H1 → Own K H0 G1 (upd H1 p h) p es → G1 p = none → k es = some out → D.nx σ (upd H1 p h)) : tDrop (tBM K "list" rAppend (tVar i) (tCons te tNil)) D σ H := by
  obtain ⟨x, hx, hm⟩ := bind_some hm
  obtain ⟨y, hy, hm⟩ := bind_some hm
  unfold appO at hy
  split at hy
  · rename_i hl
    cases hy
    obtain ⟨vs0, h0, l0, rs0⟩ := o.h
    refine ⟨.ref p, hv, .inl ⟨rfl, _, SqL.of h0⟩, ?_⟩
    refine se G H (Ext.refl hs) x hx _ fun v G1 H1 e1 hw => ?_
    have o1 := o.mono e1
    obtain ⟨vs, h1, l1, rs⟩ := o1.h
    have ll : vs.length < 16000000 := by
      rw [rs.len]
      exact hl
    refine ⟨p, vs, v, rfl, rfl, h1, Nat.lt_of_lt_of_le ll (by decide), ?_⟩
    refine kont (ds ++ [x]) _ G1 H1 e1 ⟨o1.z, o1.g, _, upd_same, ?_, rs.app (.cons hw .nil)⟩ o1.g hm
    rw [List.length_append]
    exact Nat.le_trans (Nat.succ_le_of_lt ll) (by decide)
  · cases hy
/-- xs[k] = e, the list one's own -/
theorem st_put {p : Addr} {ds : List α} {mk : Option Int} {k : List α → Option ρ} (hs : Vw G H) (hv : σ[i]? = some (some (.ref p))) (o : Own K H0 G H p ds) (se : SE K te σ G H ma) (si : SE K ta σ G H mk) (hm : (ma.bind fun x => mk.bind fun j => (setO ds j x).bind k) = some out)
    (kont : ∀ es h G1 H1, Ext G H G1 H1 → Own K H0 G1 (upd H1 p h) p es → G1 p = none → k es = some out → D.nx σ (upd H1 p h)) : tAsg te (gSub (tVar i) ta rSetL) D σ H := by
  obtain ⟨x, hx, hm⟩ := bind_some hm
  obtain ⟨j, hj, hm⟩ := bind_some hm
  obtain ⟨es, he, hm⟩ := bind_some hm
  refine se G H (Ext.refl hs) x hx _ fun v G1 H1 e1 hw => ?_
  refine ⟨.ref p, hv, ?_⟩
  refine si G1 H1 e1 j hj _ fun w G2 H2 e2 hj2 => ?_
  have o1 := o.mono (e1.trans e2)
  obtain ⟨vs, h1, l1, rs⟩ := o1.h
  have hl := rs.len
  unfold setO at he
  split at he
  · rename_i hc
    cases he
    refine ⟨p, vs, j, j.toNat, rfl, hj2, h1, ?_, ?_⟩
    · unfold ixN
      rw [if_pos hc.1, if_pos (by omega)]
    · exact kont _ _ G2 H2 (e1.trans e2) ⟨o1.z, o1.g, _, upd_same, by rw [List.length_set]; exact l1, rs.set _ (Rp.mono e2.g hw)⟩ o1.g hm
  · split at he
    · rename_i hc
      cases he
      refine ⟨p, vs, j, (j + vs.length).toNat, rfl, hj2, h1, ?_, ?_⟩
      · unfold ixN
        rw [if_neg (by omega), if_pos (by omega)]
      · rw [show (vs.length : Int) = ds.length by rw [hl]]
        exact kont _ _ G2 H2 (e1.trans e2) ⟨o1.z, o1.g, _, upd_same, by rw [List.length_set]; exact l1, rs.set _ (Rp.mono e2.g hw)⟩ o1.g hm
    · cases he

/-! ### loops -/
theorem st_whileN {c : S → Option Bool} {b : S → Option S} {s s' : S} (Rel : S → St → Hp → Hp → Prop) (hm : whileN c b s = some s') (h0 : Rel s σ G H) (hg : ∀ s σ G H, Rel s σ G H → Vw G H)
    (hc : ∀ s σ G H, Rel s σ G H → ST tc σ G H (c s))
    (hb : ∀ s f σ G H G1 H1 N, Rel s σ G H → Ext G H G1 H1 → c s = some true → b s = some f → (∀ σ' G' H', Rel f σ' G' H' → N σ' H') → t { D with nx := N, ct := N, bk := D.nx } σ H1)
    (hd : ∀ σ G H G1 H1, Rel s' σ G H → Ext G H G1 H1 → D.nx σ H1) : tWhile tc t D σ H := by
  obtain ⟨n0, hn0⟩ := whileN_iff.mp hm
  refine ⟨fun m σ H => ∃ s G, Rel s σ G H ∧ itN c b m s = some s', ⟨n0, s, G, h0, hn0⟩, fun m σ H ⟨s, G, hR, hn⟩ => ?_⟩
  cases m with
  | zero => cases hn
  | succ m =>
    obtain ⟨k, h1, h2⟩ := bind_some (show (c s).bind _ = some s' from hn)
    refine hc s σ G H hR G H (Ext.refl (hg _ _ _ _ hR)) k h1 _ fun G1 H1 e => ?_
    cases k with
    | false =>
      cases h2
      exact hd σ G H G1 H1 hR e
    | true =>
      obtain ⟨s2, h3, h4⟩ := bind_some (show (b s).bind _ = some s' from h2)
      exact ⟨fun σ' H' => ∃ G', Rel s2 σ' G' H', fun σ' H' ⟨G', hR'⟩ => ⟨m, Nat.lt_succ_self m, s2, G', hR', h4⟩, hb s s2 σ G H G1 H1 _ hR e h1 h3 fun σ' G' H' hR' => ⟨G', hR'⟩⟩
theorem st_whileR {c : S → Option Bool} {b : S → Option (Fl S R)} {s : S} {o : Sum S R} (Rel : S → St → Hp → Hp → Prop) (hm : whileR c b s = some o) (h0 : Rel s σ G H) (hg : ∀ s σ G H, Rel s σ G H → Vw G H)
    (hc : ∀ s σ G H, Rel s σ G H → ST tc σ G H (c s))
    (hb : ∀ s f σ G H G1 H1 N, Rel s σ G H → Ext G H G1 H1 → c s = some true → b s = some f → (∀ s' σ' G' H', f = .nx s' → Rel s' σ' G' H' → N σ' H') → (∀ s', f = .ex s' → o = .inl s') → (∀ x, f = .rt x → o = .inr x) → t { D with nx := N, ct := N, bk := D.nx } σ H1)
    (hd : ∀ s' σ G H G1 H1, o = .inl s' → Rel s' σ G H → Ext G H G1 H1 → D.nx σ H1) : tWhile tc t D σ H := by
  obtain ⟨n0, hn0⟩ := whileR_iff.mp hm
  refine ⟨fun m σ H => ∃ s G, Rel s σ G H ∧ itR c b m s = some o, ⟨n0, s, G, h0, hn0⟩, fun m σ H ⟨s, G, hR, hn⟩ => ?_⟩
  cases m with
  | zero => cases hn
  | succ m =>
    obtain ⟨k, h1, h2⟩ := bind_some (show (c s).bind _ = some o from hn)
    refine hc s σ G H hR G H (Ext.refl (hg _ _ _ _ hR)) k h1 _ fun G1 H1 e => ?_
    cases k with
    | false =>
      cases h2
      exact hd s σ G H G1 H1 rfl hR e
    | true =>
      obtain ⟨f, h3, h4⟩ := bind_some (show (b s).bind _ = some o from h2)
      refine ⟨fun σ' H' => ∃ s2 G', f = .nx s2 ∧ Rel s2 σ' G' H', fun σ' H' ⟨s2, G', ef, hR'⟩ => ⟨m, Nat.lt_succ_self m, s2, G', hR', ?_⟩, hb s f σ G H G1 H1 _ hR e h1 h3 (fun s2 σ' G' H' ef hR' => ⟨s2, G', ef, hR'⟩) (fun s2 ef => ?_) (fun x ef => ?_)⟩
      · subst ef
        exact h4
      · subst ef
        exact (Option.some.inj h4).symm
      · subst ef
        exact (Option.some.inj h4).symm
/-- an iterator over the items xs -/
structure ItOk (K : PySem.W.Frag) (J : It) (Gs : Hp) (xs : List α) : Prop where
  stop : ∀ i G H, Same Gs G → Vw G H → xs.length ≤ i → J.stop i H
  go : ∀ i x G H, Same Gs G → Vw G H → xs[i]? = some x → J.go i H ∧ ∀ v H', J.yld i H v H' → ∃ G', Ext G H G' H' ∧ rep K G' v x
def IE (K : PySem.W.Frag) (wi : TI) (σ : St) (G H : Hp) (m : Option (List α)) : Prop :=
  ∀ G1 H1, Ext G H G1 H1 → ∀ xs, m = some xs → ∀ R : It → Hp → Prop, (∀ J G2 H2, Ext G1 H1 G2 H2 → ItOk K J G2 xs → R J H2) → wi σ H1 R
/-- .. of no more items than a list may hold -/
def IB (K : PySem.W.Frag) (wi : TI) (σ : St) (G H : Hp) (m : Option (List α)) : Prop :=
  ∀ G1 H1, Ext G H G1 H1 → ∀ xs, m = some xs → ∀ R : It → Hp → Prop, (∀ J G2 H2, Ext G1 H1 G2 H2 → ItOk K J G2 xs → xs.length ≤ sizeLine → R J H2) → wi σ H1 R
theorem IB.ie {wi : TI} {m : Option (List α)} (h : IB K wi σ G H m) : IE K wi σ G H m := fun G1 H1 e xs hm R q => h G1 H1 e xs hm R fun J G2 H2 e2 it _ => q J G2 H2 e2 it
theorem ib_list {m : Option (List α)} (h : SE K tl σ G H m) : IB K (iList K tl) σ G H m := fun G1 H1 e xs hm R q => by
  refine h G1 H1 e xs hm _ fun v G2 H2 e2 ⟨a, vs, ea, ha, l, rs⟩ => ?_
  refine ⟨a, ea, ⟨vs, SqL.of (e2.s _ _ ha)⟩, q _ G2 H2 e2 ⟨fun i G H s1 s2 hi => ⟨vs, SqL.of (s2 _ _ (s1 _ _ ha)), by rw [rs.len]; exact hi⟩, fun i x G H s1 s2 hi => ?_⟩ (by rw [← rs.len]; exact l)⟩
  obtain ⟨w, h1, h2⟩ := rs.get hi
  have hS := SqL.of (K := K) (s2 _ _ (s1 _ _ ha))
  refine ⟨⟨vs, w, hS, h1⟩, fun u H' ⟨e1, hy⟩ => ?_⟩
  subst e1
  have eu := hy vs hS
  rw [h1] at eu
  cases eu
  exact ⟨G, Ext.refl s2, Rp.mono s1 h2⟩
theorem ib_listK {m : Option (KL α)} (h : SE K tl σ G H m) : IB K (iList K tl) σ G H (m.bind fun t => some t.l) := fun G1 H1 e xs hm R q => by
  obtain ⟨t, ht, hm⟩ := bind_some hm
  cases hm
  refine h G1 H1 e t ht _ fun v G2 H2 e2 ⟨a, vs, ea, ha, l, rs⟩ => ?_
  refine ⟨a, ea, ⟨vs, e2.s.seq ha⟩, q _ G2 H2 e2 ⟨fun i G H s1 s2 hi => ⟨vs, s2.seq (s1.seq ha), by rw [rs.len]; exact hi⟩, fun i x G H s1 s2 hi => ?_⟩ (by rw [← rs.len]; exact l)⟩
  obtain ⟨w, h1, h2⟩ := rs.get hi
  have hS := s2.seq (s1.seq ha)
  refine ⟨⟨vs, w, hS, h1⟩, fun u H' ⟨e1, hy⟩ => ?_⟩
  subst e1
  have eu := hy vs hS
  rw [h1] at eu
  cases eu
  exact ⟨G, Ext.refl s2, Rp.mono s1 h2⟩
theorem ib_tup {m : Option (TL α)} (h : SE K tl σ G H m) : IB K (iTup K tl) σ G H (m.bind fun t => some t.l) := fun G1 H1 e xs hm R q => by
  obtain ⟨t, ht, hm⟩ := bind_some hm
  cases hm
  refine h G1 H1 e t ht _ fun v G2 H2 e2 ⟨a, vs, ea, ha, l, rs⟩ => ?_
  refine ⟨a, ea, ⟨vs, same_tup e2.s.s ha⟩, q _ G2 H2 e2 ⟨fun i G H s1 s2 hi => ⟨vs, same_tup s2.s (same_tup s1 ha), by rw [rs.len]; exact hi⟩, fun i x G H s1 s2 hi => ?_⟩ (by rw [← rs.len]; exact l)⟩
  obtain ⟨w, h1, h2⟩ := rs.get hi
  have hS := same_tup s2.s (same_tup s1 ha)
  refine ⟨⟨vs, w, hS, h1⟩, fun u H' ⟨e1, hy⟩ => ?_⟩
  subst e1
  have eu := hy vs hS
  rw [h1] at eu
  cases eu
  exact ⟨G, Ext.refl s2, Rp.mono s1 h2⟩
theorem itok_range {lo hi : Int} {G2 : Hp} {n : Nat} (hn : n = (hi - lo).toNat) : ItOk K (Itr lo n) G2 (rangeL lo hi) := by
  have hl : (rangeL lo hi).length = n := by
    unfold rangeL
    rw [List.length_map, List.length_range, hn]
  refine ⟨fun i G H _ _ h => ?_, fun i x G H s1 s2 h => ?_⟩
  · show n ≤ i
    rw [← hl]
    exact h
  · have hi2 : i < n := by
      rw [← hl]
      obtain ⟨q, _⟩ := List.getElem?_eq_some_iff.mp h
      exact q
    refine ⟨hi2, fun v H' ⟨e1, e2⟩ => ?_⟩
    subst e1
    refine ⟨G, Ext.refl s2, ?_⟩
    unfold rangeL at h
    rw [List.getElem?_map, List.getElem?_range (by omega)] at h
    cases h
    exact e2
theorem ie_range1 {m : Option Int} (h : SE K te σ G H m) : IE K (iRng1 (tCons te tNil)) σ G H (m.bind fun n => rangeO 0 n) := fun G1 H1 e xs hm R q => by
  obtain ⟨n, hn, hm⟩ := bind_some hm
  unfold rangeO at hm
  split at hm
  · rename_i c
    cases hm
    refine h G1 H1 e n hn _ fun v G2 H2 e2 hv => ⟨n, by rw [show v = .int n from hv], c.2.2.1, c.2.2.2, q _ G2 H2 e2 (itok_range (by omega))⟩
  · cases hm
theorem ie_range1p {n : Int} (h : SE K te σ G H (some n)) : IE K (iRng1 (tCons te tNil)) σ G H (rangeO 0 n) := ie_range1 h
theorem ib_range1 {m : Option Int} (h : SE K te σ G H m) : IB K (iRng1 (tCons te tNil)) σ G H (m.bind fun n => rangeC 0 n) := fun G1 H1 e xs hm R q => by
  obtain ⟨n, hn, hm⟩ := bind_some hm
  unfold rangeC at hm
  split at hm
  · rename_i c
    cases hm
    refine h G1 H1 e n hn _ fun v G2 H2 e2 hv => ⟨n, by rw [show v = .int n from hv], c.2.2.1, c.2.2.2.1, q _ G2 H2 e2 (itok_range (by omega)) ?_⟩
    unfold rangeL
    rw [List.length_map, List.length_range]
    exact Nat.le_trans c.2.2.2.2 (by decide)
  · cases hm
theorem ib_range1p {n : Int} (h : SE K te σ G H (some n)) : IB K (iRng1 (tCons te tNil)) σ G H (rangeC 0 n) := ib_range1 h
theorem ie_range2 {m n : Option Int} (h1 : SE K ta σ G H m) (h2 : SE K tb σ G H n) : IE K (iRng2 (tCons ta (tCons tb tNil))) σ G H (m.bind fun lo => n.bind fun hi => rangeO lo hi) := fun G1 H1 e xs hm R q => by
  obtain ⟨lo, hlo, hm⟩ := bind_some hm
  obtain ⟨hi, hhi, hm⟩ := bind_some hm
  unfold rangeO at hm
  split at hm
  · rename_i c
    cases hm
    refine h1 G1 H1 e lo hlo _ fun v G2 H2 e2 hv => ?_
    refine h2 G2 H2 (e.trans e2) hi hhi _ fun w G3 H3 e3 hw => ?_
    exact ⟨lo, hi, by rw [show v = .int lo from hv, show w = .int hi from hw], c, q _ G3 H3 (e2.trans e3) (itok_range rfl)⟩
  · cases hm
theorem ie_range2p {lo hi : Int} (h1 : SE K ta σ G H (some lo)) (h2 : SE K tb σ G H (some hi)) : IE K (iRng2 (tCons ta (tCons tb tNil))) σ G H (rangeO lo hi) := ie_range2 h1 h2
theorem ib_range2 {m n : Option Int} (h1 : SE K ta σ G H m) (h2 : SE K tb σ G H n) : IB K (iRng2 (tCons ta (tCons tb tNil))) σ G H (m.bind fun lo => n.bind fun hi => rangeC lo hi) := fun G1 H1 e xs hm R q => by
  obtain ⟨lo, hlo, hm⟩ := bind_some hm
  obtain ⟨hi, hhi, hm⟩ := bind_some hm
  unfold rangeC at hm
  split at hm
  · rename_i c
    cases hm
    refine h1 G1 H1 e lo hlo _ fun v G2 H2 e2 hv => ?_
    refine h2 G2 H2 (e.trans e2) hi hhi _ fun w G3 H3 e3 hw => ?_
    refine ⟨lo, hi, by rw [show v = .int lo from hv, show w = .int hi from hw], ⟨c.1, c.2.1, c.2.2.1, c.2.2.2.1⟩, q _ G3 H3 (e2.trans e3) (itok_range rfl) ?_⟩
    unfold rangeL
    rw [List.length_map, List.length_range]
    exact Nat.le_trans c.2.2.2.2 (by decide)
  · cases hm
theorem ib_range2p {lo hi : Int} (h1 : SE K ta σ G H (some lo)) (h2 : SE K tb σ G H (some hi)) : IB K (iRng2 (tCons ta (tCons tb tNil))) σ G H (rangeC lo hi) := ib_range2 h1 h2
/-- zip of two lists -/
theorem ib_zip {m : Option (List α)} {n : Option (List β)} (h1 : SE K ta σ G H m) (h2 : SE K tb σ G H n) : IB K (iZip K (tCons ta (tCons tb tNil))) σ G H (m.bind fun xs => n.bind fun ys => some (xs.zip ys)) := fun G1 H1 e xs hm R q => by
  obtain ⟨xs, hxs, hm⟩ := bind_some hm
  obtain ⟨ys, hys, hm⟩ := bind_some hm
  cases hm
  refine h1 G1 H1 e xs hxs _ fun v G2 H2 e2 hv => ?_
  refine h2 G2 H2 (e.trans e2) ys hys _ fun w G3 H3 e3 hw => ?_
  obtain ⟨a, vs, ea, ha, la, ra⟩ := Rp.mono e3.g hv
  obtain ⟨b, ws, eb, hb, lb, rb⟩ := hw
  refine ⟨a, b, vs, ws, by rw [ea, eb], SqL.of (e3.s _ _ ha), SqL.of (e3.s _ _ hb), q _ G3 H3 (e2.trans e3) ⟨fun i G H s1 s2 hi => ?_, fun i x G H s1 s2 hi => ?_⟩ ?_⟩
  · refine ⟨vs, ws, SqL.of (s2 _ _ (s1 _ _ ha)), SqL.of (s2 _ _ (s1 _ _ hb)), ?_⟩
    rw [List.length_zip] at hi
    rw [ra.len, rb.len]
    omega
  · have hz := List.getElem?_zip_eq_some.mp hi
    obtain ⟨x1, q1, q2⟩ := ra.get hz.1
    obtain ⟨y1, q3, q4⟩ := rb.get hz.2
    refine ⟨⟨vs, ws, x1, y1, SqL.of (s2 _ _ (s1 _ _ ha)), SqL.of (s2 _ _ (s1 _ _ hb)), q1, q3⟩, fun u H' ⟨T, x2, y2, eu, nT, eH, f1, f2⟩ => ?_⟩
    have z1 := f1 vs (SqL.of (s2 _ _ (s1 _ _ ha)))
    have z2 := f2 ws (SqL.of (s2 _ _ (s1 _ _ hb)))
    rw [q1] at z1
    rw [q3] at z2
    cases z1
    cases z2
    subst eH
    have gT := s2.free nT
    exact ⟨upd G T (.tup [x1, y1]), Ext.new s2 nT, T, x1, y1, eu, SqT.of upd_same, Rp.mono (s1.trans (same_new gT)) q2, Rp.mono (s1.trans (same_new gT)) q4⟩
  · rw [List.length_zip]
    rw [← ra.len]
    omega
theorem ib_zipp {xs : List α} {ys : List β} (h1 : SE K ta σ G H (some xs)) (h2 : SE K tb σ G H (some ys)) : IB K (iZip K (tCons ta (tCons tb tNil))) σ G H (some (xs.zip ys)) := ib_zip h1 h2
/-- what a for does behind its head -/
def LG (J : It) (g : TG) (tb : TS) : TS := fun D σ H => ∃ W : Nat → Nat → St → Hp → Prop, (∃ m, W 0 m σ H) ∧ ∀ i m σ H, W i m σ H →
  (J.stop i H ∧ D.nx σ H) ∨ (J.go i H ∧ ∃ N : St → Hp → Prop, (∀ σ' H', N σ' H' → ∃ m', m' < m ∧ W (i + 1) m' σ' H') ∧ ∀ x H', J.yld i H x H' → g x σ H' fun σ2 H2 => tb { D with nx := N, ct := N, bk := D.nx } σ2 H2)
theorem st_for {wi : TI} {g : TG} {m : Option (List α)} {k : List α → Option ρ} (hs : Vw G H) (ie : IE K wi σ G H m) (hm : m.bind k = some out) (kont : ∀ xs J G1 H1, Ext G H G1 H1 → ItOk K J G1 xs → k xs = some out → LG J g t D σ H1) : tFor wi g t D σ H := by
  obtain ⟨xs, hx, hk⟩ := bind_some hm
  exact ie G H (Ext.refl hs) xs hx _ fun J G1 H1 e it => kont xs J G1 H1 e it hk
theorem lg_N {J : It} {g : TG} {xs : List α} {b : S → α → Option S} {s s' : S} (Rel : S → St → Hp → Hp → Prop) (it : ItOk K J Gs xs) (hm : forN b xs s = some s') (h0 : Rel s σ Gs H) (hg : ∀ s σ G H, Rel s σ G H → Same Gs G ∧ Vw G H)
    (hb : ∀ s x f v σ G H G1 H1 N, x ∈ xs → Rel s σ G H → Ext G H G1 H1 → rep K G1 v x → b s x = some f → (∀ σ' G' H', Rel f σ' G' H' → N σ' H') → g v σ H1 fun σ2 H2 => t { D with nx := N, ct := N, bk := D.nx } σ2 H2)
    (hd : ∀ σ G H, Rel s' σ G H → D.nx σ H) : LG J g t D σ H := by
  refine ⟨fun i m σ H => ∃ s G, Rel s σ G H ∧ forN b (xs.drop i) s = some s' ∧ m = xs.length - i, ⟨xs.length, s, Gs, h0, hm, rfl⟩, fun i m σ H ⟨s, G, hR, hn, em⟩ => ?_⟩
  obtain ⟨g1, g2⟩ := hg _ _ _ _ hR
  by_cases hi : i < xs.length
  · right
    have hx : xs[i]? = some xs[i] := List.getElem?_eq_getElem hi
    obtain ⟨go, yl⟩ := it.go i _ G H g1 g2 hx
    rw [List.drop_eq_getElem_cons hi] at hn
    obtain ⟨s2, h3, h4⟩ := bind_some (show (b s xs[i]).bind _ = some s' from hn)
    refine ⟨go, fun σ' H' => ∃ G', Rel s2 σ' G' H', fun σ' H' ⟨G', hR'⟩ => ⟨m - 1, by omega, s2, G', hR', h4, by omega⟩, fun v H' hy => ?_⟩
    obtain ⟨G1, e1, hv⟩ := yl v H' hy
    exact hb s xs[i] s2 v σ G H G1 H' _ (List.getElem_mem hi) hR e1 hv h3 fun σ' G' H' hR' => ⟨G', hR'⟩
  · left
    rw [List.drop_eq_nil_of_le (by omega)] at hn
    cases hn
    exact ⟨it.stop i G H g1 g2 (by omega), hd σ G H hR⟩
theorem lg_R {J : It} {g : TG} {xs : List α} {b : S → α → Option (Fl S R)} {s : S} {o : Sum S R} (Rel : S → St → Hp → Hp → Prop) (it : ItOk K J Gs xs) (hm : forR b xs s = some o) (h0 : Rel s σ Gs H) (hg : ∀ s σ G H, Rel s σ G H → Same Gs G ∧ Vw G H)
    (hb : ∀ s x f v σ G H G1 H1 N, x ∈ xs → Rel s σ G H → Ext G H G1 H1 → rep K G1 v x → b s x = some f → (∀ s' σ' G' H', f = .nx s' → Rel s' σ' G' H' → N σ' H') → (∀ s', f = .ex s' → o = .inl s') → (∀ x, f = .rt x → o = .inr x) → g v σ H1 fun σ2 H2 => t { D with nx := N, ct := N, bk := D.nx } σ2 H2)
    (hd : ∀ s' σ G H, o = .inl s' → Rel s' σ G H → D.nx σ H) : LG J g t D σ H := by
  refine ⟨fun i m σ H => ∃ s G, Rel s σ G H ∧ forR b (xs.drop i) s = some o ∧ m = xs.length - i, ⟨xs.length, s, Gs, h0, hm, rfl⟩, fun i m σ H ⟨s, G, hR, hn, em⟩ => ?_⟩
  obtain ⟨g1, g2⟩ := hg _ _ _ _ hR
  by_cases hi : i < xs.length
  · right
    have hx : xs[i]? = some xs[i] := List.getElem?_eq_getElem hi
    obtain ⟨go, yl⟩ := it.go i _ G H g1 g2 hx
    rw [List.drop_eq_getElem_cons hi] at hn
    obtain ⟨f, h3, h4⟩ := bind_some (show (b s xs[i]).bind _ = some o from hn)
    refine ⟨go, fun σ' H' => ∃ s2 G', f = .nx s2 ∧ Rel s2 σ' G' H', fun σ' H' ⟨s2, G', ef, hR'⟩ => ⟨m - 1, by omega, s2, G', hR', ?_, by omega⟩, fun v H' hy => ?_⟩
    · subst ef
      exact h4
    · obtain ⟨G1, e1, hv⟩ := yl v H' hy
      refine hb s xs[i] f v σ G H G1 H' _ (List.getElem_mem hi) hR e1 hv h3 (fun s2 σ' G' H' ef hR' => ⟨s2, G', ef, hR'⟩) (fun s2 ef => ?_) (fun x ef => ?_)
      · subst ef
        exact (Option.some.inj h4).symm
      · subst ef
        exact (Option.some.inj h4).symm
  · left
    rw [List.drop_eq_nil_of_le (by omega)] at hn
    cases hn
    exact ⟨it.stop i G H g1 g2 (by omega), hd s σ G H rfl hR⟩
/-- a loop's target of two names -/
theorem g_two {v : V} {d : α × β} {Q : St → Hp → Prop} (hs : Vw G H) (h : rep K G v d) (kont : ∀ x y, rep K G x d.1 → rep K G y d.2 → Q ((σ.set i (some x)).set j (some y)) H) : gTup K 2 (gCons (gName i) (gCons (gName j) gNil)) v σ H Q := by
  obtain ⟨a, x, y, ea, ha, h1, h2⟩ := h
  exact ⟨a, [x, y], ea, same_tup hs.s ha, rfl, x, [y], rfl, y, [], rfl, rfl, kont x y h1 h2⟩
theorem g_three {v : V} {d : T3 α β γ} {Q : St → Hp → Prop} (hs : Vw G H) (h : rep K G v d) (kont : ∀ x y z, rep K G x d.a → rep K G y d.b → rep K G z d.c → Q (((σ.set i (some x)).set j (some y)).set l (some z)) H) : gTup K 3 (gCons (gName i) (gCons (gName j) (gCons (gName l) gNil))) v σ H Q := by
  obtain ⟨a, x, y, z, ea, ha, h1, h2, h3⟩ := h
  exact ⟨a, [x, y, z], ea, same_tup hs.s ha, rfl, x, [y, z], rfl, y, [z], rfl, z, [], rfl, rfl, kont x y z h1 h2 h3⟩

/-! ### comprehensions -/
/-- what a target makes of the slots -/
def TgOk (K : PySem.W.Frag) (g : TG) (vs : List Nat) (σ : St) (P : St → Hp → Hp → α → Prop) : Prop :=
  ∀ G H v x, Vw G H → rep K G v x → ∀ Q : St → Hp → Prop, (∀ σ2, wipe σ2 vs = wipe σ vs → P σ2 G H x → Q σ2 H) → g v (wipe σ vs) H Q
theorem fe_lc {wi : TI} {g : TG} {vs : List Nat} {m : Option (List α)} {c : α → Option Bool} {f : α → Option β} (P : St → Hp → Hp → α → Prop) (ib : IB K wi σ G H m) (tg : TgOk K g vs σ P)
    (ht : ∀ x σ2 G1 H1, Ext G H G1 H1 → P σ2 G1 H1 x → ST tt σ2 G1 H1 (c x)) (he : ∀ x σ2 G1 H1, Ext G H G1 H1 → P σ2 G1 H1 x → SE K te σ2 G1 H1 (f x)) : FE K (tLc wi g tt te vs) σ G H (m.bind fun xs => filO c f xs) := fun G1 H1 e r hm Q q => by
  obtain ⟨xs, hx, hm⟩ := bind_some hm
  refine ib G1 H1 e xs hx _ fun J G2 H2 e2 it hl D hD => ?_
  refine ⟨fun i m H => ∃ G ys rest, Ext G2 H2 G H ∧ Own K H2 G H D ys ∧ ys.length ≤ i ∧ filO c f (xs.drop i) = some rest ∧ ys ++ rest = r ∧ m = xs.length - i,
    ⟨xs.length, G2, [], r, Ext.own e2.s hD, own_new e2.s hD (Nat.zero_le _) .nil, Nat.le_refl _, hm, rfl, rfl⟩, fun i m H ⟨G', ys, rest, e3, o, hy, hn, er, em⟩ => ?_⟩
  by_cases hi : i < xs.length
  · right
    have hx : xs[i]? = some xs[i] := List.getElem?_eq_getElem hi
    obtain ⟨go, yl⟩ := it.go i _ G' H e3.g e3.s hx
    rw [List.drop_eq_getElem_cons hi] at hn
    obtain ⟨b, hb, hn⟩ := bind_some (show (c xs[i]).bind _ = some rest from hn)
    refine ⟨go, fun H' => ∃ G ys rest, Ext G2 H2 G H' ∧ Own K H2 G H' D ys ∧ ys.length ≤ i + 1 ∧ filO c f (xs.drop (i + 1)) = some rest ∧ ys ++ rest = r, fun H' ⟨G, ys, rest, a1, a2, a3, a4, a5⟩ => ⟨m - 1, by omega, G, ys, rest, a1, a2, a3, a4, a5, by omega⟩, fun v H' hy2 => ?_⟩
    obtain ⟨G4, e4, hv⟩ := yl v H' hy2
    have eA := (e.trans e2).trans (e3.trans e4)
    refine tg G4 H' v xs[i] e4.s hv _ fun σ2 w2 p2 => ⟨w2, ?_⟩
    refine ht xs[i] σ2 G4 H' eA p2 G4 H' (Ext.refl e4.s) b hb _ fun G5 H5 e5 => ?_
    cases b with
    | false => exact ⟨G5, ys, rest, (e3.trans e4).trans e5, (o.mono e4).mono e5, Nat.le_succ_of_le hy, hn, er⟩
    | true =>
      obtain ⟨y, h5, h6⟩ := bind_some (show (f xs[i]).bind _ = some rest from hn)
      obtain ⟨rest2, h7, h8⟩ := bind_some h6
      cases h8
      show te σ2 H5 _
      refine he xs[i] σ2 G4 H' eA p2 G5 H5 e5 y h5 _ fun u G6 H6 e6 hu => ?_
      have o6 := ((o.mono e4).mono e5).mono e6
      obtain ⟨vs6, a1, a2, a3⟩ := o6.h
      have ll : vs6.length < sizeLine := by
        rw [a3.len]
        omega
      refine ⟨vs6, a1, ll, G6, ys ++ [y], rest2, (((e3.trans e4).trans e5).trans e6).put o6.z o6.g o6.pn, ⟨o6.z, o6.g, _, upd_same, ?_, a3.app (.cons hu .nil)⟩, ?_, h7, ?_⟩
      · rw [List.length_append]
        exact ll
      · rw [List.length_append]
        exact Nat.succ_le_succ hy
      · rw [← er, List.append_assoc]
        rfl
  · left
    rw [List.drop_eq_nil_of_le (by omega)] at hn
    cases hn
    rw [List.append_nil] at er
    subst er
    exact ⟨it.stop i G' H e3.g e3.s (by omega), q D G' H (e2.trans e3) (o.up e2.h)⟩
theorem filO_yes {f : α → Option β} : ∀ xs : List α, filO (fun _ => some true) f xs = mapO f xs
  | [] => rfl
  | x :: xs => by
    show ((f x).bind fun y => (filO (fun _ => some true) f xs).bind fun ys => some (y :: ys)) = _
    rw [filO_yes xs]
    rfl
theorem st_yes : ST tYes σ G H (some true) := fun G1 H1 e r hm Q q => by
  cases hm
  exact q G1 H1 (Ext.refl e.s)
theorem fe_map {wi : TI} {g : TG} {vs : List Nat} {m : Option (List α)} {f : α → Option β} (P : St → Hp → Hp → α → Prop) (ib : IB K wi σ G H m) (tg : TgOk K g vs σ P)
    (he : ∀ x σ2 G1 H1, Ext G H G1 H1 → P σ2 G1 H1 x → SE K te σ2 G1 H1 (f x)) : FE K (tLc wi g tYes te vs) σ G H (m.bind fun xs => mapO f xs) := fun G1 H1 e r hm Q q => by
  refine fe_lc (c := fun _ => some true) (f := f) P ib tg (fun _ _ _ _ _ _ => st_yes) he G1 H1 e r ?_ Q q
  rw [← hm]
  cases m with
  | none => rfl
  | some xs => exact filO_yes xs
theorem tg_name (hw : ∀ v : Option V, wipe ((wipe σ [i]).set i v) [i] = wipe σ [i] := by intro _; rfl) : TgOk (α := α) K (gName i) [i] σ (fun σ2 G H x => ∃ v, σ2 = (wipe σ [i]).set i (some v) ∧ rep K G v x) := fun G H v x s h Q q => q _ (hw _) ⟨v, rfl, h⟩
theorem tg_two (hw : ∀ v w : Option V, wipe (((wipe σ [i, j]).set i v).set j w) [i, j] = wipe σ [i, j] := by intro _ _; rfl) : TgOk (α := α × β) K (gTup K 2 (gCons (gName i) (gCons (gName j) gNil))) [i, j] σ (fun σ2 G H x => ∃ v w, σ2 = ((wipe σ [i, j]).set i (some v)).set j (some w) ∧ rep K G v x.1 ∧ rep K G w x.2) := fun G H v x s h Q q =>
  g_two s h fun y z hy hz => q _ (hw _ _) ⟨y, z, rfl, hy, hz⟩
end

end Mi

/-! MiZ: the rules of MiX, MiY, each for one operation: what the printed walks name. -/
namespace Mi
variable [Tbs]
open PySem L2
open Rp (rep)
section
variable {α β γ δ ρ S R : Type} [Rp α] [Rp β] [Rp γ] [Rp δ]
variable {K : PySem.W.Frag} {σ : St} {G0 H0 G H G1 H1 Gs : Hp} {ta tb te tl : TE} {tc tt : TT} {t u : TS} {ma : Option α} {mb : Option β} {i j l : Nat} {v : V} {d : α} {D : Ends} {out : ρ} {A B : Option ρ}
theorem elim_inl {f : S → Option ρ} {g : R → Option ρ} {s : S} (h : Sum.elim f g (.inl s) = some out) : f s = some out := h
theorem elim_inr {f : S → Option ρ} {g : R → Option ρ} {s : R} (h : Sum.elim f g (.inr s) = some out) : g s = some out := h
theorem flE_nx {f : S → Option ρ} {g : R → Option ρ} {s : S} (h : flE f g (.nx s) = some out) : f s = some out := h
theorem flE_rt {f : S → Option ρ} {g : R → Option ρ} {s : R} (h : flE f g (.rt s) = some out) : g s = some out := h
theorem se_iv {d : Int} (h : σ[i]? = some (some (V.int d))) : SE K (tVar i) σ G H (some d) := se_var h rfl
theorem se_bv {d : Bool} (h : σ[i]? = some (some (V.bl d))) : SE K (tVar i) σ G H (some d) := se_var h rfl
theorem se_sv {d : Str} (h : σ[i]? = some (some (V.str d))) : SE K (tVar i) σ G H (some d) := se_var h rfl
theorem se_getp {o : Option α} (ha : SE K ta σ G H (some o)) : SE K ta σ G H o := se_get ha
theorem se_isiOp [RpTy α] {T : String} {b : Bool} {o : Option α} (h : SE K te σ G H (some o)) (hk : kitB (RpTy.ty α) T = some b) (hn : kitB "NoneType" T = some false) : SE K (tCB (rIsi K) (tCons te (tCons (tC (.ty T)) tNil))) σ G H (some (!o.isNone && b)) := se_isiO h hk hn
theorem se_modk {x j : Int} (ha : SE K ta σ G H (some x)) (hb : SE K tb σ G H (some j)) (h : 0 < j) : SE K (tOp (rI (fun _ j => 0 < j) fun i j => .int (i % j)) ta tb) σ G H (some (x % j)) := fun G1 H1 e z hm Q q => by
  cases hm
  refine ha G1 H1 e x rfl _ fun v G2 H2 e2 hv => ?_
  refine hb G2 H2 (e.trans e2) j rfl _ fun w G3 H3 e3 hw => ?_
  exact ⟨x, j, hv, hw, h, q _ G3 H3 (e2.trans e3) rfl⟩
theorem se_modkm {m : Option Int} {j : Int} (ha : SE K ta σ G H m) (hb : SE K tb σ G H (some j)) (h : 0 < j) : SE K (tOp (rI (fun _ j => 0 < j) fun i j => .int (i % j)) ta tb) σ G H (m.bind fun x => some (x % j)) := fun G1 H1 e z hm Q q => by
  obtain ⟨x, hx, hm⟩ := bind_some hm
  cases hm
  refine ha G1 H1 e x hx _ fun v G2 H2 e2 hv => ?_
  refine hb G2 H2 (e.trans e2) j rfl _ fun w G3 H3 e3 hw => ?_
  exact ⟨x, j, hv, hw, h, q _ G3 H3 (e2.trans e3) rfl⟩
theorem se_divk {x j : Int} (ha : SE K ta σ G H (some x)) (hb : SE K tb σ G H (some j)) (h : 0 < j ∧ j.natAbs.log2 < 9000) : SE K (tOp (rI CDivW fun i j => .int (i / j)) ta tb) σ G H (some (x / j)) := fun G1 H1 e z hm Q q => by
  cases hm
  refine ha G1 H1 e x rfl _ fun v G2 H2 e2 hv => ?_
  refine hb G2 H2 (e.trans e2) j rfl _ fun w G3 H3 e3 hw => ?_
  exact ⟨x, j, hv, hw, h, q _ G3 H3 (e2.trans e3) rfl⟩
theorem se_divkm {m : Option Int} {j : Int} (ha : SE K ta σ G H m) (hb : SE K tb σ G H (some j)) (h : 0 < j ∧ j.natAbs.log2 < 9000) : SE K (tOp (rI CDivW fun i j => .int (i / j)) ta tb) σ G H (m.bind fun x => some (x / j)) := fun G1 H1 e z hm Q q => by
  obtain ⟨x, hx, hm⟩ := bind_some hm
  cases hm
  refine ha G1 H1 e x hx _ fun v G2 H2 e2 hv => ?_
  refine hb G2 H2 (e.trans e2) j rfl _ fun w G3 H3 e3 hw => ?_
  exact ⟨x, j, hv, hw, h, q _ G3 H3 (e2.trans e3) rfl⟩
/-- written numbers, reckoned -/
theorem se_kmul {a b n : Int} (ha : SE K ta σ G H (some a)) (hb : SE K tb σ G H (some b)) (h : a.natAbs.log2 + b.natAbs.log2 < 134000000 ∧ a * b = n) : SE K (tOp (rI CMulZ fun i j => .int (i * j)) ta tb) σ G H (some n) := fun G1 H1 e z hm Q q => by
  cases hm
  refine ha G1 H1 e a rfl _ fun v G2 H2 e2 hv => ?_
  refine hb G2 H2 (e.trans e2) b rfl _ fun w G3 H3 e3 hw => ?_
  exact ⟨a, b, hv, hw, h.1, q _ G3 H3 (e2.trans e3) (show V.int (a * b) = .int n by rw [h.2])⟩
theorem se_kpow {a b n : Int} (ha : SE K ta σ G H (some a)) (hb : SE K tb σ G H (some b)) (h : (0 ≤ b ∧ b ≤ 1000000 ∧ a.natAbs < 2 ^ 64) ∧ a ^ b.toNat = n) : SE K (tOp (rI CPow fun i j => .int (i ^ j.toNat)) ta tb) σ G H (some n) := fun G1 H1 e z hm Q q => by
  cases hm
  refine ha G1 H1 e a rfl _ fun v G2 H2 e2 hv => ?_
  refine hb G2 H2 (e.trans e2) b rfl _ fun w G3 H3 e3 hw => ?_
  exact ⟨a, b, hv, hw, h.1, q _ G3 H3 (e2.trans e3) (show V.int (a ^ b.toNat) = .int n by rw [h.2])⟩
theorem se_kshl {a b n : Int} (ha : SE K ta σ G H (some a)) (hb : SE K tb σ G H (some b)) (h : (0 ≤ b ∧ b ≤ 1000000 ∧ a.natAbs < 2 ^ 64) ∧ a * 2 ^ b.toNat = n) : SE K (tOp (rI CPow fun i j => .int (i * 2 ^ j.toNat)) ta tb) σ G H (some n) := fun G1 H1 e z hm Q q => by
  cases hm
  refine ha G1 H1 e a rfl _ fun v G2 H2 e2 hv => ?_
  refine hb G2 H2 (e.trans e2) b rfl _ fun w G3 H3 e3 hw => ?_
  exact ⟨a, b, hv, hw, h.1, q _ G3 H3 (e2.trans e3) (show V.int (a * 2 ^ b.toNat) = .int n by rw [h.2])⟩
theorem se_kadd {a b n : Int} (ha : SE K ta σ G H (some a)) (hb : SE K tb σ G H (some b)) (h : a + b = n) : SE K (tOp (rI0 fun i j => .int (i + j)) ta tb) σ G H (some n) := fun G1 H1 e z hm Q q => by
  cases hm
  refine ha G1 H1 e a rfl _ fun v G2 H2 e2 hv => ?_
  refine hb G2 H2 (e.trans e2) b rfl _ fun w G3 H3 e3 hw => ?_
  exact ⟨a, b, hv, hw, q _ G3 H3 (e2.trans e3) (show V.int (a + b) = .int n by rw [h])⟩
theorem se_ksub {a b n : Int} (ha : SE K ta σ G H (some a)) (hb : SE K tb σ G H (some b)) (h : a - b = n) : SE K (tOp (rI0 fun i j => .int (i - j)) ta tb) σ G H (some n) := fun G1 H1 e z hm Q q => by
  cases hm
  refine ha G1 H1 e a rfl _ fun v G2 H2 e2 hv => ?_
  refine hb G2 H2 (e.trans e2) b rfl _ fun w G3 H3 e3 hw => ?_
  exact ⟨a, b, hv, hw, q _ G3 H3 (e2.trans e3) (show V.int (a - b) = .int n by rw [h])⟩
theorem se_own_len {H0 : Hp} {p : Addr} {ds : List α} (hv : σ[i]? = some (some (.ref p))) (o : Own K H0 G H p ds) : SE K (tCB (fun xs H Q => ∃ p ys, xs = [.ref p] ∧ (SqL K H p ys ∨ SqT K H p ys) ∧ Q (.int ys.length) H) (tCons (tVar i) tNil)) σ G H (some (ds.length : Int)) := fun G1 H1 e z hm Q q => by
  cases hm
  obtain ⟨vs, h, l, rs⟩ := (o.mono e).h
  refine ⟨.ref p, hv, p, vs, rfl, .inl (SqL.of h), ?_⟩
  rw [rs.len]
  exact q _ G1 H1 (Ext.refl e.s) rfl
theorem se_bits {m : Option Int} (ha : SE K ta σ G H m) : SE K (tBits ta) σ G H (m.bind fun x => some (Builtin.Int.intBits x : Int)) := fun G1 H1 e z hm Q q => by
  obtain ⟨x, hx, hm⟩ := bind_some hm
  cases hm
  exact ha G1 H1 e x hx _ fun v G2 H2 e2 hv => ⟨x, hv, q _ G2 H2 e2 rfl⟩
theorem se_bitsp {x : Int} (ha : SE K ta σ G H (some x)) : SE K (tBits ta) σ G H (some (Builtin.Int.intBits x : Int)) := se_bits ha
theorem g_name {Q : St → Hp → Prop} (h : Q (σ.set i (some v)) H) : gName i v σ H Q := h
theorem st_retO {p : Addr} {ds : List α} {r : List α} (hv : σ[i]? = some (some (.ref p))) (e : Ext G0 H0 G H) (o : Own K H0 G H p ds) (hm : some ds = some r) (q : ∀ u G' H', Ext G0 H0 G' H' → RF K H0 G' H' u r → D.rt u H') : tRet (tVar i) D σ H := by
  cases hm
  exact ⟨.ref p, hv, q _ G H e ⟨p, rfl, o⟩⟩
theorem st_retOL {p : Addr} {ds : List α} {f : Fl S (List α)} (hv : σ[i]? = some (some (.ref p))) (e : Ext G0 H0 G H) (o : Own K H0 G H p ds) (hm : some (Fl.rt ds : Fl S (List α)) = some f) (q : ∀ x, f = .rt x → ∀ u G' H', Ext G0 H0 G' H' → RF K H0 G' H' u x → D.rt u H') : tRet (tVar i) D σ H := by
  cases hm
  exact ⟨.ref p, hv, q _ rfl _ G H e ⟨p, rfl, o⟩⟩
theorem st_retP {p : Addr} {ds : List α} {r : List α × β} (hv : σ[i]? = some (some (.ref p))) (e : Ext G0 H0 G H) (o : Own K H0 G H p ds) (se : SE K tb σ G H mb) (hm : (mb.bind fun y => some (ds, y)) = some r) (q : ∀ u G' H', Ext G0 H0 G' H' → RP K H0 G' H' u r → D.rt u H') : tRet (tTup (tCons (tVar i) (tCons tb tNil))) D σ H := by
  obtain ⟨y, hy, hm⟩ := bind_some hm
  cases hm
  refine ⟨.ref p, hv, ?_⟩
  refine se G H (Ext.refl e.s) y hy _ fun w G1 H1 e1 hw => ⟨by show 2 ≤ sizeLine; decide, fun t nt => ?_⟩
  have e2 := Ext.new (o := .tup [.ref p, w]) e1.s nt
  exact q _ _ _ ((e.trans e1).trans e2) ⟨t, p, w, rfl, SqT.of upd_same, (o.mono e1).mono e2, Rp.mono e2.g hw⟩
theorem st_aug {a : Int} {f : Int → Int → Int} {m : Option Int} {k : Int → Option ρ} (hs : Vw G H) (hv : σ[i]? = some (some (.int a))) (se : SE K te σ G H m) (hm : (m.bind fun y => (some (f a y)).bind k) = some out) (kont : ∀ (y z : Int) G1 H1, Ext G H G1 H1 → k z = some out → D.nx (σ.set i (some (.int z))) H1) :
    tAug i te (ipI f) D σ H := by
  obtain ⟨y, hy, hm⟩ := bind_some hm
  refine ⟨.int a, hv, ?_⟩
  refine se G H (Ext.refl hs) y hy _ fun w G1 H1 e1 hw => ?_
  exact ⟨a, y, rfl, hw, kont y (f a y) G1 H1 e1 hm⟩
theorem st_seq {t1 t2 : TS} (h : t1 { D with nx := t2 D } σ H) : tSeq t1 t2 D σ H := h
theorem st_next (q : D.nx σ H) : tNext D σ H := q
theorem st_drop2 {k : α → Option ρ} (hs : Vw G H) (se : SE K te σ G H ma) (hm : ma.bind k = some out) (kont : ∀ x G1 H1, Ext G H G1 H1 → k x = some out → D.nx σ H1) : tDrop te D σ H := by
  obtain ⟨x, hx, hk⟩ := bind_some hm
  exact se G H (Ext.refl hs) x hx _ fun v G1 H1 e hv => kont x G1 H1 e hk
theorem st_clear {p : Addr} {ds : List α} {k : List α → Option ρ} (hs : Vw G H) (hv : σ[i]? = some (some (.ref p))) (o : Own K H0 G H p ds) (hm : (some ([] : List α)).bind k = some out)
    (kont : ∀ es h G1 H1, Ext G H G1 H1 → Own K H0 G1 (upd H1 p h) p es → G1 p = none → k es = some out → D.nx σ (upd H1 p h)) : tDrop (tBM0 K "list" rClear (tVar i)) D σ H := by
  obtain ⟨vs0, h0, l0, rs0⟩ := o.h
  refine ⟨.ref p, hv, .inl ⟨rfl, _, SqL.of h0⟩, p, vs0, rfl, rfl, h0, ?_⟩
  exact kont [] _ G H (Ext.refl hs) ⟨o.z, o.g, _, upd_same, Nat.zero_le _, .nil⟩ o.g hm
theorem Reps.snoc {vs : List V} {ds : List α} (h : Reps K G vs ds) {w : V} {x : α} (r : rep K G w x) : Reps K G (vs ++ [w]) (ds ++ [x]) := h.app (.cons r .nil)
theorem Reps.rev : ∀ {vs : List V} {ds : List α}, Reps K G vs ds → Reps K G vs.reverse ds.reverse
  | _, _, .nil => .nil
  | _, _, .cons r t => by
    rw [List.reverse_cons, List.reverse_cons]
    exact (Reps.rev t).snoc r
theorem st_reverse {p : Addr} {ds : List α} {k : List α → Option ρ} (hs : Vw G H) (hv : σ[i]? = some (some (.ref p))) (o : Own K H0 G H p ds) (hm : (some ds.reverse).bind k = some out)
    (kont : ∀ es h G1 H1, Ext G H G1 H1 → Own K H0 G1 (upd H1 p h) p es → G1 p = none → k es = some out → D.nx σ (upd H1 p h)) : tDrop (tBM0 K "list" rReverse (tVar i)) D σ H := by
  obtain ⟨vs0, h0, l0, rs0⟩ := o.h
  refine ⟨.ref p, hv, .inl ⟨rfl, _, SqL.of h0⟩, p, vs0, rfl, rfl, h0, ?_⟩
  exact kont _ _ G H (Ext.refl hs) ⟨o.z, o.g, _, upd_same, by rw [List.length_reverse]; exact l0, rs0.rev⟩ o.g hm
/-- a list taken apart into names -/
def unl2 (xs : List α) (k : α → α → Option ρ) : Option ρ := match xs with
  | [a, b] => k a b
  | _ => none
def unl3 (xs : List α) (k : α → α → α → Option ρ) : Option ρ := match xs with
  | [a, b, c] => k a b c
  | _ => none
def unl4 (xs : List α) (k : α → α → α → α → Option ρ) : Option ρ := match xs with
  | [a, b, c, d] => k a b c d
  | _ => none
def unl5 (xs : List α) (k : α → α → α → α → α → Option ρ) : Option ρ := match xs with
  | [a, b, c, d, e] => k a b c d e
  | _ => none

theorem st_unl2 {mx : Option (List α)} {k : α → α → Option ρ} (hs : Vw G H) (se : SE K te σ G H mx) (hm : (mx.bind fun xs => unl2 xs k) = some out)
    (kont : ∀ a b w_a w_b G1 H1, Ext G H G1 H1 → rep K G1 w_a a → rep K G1 w_b b → k a b = some out → D.nx ((σ.set i (some w_a)).set j (some w_b)) H1) : tAsg te (gUnl K 2 (gCons (gName i) (gCons (gName j) gNil))) D σ H := by
  obtain ⟨xs, hx, hk⟩ := bind_some hm
  refine se G H (Ext.refl hs) xs hx _ fun v0 G1 H1 e1 ⟨p0, vs0, ea, ha, l0, rs⟩ => ?_
  match xs, hk, vs0, rs, ha, l0 with
  | [a, b], hk, _, .cons (a := w_a) r_a (.cons (a := w_b) r_b .nil), ha, l0 => exact ⟨p0, _, ea, SqL.of (e1.s _ _ ha), rfl, w_a, [w_b], rfl, w_b, [], rfl, rfl, kont a b w_a w_b G1 H1 e1 r_a r_b hk⟩
theorem st_unl3 {mx : Option (List α)} {k : α → α → α → Option ρ} (hs : Vw G H) (se : SE K te σ G H mx) (hm : (mx.bind fun xs => unl3 xs k) = some out)
    (kont : ∀ a b c w_a w_b w_c G1 H1, Ext G H G1 H1 → rep K G1 w_a a → rep K G1 w_b b → rep K G1 w_c c → k a b c = some out → D.nx (((σ.set i (some w_a)).set j (some w_b)).set l (some w_c)) H1) : tAsg te (gUnl K 3 (gCons (gName i) (gCons (gName j) (gCons (gName l) gNil)))) D σ H := by
  obtain ⟨xs, hx, hk⟩ := bind_some hm
  refine se G H (Ext.refl hs) xs hx _ fun v0 G1 H1 e1 ⟨p0, vs0, ea, ha, l0, rs⟩ => ?_
  match xs, hk, vs0, rs, ha, l0 with
  | [a, b, c], hk, _, .cons (a := w_a) r_a (.cons (a := w_b) r_b (.cons (a := w_c) r_c .nil)), ha, l0 => exact ⟨p0, _, ea, SqL.of (e1.s _ _ ha), rfl, w_a, [w_b, w_c], rfl, w_b, [w_c], rfl, w_c, [], rfl, rfl, kont a b c w_a w_b w_c G1 H1 e1 r_a r_b r_c hk⟩
theorem st_unl4 {mx : Option (List α)} {k : α → α → α → α → Option ρ} (hs : Vw G H) (se : SE K te σ G H mx) (hm : (mx.bind fun xs => unl4 xs k) = some out)
    (kont : ∀ a b c d w_a w_b w_c w_d G1 H1, Ext G H G1 H1 → rep K G1 w_a a → rep K G1 w_b b → rep K G1 w_c c → rep K G1 w_d d → k a b c d = some out → D.nx ((((σ.set i (some w_a)).set j (some w_b)).set l (some w_c)).set n (some w_d)) H1) : tAsg te (gUnl K 4 (gCons (gName i) (gCons (gName j) (gCons (gName l) (gCons (gName n) gNil))))) D σ H := by
  obtain ⟨xs, hx, hk⟩ := bind_some hm
  refine se G H (Ext.refl hs) xs hx _ fun v0 G1 H1 e1 ⟨p0, vs0, ea, ha, l0, rs⟩ => ?_
  match xs, hk, vs0, rs, ha, l0 with
  | [a, b, c, d], hk, _, .cons (a := w_a) r_a (.cons (a := w_b) r_b (.cons (a := w_c) r_c (.cons (a := w_d) r_d .nil))), ha, l0 => exact ⟨p0, _, ea, SqL.of (e1.s _ _ ha), rfl, w_a, [w_b, w_c, w_d], rfl, w_b, [w_c, w_d], rfl, w_c, [w_d], rfl, w_d, [], rfl, rfl, kont a b c d w_a w_b w_c w_d G1 H1 e1 r_a r_b r_c r_d hk⟩
theorem st_unl5 {mx : Option (List α)} {k : α → α → α → α → α → Option ρ} (hs : Vw G H) (se : SE K te σ G H mx) (hm : (mx.bind fun xs => unl5 xs k) = some out)
    (kont : ∀ a b c d e w_a w_b w_c w_d w_e G1 H1, Ext G H G1 H1 → rep K G1 w_a a → rep K G1 w_b b → rep K G1 w_c c → rep K G1 w_d d → rep K G1 w_e e → k a b c d e = some out → D.nx (((((σ.set i (some w_a)).set j (some w_b)).set l (some w_c)).set n (some w_d)).set m (some w_e)) H1) : tAsg te (gUnl K 5 (gCons (gName i) (gCons (gName j) (gCons (gName l) (gCons (gName n) (gCons (gName m) gNil)))))) D σ H := by
  obtain ⟨xs, hx, hk⟩ := bind_some hm
  refine se G H (Ext.refl hs) xs hx _ fun v0 G1 H1 e1 ⟨p0, vs0, ea, ha, l0, rs⟩ => ?_
  match xs, hk, vs0, rs, ha, l0 with
  | [a, b, c, d, e], hk, _, .cons (a := w_a) r_a (.cons (a := w_b) r_b (.cons (a := w_c) r_c (.cons (a := w_d) r_d (.cons (a := w_e) r_e .nil)))), ha, l0 => exact ⟨p0, _, ea, SqL.of (e1.s _ _ ha), rfl, w_a, [w_b, w_c, w_d, w_e], rfl, w_b, [w_c, w_d, w_e], rfl, w_c, [w_d, w_e], rfl, w_d, [w_e], rfl, w_e, [], rfl, rfl, kont a b c d e w_a w_b w_c w_d w_e G1 H1 e1 r_a r_b r_c r_d r_e hk⟩
theorem se_add {m n : Option Int} (ha : SE K ta σ G H m) (hb : SE K tb σ G H n) : SE K (tOp (rI0 fun i j => .int (i + j)) ta tb) σ G H (m.bind fun x => n.bind fun y => some (x + y)) := se_op (f := fun x y => some (x + y)) ha hb ro_add
theorem se_addp {x y : Int} (ha : SE K ta σ G H (some x)) (hb : SE K tb σ G H (some y)) : SE K (tOp (rI0 fun i j => .int (i + j)) ta tb) σ G H (some (x + y)) := se_opp (f := fun x y => some (x + y)) ha hb ro_add
theorem se_sub {m n : Option Int} (ha : SE K ta σ G H m) (hb : SE K tb σ G H n) : SE K (tOp (rI0 fun i j => .int (i - j)) ta tb) σ G H (m.bind fun x => n.bind fun y => some (x - y)) := se_op (f := fun x y => some (x - y)) ha hb ro_sub
theorem se_subp {x y : Int} (ha : SE K ta σ G H (some x)) (hb : SE K tb σ G H (some y)) : SE K (tOp (rI0 fun i j => .int (i - j)) ta tb) σ G H (some (x - y)) := se_opp (f := fun x y => some (x - y)) ha hb ro_sub
theorem se_mul {m n : Option Int} (ha : SE K ta σ G H m) (hb : SE K tb σ G H n) : SE K (tOp (rI CMulZ fun i j => .int (i * j)) ta tb) σ G H (m.bind fun x => n.bind fun y => mulO x y) := se_op (f := fun x y => mulO x y) ha hb ro_mul
theorem se_mulp {x y : Int} (ha : SE K ta σ G H (some x)) (hb : SE K tb σ G H (some y)) : SE K (tOp (rI CMulZ fun i j => .int (i * j)) ta tb) σ G H (mulO x y) := se_opp (f := fun x y => mulO x y) ha hb ro_mul
theorem se_div {m n : Option Int} (ha : SE K ta σ G H m) (hb : SE K tb σ G H n) : SE K (tOp (rI CDivZ fun i j => .int (i.fdiv j)) ta tb) σ G H (m.bind fun x => n.bind fun y => divO x y) := se_op (f := fun x y => divO x y) ha hb ro_div
theorem se_divp {x y : Int} (ha : SE K ta σ G H (some x)) (hb : SE K tb σ G H (some y)) : SE K (tOp (rI CDivZ fun i j => .int (i.fdiv j)) ta tb) σ G H (divO x y) := se_opp (f := fun x y => divO x y) ha hb ro_div
theorem se_mod {m n : Option Int} (ha : SE K ta σ G H m) (hb : SE K tb σ G H n) : SE K (tOp (rI (fun _ j => j ≠ 0) fun i j => .int (i.fmod j)) ta tb) σ G H (m.bind fun x => n.bind fun y => modO x y) := se_op (f := fun x y => modO x y) ha hb ro_mod
theorem se_modp {x y : Int} (ha : SE K ta σ G H (some x)) (hb : SE K tb σ G H (some y)) : SE K (tOp (rI (fun _ j => j ≠ 0) fun i j => .int (i.fmod j)) ta tb) σ G H (modO x y) := se_opp (f := fun x y => modO x y) ha hb ro_mod
theorem se_pow {m n : Option Int} (ha : SE K ta σ G H m) (hb : SE K tb σ G H n) : SE K (tOp (rI CPow fun i j => .int (i ^ j.toNat)) ta tb) σ G H (m.bind fun x => n.bind fun y => powO x y) := se_op (f := fun x y => powO x y) ha hb ro_pow
theorem se_powp {x y : Int} (ha : SE K ta σ G H (some x)) (hb : SE K tb σ G H (some y)) : SE K (tOp (rI CPow fun i j => .int (i ^ j.toNat)) ta tb) σ G H (powO x y) := se_opp (f := fun x y => powO x y) ha hb ro_pow
theorem se_shl {m n : Option Int} (ha : SE K ta σ G H m) (hb : SE K tb σ G H n) : SE K (tOp (rI CPow fun i j => .int (i * 2 ^ j.toNat)) ta tb) σ G H (m.bind fun x => n.bind fun y => shlO x y) := se_op (f := fun x y => shlO x y) ha hb ro_shl
theorem se_shlp {x y : Int} (ha : SE K ta σ G H (some x)) (hb : SE K tb σ G H (some y)) : SE K (tOp (rI CPow fun i j => .int (i * 2 ^ j.toNat)) ta tb) σ G H (shlO x y) := se_opp (f := fun x y => shlO x y) ha hb ro_shl
theorem se_shr {m n : Option Int} (ha : SE K ta σ G H m) (hb : SE K tb σ G H n) : SE K (tOp (rI (fun _ j => 0 ≤ j) fun i j => .int (i / 2 ^ j.toNat)) ta tb) σ G H (m.bind fun x => n.bind fun y => shrO x y) := se_op (f := fun x y => shrO x y) ha hb ro_shr
theorem se_shrp {x y : Int} (ha : SE K ta σ G H (some x)) (hb : SE K tb σ G H (some y)) : SE K (tOp (rI (fun _ j => 0 ≤ j) fun i j => .int (i / 2 ^ j.toNat)) ta tb) σ G H (shrO x y) := se_opp (f := fun x y => shrO x y) ha hb ro_shr
theorem se_band {m n : Option Int} (ha : SE K ta σ G H m) (hb : SE K tb σ G H n) : SE K (tOp (rI0 fun i j => .int (Builtin.bitAnd i j)) ta tb) σ G H (m.bind fun x => n.bind fun y => some (Builtin.bitAnd x y)) := se_op (f := fun x y => some (Builtin.bitAnd x y)) ha hb ro_and
theorem se_bandp {x y : Int} (ha : SE K ta σ G H (some x)) (hb : SE K tb σ G H (some y)) : SE K (tOp (rI0 fun i j => .int (Builtin.bitAnd i j)) ta tb) σ G H (some (Builtin.bitAnd x y)) := se_opp (f := fun x y => some (Builtin.bitAnd x y)) ha hb ro_and
theorem se_bxor {m n : Option Int} (ha : SE K ta σ G H m) (hb : SE K tb σ G H n) : SE K (tOp (rI0 fun i j => .int (Builtin.bitXor i j)) ta tb) σ G H (m.bind fun x => n.bind fun y => some (Builtin.bitXor x y)) := se_op (f := fun x y => some (Builtin.bitXor x y)) ha hb ro_xor
theorem se_bxorp {x y : Int} (ha : SE K ta σ G H (some x)) (hb : SE K tb σ G H (some y)) : SE K (tOp (rI0 fun i j => .int (Builtin.bitXor i j)) ta tb) σ G H (some (Builtin.bitXor x y)) := se_opp (f := fun x y => some (Builtin.bitXor x y)) ha hb ro_xor
theorem se_lt {m n : Option Int} (ha : SE K ta σ G H m) (hb : SE K tb σ G H n) : SE K (tOp (rI0 fun i j => .bl (decide (i < j))) ta tb) σ G H (m.bind fun x => n.bind fun y => some (decide (x < y))) := se_op (f := fun x y => some (decide (x < y))) ha hb ro_lt
theorem se_ltp {x y : Int} (ha : SE K ta σ G H (some x)) (hb : SE K tb σ G H (some y)) : SE K (tOp (rI0 fun i j => .bl (decide (i < j))) ta tb) σ G H (some (decide (x < y))) := se_opp (f := fun x y => some (decide (x < y))) ha hb ro_lt
theorem se_le {m n : Option Int} (ha : SE K ta σ G H m) (hb : SE K tb σ G H n) : SE K (tOp (rI0 fun i j => .bl (decide (i ≤ j))) ta tb) σ G H (m.bind fun x => n.bind fun y => some (decide (x ≤ y))) := se_op (f := fun x y => some (decide (x ≤ y))) ha hb ro_le
theorem se_lep {x y : Int} (ha : SE K ta σ G H (some x)) (hb : SE K tb σ G H (some y)) : SE K (tOp (rI0 fun i j => .bl (decide (i ≤ j))) ta tb) σ G H (some (decide (x ≤ y))) := se_opp (f := fun x y => some (decide (x ≤ y))) ha hb ro_le
theorem se_gt {m n : Option Int} (ha : SE K ta σ G H m) (hb : SE K tb σ G H n) : SE K (tOp (rI0 fun i j => .bl (decide (j < i))) ta tb) σ G H (m.bind fun x => n.bind fun y => some (decide (y < x))) := se_op (f := fun x y => some (decide (y < x))) ha hb ro_gt
theorem se_gtp {x y : Int} (ha : SE K ta σ G H (some x)) (hb : SE K tb σ G H (some y)) : SE K (tOp (rI0 fun i j => .bl (decide (j < i))) ta tb) σ G H (some (decide (y < x))) := se_opp (f := fun x y => some (decide (y < x))) ha hb ro_gt
theorem se_ge {m n : Option Int} (ha : SE K ta σ G H m) (hb : SE K tb σ G H n) : SE K (tOp (rI0 fun i j => .bl (decide (j ≤ i))) ta tb) σ G H (m.bind fun x => n.bind fun y => some (decide (y ≤ x))) := se_op (f := fun x y => some (decide (y ≤ x))) ha hb ro_ge
theorem se_gep {x y : Int} (ha : SE K ta σ G H (some x)) (hb : SE K tb σ G H (some y)) : SE K (tOp (rI0 fun i j => .bl (decide (j ≤ i))) ta tb) σ G H (some (decide (y ≤ x))) := se_opp (f := fun x y => some (decide (y ≤ x))) ha hb ro_ge
theorem se_eq [DecidableEq α] [Sc α] {m : Option α} {n : Option α} (ha : SE K ta σ G H m) (hb : SE K tb σ G H n) : SE K (tOp (rEq) ta tb) σ G H (m.bind fun x => n.bind fun y => some (decide (x = y))) := se_op (f := fun x y => some (decide (x = y))) ha hb ro_eq
theorem se_eqp [DecidableEq α] [Sc α] {x : α} {y : α} (ha : SE K ta σ G H (some x)) (hb : SE K tb σ G H (some y)) : SE K (tOp (rEq) ta tb) σ G H (some (decide (x = y))) := se_opp (f := fun x y => some (decide (x = y))) ha hb ro_eq
theorem se_ne [DecidableEq α] [Sc α] {m : Option α} {n : Option α} (ha : SE K ta σ G H m) (hb : SE K tb σ G H n) : SE K (tOp (rNe) ta tb) σ G H (m.bind fun x => n.bind fun y => some (!decide (x = y))) := se_op (f := fun x y => some (!decide (x = y))) ha hb ro_ne
theorem se_nep [DecidableEq α] [Sc α] {x : α} {y : α} (ha : SE K ta σ G H (some x)) (hb : SE K tb σ G H (some y)) : SE K (tOp (rNe) ta tb) σ G H (some (!decide (x = y))) := se_opp (f := fun x y => some (!decide (x = y))) ha hb ro_ne
theorem se_eqD [DecidableEq α] [RpD α] {m n : Option α} (ha : SE K ta σ G H m) (hb : SE K tb σ G H n) (hd : RpD.dep α ≤ 64 := by first | decide | exact Nat.le_of_ble_eq_true rfl) : SE K (tOp (rEqD K) ta tb) σ G H (m.bind fun x => n.bind fun y => some (decide (x = y))) := se_op (f := fun x y => some (decide (x = y))) ha hb (ro_eqD hd)
theorem se_eqDp [DecidableEq α] [RpD α] {x y : α} (ha : SE K ta σ G H (some x)) (hb : SE K tb σ G H (some y)) (hd : RpD.dep α ≤ 64 := by first | decide | exact Nat.le_of_ble_eq_true rfl) : SE K (tOp (rEqD K) ta tb) σ G H (some (decide (x = y))) := se_opp (f := fun x y => some (decide (x = y))) ha hb (ro_eqD hd)
theorem se_neD [DecidableEq α] [RpD α] {m n : Option α} (ha : SE K ta σ G H m) (hb : SE K tb σ G H n) (hd : RpD.dep α ≤ 64 := by first | decide | exact Nat.le_of_ble_eq_true rfl) : SE K (tOp (rNeD K) ta tb) σ G H (m.bind fun x => n.bind fun y => some (!decide (x = y))) := se_op (f := fun x y => some (!decide (x = y))) ha hb (ro_neD hd)
theorem se_neDp [DecidableEq α] [RpD α] {x y : α} (ha : SE K ta σ G H (some x)) (hb : SE K tb σ G H (some y)) (hd : RpD.dep α ≤ 64 := by first | decide | exact Nat.le_of_ble_eq_true rfl) : SE K (tOp (rNeD K) ta tb) σ G H (some (!decide (x = y))) := se_opp (f := fun x y => some (!decide (x = y))) ha hb (ro_neD hd)
theorem se_in [DecidableEq α] [RpF α] {m : Option α} {n : Option (List α)} (ha : SE K ta σ G H m) (hb : SE K tb σ G H n) : SE K (tOp (rIn K false) ta tb) σ G H (m.bind fun x => n.bind fun y => some (decide (x ∈ y))) := se_op (f := fun x y => some (decide (x ∈ y))) ha hb ro_in
theorem se_inp [DecidableEq α] [RpF α] {x : α} {y : (List α)} (ha : SE K ta σ G H (some x)) (hb : SE K tb σ G H (some y)) : SE K (tOp (rIn K false) ta tb) σ G H (some (decide (x ∈ y))) := se_opp (f := fun x y => some (decide (x ∈ y))) ha hb ro_in
theorem se_notIn [DecidableEq α] [RpF α] {m : Option α} {n : Option (List α)} (ha : SE K ta σ G H m) (hb : SE K tb σ G H n) : SE K (tOp (rIn K true) ta tb) σ G H (m.bind fun x => n.bind fun y => some (!decide (x ∈ y))) := se_op (f := fun x y => some (!decide (x ∈ y))) ha hb ro_notIn
theorem se_notInp [DecidableEq α] [RpF α] {x : α} {y : (List α)} (ha : SE K ta σ G H (some x)) (hb : SE K tb σ G H (some y)) : SE K (tOp (rIn K true) ta tb) σ G H (some (!decide (x ∈ y))) := se_opp (f := fun x y => some (!decide (x ∈ y))) ha hb ro_notIn
theorem ro_inT [DecidableEq α] [RpF α] : RO K (rIn K false) (fun (x : α) (xs : TL α) => some (decide (x ∈ xs.l))) := fun {G H v w x y z} s hv ⟨a, vs, e, h, l, rs⟩ hz Q q => by
  cases (show some _ = some z from hz)
  exact ⟨a, vs, e, .inr (same_tup s h), RpF.flat hv, flats rs, by
    rw [in_reps hv rs]
    exact q _ G H (Ext.refl s) rfl⟩
theorem ro_notInT [DecidableEq α] [RpF α] : RO K (rIn K true) (fun (x : α) (xs : TL α) => some (!decide (x ∈ xs.l))) := fun {G H v w x y z} s hv ⟨a, vs, e, h, l, rs⟩ hz Q q => by
  cases (show some _ = some z from hz)
  exact ⟨a, vs, e, .inr (same_tup s h), RpF.flat hv, flats rs, by
    rw [in_reps hv rs]
    exact q _ G H (Ext.refl s) rfl⟩
theorem ro_inK [DecidableEq α] [RpF α] : RO K (rIn K false) (fun (x : α) (xs : KL α) => some (decide (x ∈ xs.l))) := fun {G H v w x y z} s hv ⟨a, vs, e, h, l, rs⟩ hz Q q => by
  cases (show some _ = some z from hz)
  exact ⟨a, vs, e, .inl (s.seq h), RpF.flat hv, flats rs, by
    rw [in_reps hv rs]
    exact q _ G H (Ext.refl s) rfl⟩
theorem ro_notInK [DecidableEq α] [RpF α] : RO K (rIn K true) (fun (x : α) (xs : KL α) => some (!decide (x ∈ xs.l))) := fun {G H v w x y z} s hv ⟨a, vs, e, h, l, rs⟩ hz Q q => by
  cases (show some _ = some z from hz)
  exact ⟨a, vs, e, .inl (s.seq h), RpF.flat hv, flats rs, by
    rw [in_reps hv rs]
    exact q _ G H (Ext.refl s) rfl⟩
theorem se_inT [DecidableEq α] [RpF α] {m : Option α} {n : Option (TL α)} (ha : SE K ta σ G H m) (hb : SE K tb σ G H n) : SE K (tOp (rIn K false) ta tb) σ G H (m.bind fun x => n.bind fun y => some (decide (x ∈ y.l))) := se_op (f := fun x y => some (decide (x ∈ y.l))) ha hb ro_inT
theorem se_inTp [DecidableEq α] [RpF α] {x : α} {y : (TL α)} (ha : SE K ta σ G H (some x)) (hb : SE K tb σ G H (some y)) : SE K (tOp (rIn K false) ta tb) σ G H (some (decide (x ∈ y.l))) := se_opp (f := fun x y => some (decide (x ∈ y.l))) ha hb ro_inT
theorem se_notInT [DecidableEq α] [RpF α] {m : Option α} {n : Option (TL α)} (ha : SE K ta σ G H m) (hb : SE K tb σ G H n) : SE K (tOp (rIn K true) ta tb) σ G H (m.bind fun x => n.bind fun y => some (!decide (x ∈ y.l))) := se_op (f := fun x y => some (!decide (x ∈ y.l))) ha hb ro_notInT
theorem se_notInTp [DecidableEq α] [RpF α] {x : α} {y : (TL α)} (ha : SE K ta σ G H (some x)) (hb : SE K tb σ G H (some y)) : SE K (tOp (rIn K true) ta tb) σ G H (some (!decide (x ∈ y.l))) := se_opp (f := fun x y => some (!decide (x ∈ y.l))) ha hb ro_notInT
theorem se_inK [DecidableEq α] [RpF α] {m : Option α} {n : Option (KL α)} (ha : SE K ta σ G H m) (hb : SE K tb σ G H n) : SE K (tOp (rIn K false) ta tb) σ G H (m.bind fun x => n.bind fun y => some (decide (x ∈ y.l))) := se_op (f := fun x y => some (decide (x ∈ y.l))) ha hb ro_inK
theorem se_inKp [DecidableEq α] [RpF α] {x : α} {y : (KL α)} (ha : SE K ta σ G H (some x)) (hb : SE K tb σ G H (some y)) : SE K (tOp (rIn K false) ta tb) σ G H (some (decide (x ∈ y.l))) := se_opp (f := fun x y => some (decide (x ∈ y.l))) ha hb ro_inK
theorem se_notInK [DecidableEq α] [RpF α] {m : Option α} {n : Option (KL α)} (ha : SE K ta σ G H m) (hb : SE K tb σ G H n) : SE K (tOp (rIn K true) ta tb) σ G H (m.bind fun x => n.bind fun y => some (!decide (x ∈ y.l))) := se_op (f := fun x y => some (!decide (x ∈ y.l))) ha hb ro_notInK
theorem se_notInKp [DecidableEq α] [RpF α] {x : α} {y : (KL α)} (ha : SE K ta σ G H (some x)) (hb : SE K tb σ G H (some y)) : SE K (tOp (rIn K true) ta tb) σ G H (some (!decide (x ∈ y.l))) := se_opp (f := fun x y => some (!decide (x ∈ y.l))) ha hb ro_notInK
theorem se_ix  {m : Option (List α)} {n : Option Int} (ha : SE K ta σ G H m) (hb : SE K tb σ G H n) : SE K (tOp (rIxL K) ta tb) σ G H (m.bind fun x => n.bind fun y => ixO x y) := se_op (f := fun x y => ixO x y) ha hb ro_ix
theorem se_ixp  {x : (List α)} {y : Int} (ha : SE K ta σ G H (some x)) (hb : SE K tb σ G H (some y)) : SE K (tOp (rIxL K) ta tb) σ G H (ixO x y) := se_opp (f := fun x y => ixO x y) ha hb ro_ix
theorem se_ixK  {m : Option (KL α)} {n : Option Int} (ha : SE K ta σ G H m) (hb : SE K tb σ G H n) : SE K (tOp (rIxL K) ta tb) σ G H (m.bind fun x => n.bind fun y => ixO x.l y) := se_op (f := fun x y => ixO x.l y) ha hb ro_ixK
theorem se_ixKp  {x : (KL α)} {y : Int} (ha : SE K ta σ G H (some x)) (hb : SE K tb σ G H (some y)) : SE K (tOp (rIxL K) ta tb) σ G H (ixO x.l y) := se_opp (f := fun x y => ixO x.l y) ha hb ro_ixK
theorem se_ixT  {m : Option (TL α)} {n : Option Int} (ha : SE K ta σ G H m) (hb : SE K tb σ G H n) : SE K (tOp (rIxT K) ta tb) σ G H (m.bind fun x => n.bind fun y => ixO x.l y) := se_op (f := fun x y => ixO x.l y) ha hb ro_ixT
theorem se_ixTp  {x : (TL α)} {y : Int} (ha : SE K ta σ G H (some x)) (hb : SE K tb σ G H (some y)) : SE K (tOp (rIxT K) ta tb) σ G H (ixO x.l y) := se_opp (f := fun x y => ixO x.l y) ha hb ro_ixT
theorem se_len {m : Option (List α)} (ha : SE K ta σ G H m) : SE K (tCB (fun xs H Q => ∃ p ys, xs = [.ref p] ∧ (SqL K H p ys ∨ SqT K H p ys) ∧ Q (.int ys.length) H) (tCons ta tNil)) σ G H (m.bind fun x => some (x.length : Int)) := se_cb1 (f := fun x => some (x.length : Int)) ha rc_len
theorem se_lenp {x : (List α)} (ha : SE K ta σ G H (some x)) : SE K (tCB (fun xs H Q => ∃ p ys, xs = [.ref p] ∧ (SqL K H p ys ∨ SqT K H p ys) ∧ Q (.int ys.length) H) (tCons ta tNil)) σ G H (some (x.length : Int)) := se_cb1p (f := fun x => some (x.length : Int)) ha rc_len
theorem se_lenK {m : Option (KL α)} (ha : SE K ta σ G H m) : SE K (tCB (fun xs H Q => ∃ p ys, xs = [.ref p] ∧ (SqL K H p ys ∨ SqT K H p ys) ∧ Q (.int ys.length) H) (tCons ta tNil)) σ G H (m.bind fun x => some (x.l.length : Int)) := se_cb1 (f := fun x => some (x.l.length : Int)) ha rc_lenK
theorem se_lenKp {x : (KL α)} (ha : SE K ta σ G H (some x)) : SE K (tCB (fun xs H Q => ∃ p ys, xs = [.ref p] ∧ (SqL K H p ys ∨ SqT K H p ys) ∧ Q (.int ys.length) H) (tCons ta tNil)) σ G H (some (x.l.length : Int)) := se_cb1p (f := fun x => some (x.l.length : Int)) ha rc_lenK
theorem se_lenT {m : Option (TL α)} (ha : SE K ta σ G H m) : SE K (tCB (fun xs H Q => ∃ p ys, xs = [.ref p] ∧ (SqL K H p ys ∨ SqT K H p ys) ∧ Q (.int ys.length) H) (tCons ta tNil)) σ G H (m.bind fun x => some (x.l.length : Int)) := se_cb1 (f := fun x => some (x.l.length : Int)) ha rc_lenT
theorem se_lenTp {x : (TL α)} (ha : SE K ta σ G H (some x)) : SE K (tCB (fun xs H Q => ∃ p ys, xs = [.ref p] ∧ (SqL K H p ys ∨ SqT K H p ys) ∧ Q (.int ys.length) H) (tCons ta tNil)) σ G H (some (x.l.length : Int)) := se_cb1p (f := fun x => some (x.l.length : Int)) ha rc_lenT
theorem se_len2 {m : Option (α × β)} (ha : SE K ta σ G H m) : SE K (tCB (fun xs H Q => ∃ p ys, xs = [.ref p] ∧ (SqL K H p ys ∨ SqT K H p ys) ∧ Q (.int ys.length) H) (tCons ta tNil)) σ G H (m.bind fun x => some (2 : Int)) := se_cb1 (f := fun x => some (2 : Int)) ha rc_len2
theorem se_len2p {x : (α × β)} (ha : SE K ta σ G H (some x)) : SE K (tCB (fun xs H Q => ∃ p ys, xs = [.ref p] ∧ (SqL K H p ys ∨ SqT K H p ys) ∧ Q (.int ys.length) H) (tCons ta tNil)) σ G H (some (2 : Int)) := se_cb1p (f := fun x => some (2 : Int)) ha rc_len2
theorem se_len3 {m : Option (T3 α β γ)} (ha : SE K ta σ G H m) : SE K (tCB (fun xs H Q => ∃ p ys, xs = [.ref p] ∧ (SqL K H p ys ∨ SqT K H p ys) ∧ Q (.int ys.length) H) (tCons ta tNil)) σ G H (m.bind fun x => some (3 : Int)) := se_cb1 (f := fun x => some (3 : Int)) ha rc_len3
theorem se_len3p {x : (T3 α β γ)} (ha : SE K ta σ G H (some x)) : SE K (tCB (fun xs H Q => ∃ p ys, xs = [.ref p] ∧ (SqL K H p ys ∨ SqT K H p ys) ∧ Q (.int ys.length) H) (tCons ta tNil)) σ G H (some (3 : Int)) := se_cb1p (f := fun x => some (3 : Int)) ha rc_len3
theorem se_len4 {m : Option (T4 α β γ δ)} (ha : SE K ta σ G H m) : SE K (tCB (fun xs H Q => ∃ p ys, xs = [.ref p] ∧ (SqL K H p ys ∨ SqT K H p ys) ∧ Q (.int ys.length) H) (tCons ta tNil)) σ G H (m.bind fun x => some (4 : Int)) := se_cb1 (f := fun x => some (4 : Int)) ha rc_len4
theorem se_len4p {x : (T4 α β γ δ)} (ha : SE K ta σ G H (some x)) : SE K (tCB (fun xs H Q => ∃ p ys, xs = [.ref p] ∧ (SqL K H p ys ∨ SqT K H p ys) ∧ Q (.int ys.length) H) (tCons ta tNil)) σ G H (some (4 : Int)) := se_cb1p (f := fun x => some (4 : Int)) ha rc_len4
theorem se_abs {m : Option Int} (ha : SE K ta σ G H m) : SE K (tCB (fun xs H Q => ∃ i, xs = [.int i] ∧ Q (.int (if i < 0 then -i else i)) H) (tCons ta tNil)) σ G H (m.bind fun x => some (x.natAbs : Int)) := se_cb1 (f := fun x => some (x.natAbs : Int)) ha rc_abs
theorem se_absp {x : Int} (ha : SE K ta σ G H (some x)) : SE K (tCB (fun xs H Q => ∃ i, xs = [.int i] ∧ Q (.int (if i < 0 then -i else i)) H) (tCons ta tNil)) σ G H (some (x.natAbs : Int)) := se_cb1p (f := fun x => some (x.natAbs : Int)) ha rc_abs
theorem se_sum {m : Option (List Int)} (ha : SE K ta σ G H m) : SE K (tCB (rSum K) (tCons ta tNil)) σ G H (m.bind fun x => some x.sum) := se_cb1 (f := fun x => some x.sum) ha rc_sum
theorem se_sump {x : (List Int)} (ha : SE K ta σ G H (some x)) : SE K (tCB (rSum K) (tCons ta tNil)) σ G H (some x.sum) := se_cb1p (f := fun x => some x.sum) ha rc_sum
theorem se_all {m : Option (List Bool)} (ha : SE K ta σ G H m) : SE K (tCB (rAll K) (tCons ta tNil)) σ G H (m.bind fun x => some (x.all id)) := se_cb1 (f := fun x => some (x.all id)) ha rc_all
theorem se_allp {x : (List Bool)} (ha : SE K ta σ G H (some x)) : SE K (tCB (rAll K) (tCons ta tNil)) σ G H (some (x.all id)) := se_cb1p (f := fun x => some (x.all id)) ha rc_all
theorem se_any {m : Option (List Bool)} (ha : SE K ta σ G H m) : SE K (tCB (rAny K) (tCons ta tNil)) σ G H (m.bind fun x => some (x.any id)) := se_cb1 (f := fun x => some (x.any id)) ha rc_any
theorem se_anyp {x : (List Bool)} (ha : SE K ta σ G H (some x)) : SE K (tCB (rAny K) (tCons ta tNil)) σ G H (some (x.any id)) := se_cb1p (f := fun x => some (x.any id)) ha rc_any
theorem se_max1 {m : Option (List Int)} (ha : SE K ta σ G H m) : SE K (tCB (rMax K) (tCons ta tNil)) σ G H (m.bind fun x => maxO x) := se_cb1 (f := fun x => maxO x) ha rc_max
theorem se_max1p {x : (List Int)} (ha : SE K ta σ G H (some x)) : SE K (tCB (rMax K) (tCons ta tNil)) σ G H (maxO x) := se_cb1p (f := fun x => maxO x) ha rc_max
theorem se_min1 {m : Option (List Int)} (ha : SE K ta σ G H m) : SE K (tCB (rMin K) (tCons ta tNil)) σ G H (m.bind fun x => minO x) := se_cb1 (f := fun x => minO x) ha rc_min
theorem se_min1p {x : (List Int)} (ha : SE K ta σ G H (some x)) : SE K (tCB (rMin K) (tCons ta tNil)) σ G H (minO x) := se_cb1p (f := fun x => minO x) ha rc_min
theorem se_int1 {m : Option Int} (ha : SE K ta σ G H m) : SE K (tCB (fun xs H Q => (∃ i, xs = [.int i] ∧ Q (.int i) H) ∨ ∃ k, xs = [.bl k] ∧ Q (.int (if k then 1 else 0)) H) (tCons ta tNil)) σ G H (m.bind fun x => some x) := se_cb1 (f := fun x => some x) ha rc_int
theorem se_int1p {x : Int} (ha : SE K ta σ G H (some x)) : SE K (tCB (fun xs H Q => (∃ i, xs = [.int i] ∧ Q (.int i) H) ∨ ∃ k, xs = [.bl k] ∧ Q (.int (if k then 1 else 0)) H) (tCons ta tNil)) σ G H (some x) := se_cb1p (f := fun x => some x) ha rc_int
theorem se_intb {m : Option Bool} (ha : SE K ta σ G H m) : SE K (tCB (fun xs H Q => (∃ i, xs = [.int i] ∧ Q (.int i) H) ∨ ∃ k, xs = [.bl k] ∧ Q (.int (if k then 1 else 0)) H) (tCons ta tNil)) σ G H (m.bind fun x => some (if x then (1 : Int) else 0)) := se_cb1 (f := fun x => some (if x then (1 : Int) else 0)) ha rc_intb
theorem se_intbp {x : Bool} (ha : SE K ta σ G H (some x)) : SE K (tCB (fun xs H Q => (∃ i, xs = [.int i] ∧ Q (.int i) H) ∨ ∃ k, xs = [.bl k] ∧ Q (.int (if k then 1 else 0)) H) (tCons ta tNil)) σ G H (some (if x then (1 : Int) else 0)) := se_cb1p (f := fun x => some (if x then (1 : Int) else 0)) ha rc_intb
theorem se_max2 {m n : Option Int} (ha : SE K ta σ G H m) (hb : SE K tb σ G H n) : SE K (tCB (fun xs H Q => ∃ i j, xs = [.int i, .int j] ∧ Q (.int (if j > i then j else i)) H) (tCons ta (tCons tb tNil))) σ G H (m.bind fun x => n.bind fun y => some (max x y)) := se_cb2 (f := fun x y => some (max x y)) ha hb rc_max2
theorem se_max2p {x y : Int} (ha : SE K ta σ G H (some x)) (hb : SE K tb σ G H (some y)) : SE K (tCB (fun xs H Q => ∃ i j, xs = [.int i, .int j] ∧ Q (.int (if j > i then j else i)) H) (tCons ta (tCons tb tNil))) σ G H (some (max x y)) := se_cb2p (f := fun x y => some (max x y)) ha hb rc_max2
theorem se_min2 {m n : Option Int} (ha : SE K ta σ G H m) (hb : SE K tb σ G H n) : SE K (tCB (fun xs H Q => ∃ i j, xs = [.int i, .int j] ∧ Q (.int (if j < i then j else i)) H) (tCons ta (tCons tb tNil))) σ G H (m.bind fun x => n.bind fun y => some (min x y)) := se_cb2 (f := fun x y => some (min x y)) ha hb rc_min2
theorem se_min2p {x y : Int} (ha : SE K ta σ G H (some x)) (hb : SE K tb σ G H (some y)) : SE K (tCB (fun xs H Q => ∃ i j, xs = [.int i, .int j] ∧ Q (.int (if j < i then j else i)) H) (tCons ta (tCons tb tNil))) σ G H (some (min x y)) := se_cb2p (f := fun x y => some (min x y)) ha hb rc_min2
/-! ### range with a step, sorted -/
theorem insI_perm : ∀ (x : Int) (r : List Int), (insI x r).Perm (x :: r)
  | x, [] => List.Perm.refl _
  | x, y :: r => by
    unfold insI
    split
    · exact List.Perm.refl _
    · exact (List.Perm.cons y (insI_perm x r)).trans (List.Perm.swap x y r)
theorem sortI_perm : ∀ r : List Int, (sortI r).Perm r
  | [] => List.Perm.refl _
  | x :: r => (insI_perm x (sortI r)).trans (List.Perm.cons x (sortI_perm r))
theorem insI_sorted : ∀ (x : Int) (r : List Int), r.Pairwise (· ≤ ·) → (insI x r).Pairwise (· ≤ ·)
  | x, [], _ => List.pairwise_singleton _ _
  | x, y :: r, h => by
    unfold insI
    rw [List.pairwise_cons] at h
    split
    · rename_i hl
      rw [List.pairwise_cons, List.pairwise_cons]
      refine ⟨fun z hz => ?_, h⟩
      rcases List.mem_cons.mp hz with q | q
      · omega
      · have := h.1 z q
        omega
    · rename_i hl
      rw [List.pairwise_cons]
      refine ⟨fun z hz => ?_, insI_sorted x r h.2⟩
      rcases List.mem_cons.mp ((insI_perm x r).mem_iff.mp hz) with q | q
      · omega
      · exact h.1 z q
theorem sortI_sorted : ∀ r : List Int, (sortI r).Pairwise (· ≤ ·)
  | [] => List.Pairwise.nil
  | x :: r => insI_sorted x (sortI r) (sortI_sorted r)
theorem sorted_one : ∀ {a b : List Int}, a.Perm b → a.Pairwise (· ≤ ·) → b.Pairwise (· ≤ ·) → a = b
  | [], b, h, _, _ => (List.Perm.nil_eq h)
  | x :: a, [], h, _, _ => absurd h.length_eq (by simp)
  | x :: a, y :: b, h, ha, hb => by
    have ha2 := List.pairwise_cons.mp ha
    have hb2 := List.pairwise_cons.mp hb
    have h1 : x ≤ y := by
      rcases List.mem_cons.mp (h.mem_iff.mpr List.mem_cons_self) with q | q
      · omega
      · exact ha2.1 y q
    have h2 : y ≤ x := by
      rcases List.mem_cons.mp (h.mem_iff.mp List.mem_cons_self) with q | q
      · omega
      · exact hb2.1 x q
    have e : x = y := by omega
    subst e
    rw [sorted_one (List.Perm.cons_inv h) ha2.2 hb2.2]
theorem fe_sorted {m : Option (List Int)} (h : SE K te σ G H m) : FE K (tCB (rSortedI K) (tCons te tNil)) σ G H (m.bind fun xs => some (sortI xs)) := fun G1 H1 e r hm Q q => by
  obtain ⟨xs, hx, hm⟩ := bind_some hm
  cases hm
  refine h G1 H1 e xs hx _ fun v G2 H2 e2 ⟨a, vs, ea, ha, l, rs⟩ => ?_
  have e3 := rs.ints
  subst e3
  refine ⟨a, xs, by rw [ea], SqL.of (e2.s _ _ ha), fun ys p hp hs np => ?_⟩
  have ey : ys = sortI xs := sorted_one (hp.trans (sortI_perm xs).symm) hs (sortI_sorted xs)
  rw [List.length_map] at l
  have o := own_new (K := K) (ds := ys) (vs := ys.map V.int) e2.s np (by rw [List.length_map, hp.length_eq]; exact l) (reps_ints ys)
  rw [← ey] at q
  exact q p G2 _ (e2.trans (Ext.own e2.s np)) ⟨e2.h.free np, o.g, o.h⟩
theorem fe_sortedp {xs : List Int} (h : SE K te σ G H (some xs)) : FE K (tCB (rSortedI K) (tCons te tNil)) σ G H (some (sortI xs)) := fe_sorted h
theorem size_up {lo hi c : Int} (hc : 0 < c) : Builtin.Range.rangeSize lo hi c = (((hi - lo + c - 1) / c).toNat : Int) := by
  unfold Builtin.Range.rangeSize
  rw [if_pos hc]
  split
  · rename_i h
    have e : hi - lo + c - 1 = (hi - lo - 1) + c * 1 := by omega
    have e2 : (hi - lo + c - 1) / c = (hi - lo - 1) / c + 1 := by rw [e, Int.add_mul_ediv_left _ _ (by omega)]
    have := Int.ediv_nonneg (show 0 ≤ hi - lo - 1 by omega) (show 0 ≤ c by omega)
    omega
  · rename_i h
    have e2 : (hi - lo + c - 1) / c < 1 := Int.ediv_lt_of_lt_mul hc (by omega)
    omega
theorem size_le {lo hi c : Int} (hc : 0 < c) : Builtin.Range.rangeSize lo hi c ≤ (hi - lo).toNat := by
  unfold Builtin.Range.rangeSize
  rw [if_pos hc]
  split
  · rename_i h
    have := Int.ediv_le_self c (show 0 ≤ hi - lo - 1 by omega)
    omega
  · omega
theorem small_up {a b c : Int} (hc : 0 < c) (hc2 : c < 2 ^ 20) (h : -(2 ^ 61) ≤ a ∧ a < 2 ^ 61 ∧ -(2 ^ 61) ≤ b ∧ b < 2 ^ 61) : Builtin.Range.small a b c = true := by
  unfold Builtin.Range.small
  have h1 := size_le (lo := a) (hi := b) hc
  have h2 := size_up (lo := a) (hi := b) hc
  generalize Builtin.Range.rangeSize a b c = n at h1 h2 ⊢
  simp only [Builtin.Range.rangeFitsLong, Bool.and_eq_true, Bool.or_eq_true, decide_eq_true_eq, beq_iff_eq, hc, gt_iff_lt, if_true]
  omega
theorem ie_range3 {c : Int} {m n : Option Int} (hc : 0 < c ∧ c < 2 ^ 20) (h1 : SE K ta σ G H m) (h2 : SE K tb σ G H n) : IE K (iRng3 (tCons ta (tCons tb (tCons (tC (.int c)) tNil)))) σ G H (m.bind fun lo => n.bind fun hi => rangeS lo hi c) := fun G1 H1 e xs hm R q => by
  obtain ⟨lo, hlo, hm⟩ := bind_some hm
  obtain ⟨hi, hhi, hm⟩ := bind_some hm
  unfold rangeS at hm
  split at hm
  · rename_i b
    cases hm
    refine h1 G1 H1 e lo hlo _ fun v G2 H2 e2 hv => ?_
    refine h2 G2 H2 (e.trans e2) hi hhi _ fun w G3 H3 e3 hw => ?_
    refine ⟨lo, hi, c, ((hi - lo + c - 1) / c).toNat, by rw [show v = .int lo from hv, show w = .int hi from hw], ⟨by omega, by omega, small_up hc.1 hc.2 b, size_up hc.1⟩, q _ G3 H3 (e2.trans e3) ?_⟩
    generalize ((hi - lo + c - 1) / c).toNat = n
    refine ⟨fun i G H _ _ h => ?_, fun i x G H s1 s2 h => ?_⟩
    · show n ≤ i
      rwa [List.length_map, List.length_range] at h
    · have hi2 : i < n := by
        obtain ⟨q, _⟩ := List.getElem?_eq_some_iff.mp h
        rwa [List.length_map, List.length_range] at q
      refine ⟨hi2, fun v H' ⟨e1, e2⟩ => ?_⟩
      subst e1
      refine ⟨G, Ext.refl s2, ?_⟩
      rw [List.getElem?_map, List.getElem?_range hi2] at h
      cases h
      exact e2
  · cases hm
theorem ie_range3p {c lo hi : Int} (hc : 0 < c ∧ c < 2 ^ 20) (h1 : SE K ta σ G H (some lo)) (h2 : SE K tb σ G H (some hi)) : IE K (iRng3 (tCons ta (tCons tb (tCons (tC (.int c)) tNil)))) σ G H (rangeS lo hi c) := ie_range3 hc h1 h2
/-! a list of one's own read as a value, and changed later: shown for the time of the reading -/
class ScV (α : Type) [Rp α] : Prop where
  any : ∀ {K : PySem.W.Frag} {G G' : Hp} {v : V} {x : α}, rep K G v x → rep K G' v x
instance : ScV Int := ⟨fun h => h⟩
instance : ScV Bool := ⟨fun h => h⟩
instance : ScV Str := ⟨fun h => h⟩
instance : ScV Unit := ⟨fun h => h⟩
theorem se_tmp [ScV β] {p : Addr} {ds : List α} (o : Own K H0 G H p ds) (h : ∀ vs, Same G (upd G p (.lst vs)) → rep K (upd G p (.lst vs)) (.ref p) ds → SE K te σ (upd G p (.lst vs)) H mb) : SE K te σ G H mb := fun G1 H1 e r hm Q q => by
  obtain ⟨vs, hp, l, rs⟩ := o.h
  have o1 := o.mono e
  have hp1 : H1 p = some (.lst vs) := e.h.k _ _ hp
  have s0 := h vs (same_new o.g) ⟨p, vs, rfl, upd_same, l, rs.mono (same_new o.g)⟩
  have e1 : Ext (upd G p (.lst vs)) H (upd G1 p (.lst vs)) H1 := ext_up e hp1
  refine s0 _ _ e1 r hm _ fun v G2 H2 e2 hv => q v G1 H2 ⟨Same.refl _, ?_, e2.h, fun _ _ => rfl⟩ (ScV.any hv)
  exact e2.s.less ((same_new o1.g).trans e2.g)
theorem st_tmp {p : Addr} {ds : List α} {m : Option Bool} (o : Own K H0 G H p ds) (h : ∀ vs, Same G (upd G p (.lst vs)) → rep K (upd G p (.lst vs)) (.ref p) ds → ST tc σ (upd G p (.lst vs)) H m) : ST tc σ G H m := fun G1 H1 e r hm Q q => by
  obtain ⟨vs, hp, l, rs⟩ := o.h
  have o1 := o.mono e
  have hp1 : H1 p = some (.lst vs) := e.h.k _ _ hp
  have s0 := h vs (same_new o.g) ⟨p, vs, rfl, upd_same, l, rs.mono (same_new o.g)⟩
  have e1 : Ext (upd G p (.lst vs)) H (upd G1 p (.lst vs)) H1 := ext_up e hp1
  refine s0 _ _ e1 r hm _ fun G2 H2 e2 => q G1 H2 ⟨Same.refl _, ?_, e2.h, fun _ _ => rfl⟩
  exact e2.s.less ((same_new o1.g).trans e2.g)
/-! a place in a written tuple -/
theorem ro_inP2 [DecidableEq α] [RpF α] : RO K (rIn K false) (fun (x : α) (y : α × α) => some (decide (x ∈ [y.1, y.2]))) := fun {G H v w x y z} s hv ⟨a, x0, x1, e, h, h0, h1⟩ hz Q q => by
  cases (show some _ = some z from hz)
  have rs : Reps K G [x0, x1] [y.1, y.2] := (.cons h0 (.cons h1 .nil))
  exact ⟨a, _, e, .inr (same_tup s h), RpF.flat hv, flats rs, by
    rw [in_reps hv rs]
    exact q _ G H (Ext.refl s) rfl⟩
theorem se_inP2 [DecidableEq α] [RpF α] {m : Option α} {n : Option (α × α)} (ha : SE K ta σ G H m) (hb : SE K tb σ G H n) : SE K (tOp (rIn K false) ta tb) σ G H (m.bind fun x => n.bind fun y => some (decide (x ∈ [y.1, y.2]))) := se_op (f := fun x y => some (decide (x ∈ [y.1, y.2]))) ha hb ro_inP2
theorem se_inP2p [DecidableEq α] [RpF α] {x : α} {y : α × α} (ha : SE K ta σ G H (some x)) (hb : SE K tb σ G H (some y)) : SE K (tOp (rIn K false) ta tb) σ G H (some (decide (x ∈ [y.1, y.2]))) := se_opp (f := fun x y => some (decide (x ∈ [y.1, y.2]))) ha hb ro_inP2
theorem ro_notInP2 [DecidableEq α] [RpF α] : RO K (rIn K true) (fun (x : α) (y : α × α) => some (!decide (x ∈ [y.1, y.2]))) := fun {G H v w x y z} s hv ⟨a, x0, x1, e, h, h0, h1⟩ hz Q q => by
  cases (show some _ = some z from hz)
  have rs : Reps K G [x0, x1] [y.1, y.2] := (.cons h0 (.cons h1 .nil))
  exact ⟨a, _, e, .inr (same_tup s h), RpF.flat hv, flats rs, by
    rw [in_reps hv rs]
    exact q _ G H (Ext.refl s) rfl⟩
theorem se_notInP2 [DecidableEq α] [RpF α] {m : Option α} {n : Option (α × α)} (ha : SE K ta σ G H m) (hb : SE K tb σ G H n) : SE K (tOp (rIn K true) ta tb) σ G H (m.bind fun x => n.bind fun y => some (!decide (x ∈ [y.1, y.2]))) := se_op (f := fun x y => some (!decide (x ∈ [y.1, y.2]))) ha hb ro_notInP2
theorem se_notInP2p [DecidableEq α] [RpF α] {x : α} {y : α × α} (ha : SE K ta σ G H (some x)) (hb : SE K tb σ G H (some y)) : SE K (tOp (rIn K true) ta tb) σ G H (some (!decide (x ∈ [y.1, y.2]))) := se_opp (f := fun x y => some (!decide (x ∈ [y.1, y.2]))) ha hb ro_notInP2
theorem ro_inP3 [DecidableEq α] [RpF α] : RO K (rIn K false) (fun (x : α) (y : T3 α α α) => some (decide (x ∈ [y.a, y.b, y.c]))) := fun {G H v w x y z} s hv ⟨a, x0, x1, x2, e, h, h0, h1, h2⟩ hz Q q => by
  cases (show some _ = some z from hz)
  have rs : Reps K G [x0, x1, x2] [y.a, y.b, y.c] := (.cons h0 (.cons h1 (.cons h2 .nil)))
  exact ⟨a, _, e, .inr (same_tup s h), RpF.flat hv, flats rs, by
    rw [in_reps hv rs]
    exact q _ G H (Ext.refl s) rfl⟩
theorem se_inP3 [DecidableEq α] [RpF α] {m : Option α} {n : Option (T3 α α α)} (ha : SE K ta σ G H m) (hb : SE K tb σ G H n) : SE K (tOp (rIn K false) ta tb) σ G H (m.bind fun x => n.bind fun y => some (decide (x ∈ [y.a, y.b, y.c]))) := se_op (f := fun x y => some (decide (x ∈ [y.a, y.b, y.c]))) ha hb ro_inP3
theorem se_inP3p [DecidableEq α] [RpF α] {x : α} {y : T3 α α α} (ha : SE K ta σ G H (some x)) (hb : SE K tb σ G H (some y)) : SE K (tOp (rIn K false) ta tb) σ G H (some (decide (x ∈ [y.a, y.b, y.c]))) := se_opp (f := fun x y => some (decide (x ∈ [y.a, y.b, y.c]))) ha hb ro_inP3
theorem ro_notInP3 [DecidableEq α] [RpF α] : RO K (rIn K true) (fun (x : α) (y : T3 α α α) => some (!decide (x ∈ [y.a, y.b, y.c]))) := fun {G H v w x y z} s hv ⟨a, x0, x1, x2, e, h, h0, h1, h2⟩ hz Q q => by
  cases (show some _ = some z from hz)
  have rs : Reps K G [x0, x1, x2] [y.a, y.b, y.c] := (.cons h0 (.cons h1 (.cons h2 .nil)))
  exact ⟨a, _, e, .inr (same_tup s h), RpF.flat hv, flats rs, by
    rw [in_reps hv rs]
    exact q _ G H (Ext.refl s) rfl⟩
theorem se_notInP3 [DecidableEq α] [RpF α] {m : Option α} {n : Option (T3 α α α)} (ha : SE K ta σ G H m) (hb : SE K tb σ G H n) : SE K (tOp (rIn K true) ta tb) σ G H (m.bind fun x => n.bind fun y => some (!decide (x ∈ [y.a, y.b, y.c]))) := se_op (f := fun x y => some (!decide (x ∈ [y.a, y.b, y.c]))) ha hb ro_notInP3
theorem se_notInP3p [DecidableEq α] [RpF α] {x : α} {y : T3 α α α} (ha : SE K ta σ G H (some x)) (hb : SE K tb σ G H (some y)) : SE K (tOp (rIn K true) ta tb) σ G H (some (!decide (x ∈ [y.a, y.b, y.c]))) := se_opp (f := fun x y => some (!decide (x ∈ [y.a, y.b, y.c]))) ha hb ro_notInP3
theorem ro_inP4 [DecidableEq α] [RpF α] : RO K (rIn K false) (fun (x : α) (y : T4 α α α α) => some (decide (x ∈ [y.a, y.b, y.c, y.d]))) := fun {G H v w x y z} s hv ⟨a, x0, x1, x2, x3, e, h, h0, h1, h2, h3⟩ hz Q q => by
  cases (show some _ = some z from hz)
  have rs : Reps K G [x0, x1, x2, x3] [y.a, y.b, y.c, y.d] := (.cons h0 (.cons h1 (.cons h2 (.cons h3 .nil))))
  exact ⟨a, _, e, .inr (same_tup s h), RpF.flat hv, flats rs, by
    rw [in_reps hv rs]
    exact q _ G H (Ext.refl s) rfl⟩
theorem se_inP4 [DecidableEq α] [RpF α] {m : Option α} {n : Option (T4 α α α α)} (ha : SE K ta σ G H m) (hb : SE K tb σ G H n) : SE K (tOp (rIn K false) ta tb) σ G H (m.bind fun x => n.bind fun y => some (decide (x ∈ [y.a, y.b, y.c, y.d]))) := se_op (f := fun x y => some (decide (x ∈ [y.a, y.b, y.c, y.d]))) ha hb ro_inP4
theorem se_inP4p [DecidableEq α] [RpF α] {x : α} {y : T4 α α α α} (ha : SE K ta σ G H (some x)) (hb : SE K tb σ G H (some y)) : SE K (tOp (rIn K false) ta tb) σ G H (some (decide (x ∈ [y.a, y.b, y.c, y.d]))) := se_opp (f := fun x y => some (decide (x ∈ [y.a, y.b, y.c, y.d]))) ha hb ro_inP4
theorem ro_notInP4 [DecidableEq α] [RpF α] : RO K (rIn K true) (fun (x : α) (y : T4 α α α α) => some (!decide (x ∈ [y.a, y.b, y.c, y.d]))) := fun {G H v w x y z} s hv ⟨a, x0, x1, x2, x3, e, h, h0, h1, h2, h3⟩ hz Q q => by
  cases (show some _ = some z from hz)
  have rs : Reps K G [x0, x1, x2, x3] [y.a, y.b, y.c, y.d] := (.cons h0 (.cons h1 (.cons h2 (.cons h3 .nil))))
  exact ⟨a, _, e, .inr (same_tup s h), RpF.flat hv, flats rs, by
    rw [in_reps hv rs]
    exact q _ G H (Ext.refl s) rfl⟩
theorem se_notInP4 [DecidableEq α] [RpF α] {m : Option α} {n : Option (T4 α α α α)} (ha : SE K ta σ G H m) (hb : SE K tb σ G H n) : SE K (tOp (rIn K true) ta tb) σ G H (m.bind fun x => n.bind fun y => some (!decide (x ∈ [y.a, y.b, y.c, y.d]))) := se_op (f := fun x y => some (!decide (x ∈ [y.a, y.b, y.c, y.d]))) ha hb ro_notInP4
theorem se_notInP4p [DecidableEq α] [RpF α] {x : α} {y : T4 α α α α} (ha : SE K ta σ G H (some x)) (hb : SE K tb σ G H (some y)) : SE K (tOp (rIn K true) ta tb) σ G H (some (!decide (x ∈ [y.a, y.b, y.c, y.d]))) := se_opp (f := fun x y => some (!decide (x ∈ [y.a, y.b, y.c, y.d]))) ha hb ro_notInP4
theorem ro_inP5 [DecidableEq α] [RpF α] : RO K (rIn K false) (fun (x : α) (y : T5 α α α α α) => some (decide (x ∈ [y.a, y.b, y.c, y.d, y.e]))) := fun {G H v w x y z} s hv ⟨a, x0, x1, x2, x3, x4, e, h, h0, h1, h2, h3, h4⟩ hz Q q => by
  cases (show some _ = some z from hz)
  have rs : Reps K G [x0, x1, x2, x3, x4] [y.a, y.b, y.c, y.d, y.e] := (.cons h0 (.cons h1 (.cons h2 (.cons h3 (.cons h4 .nil)))))
  exact ⟨a, _, e, .inr (same_tup s h), RpF.flat hv, flats rs, by
    rw [in_reps hv rs]
    exact q _ G H (Ext.refl s) rfl⟩
theorem se_inP5 [DecidableEq α] [RpF α] {m : Option α} {n : Option (T5 α α α α α)} (ha : SE K ta σ G H m) (hb : SE K tb σ G H n) : SE K (tOp (rIn K false) ta tb) σ G H (m.bind fun x => n.bind fun y => some (decide (x ∈ [y.a, y.b, y.c, y.d, y.e]))) := se_op (f := fun x y => some (decide (x ∈ [y.a, y.b, y.c, y.d, y.e]))) ha hb ro_inP5
theorem se_inP5p [DecidableEq α] [RpF α] {x : α} {y : T5 α α α α α} (ha : SE K ta σ G H (some x)) (hb : SE K tb σ G H (some y)) : SE K (tOp (rIn K false) ta tb) σ G H (some (decide (x ∈ [y.a, y.b, y.c, y.d, y.e]))) := se_opp (f := fun x y => some (decide (x ∈ [y.a, y.b, y.c, y.d, y.e]))) ha hb ro_inP5
theorem ro_notInP5 [DecidableEq α] [RpF α] : RO K (rIn K true) (fun (x : α) (y : T5 α α α α α) => some (!decide (x ∈ [y.a, y.b, y.c, y.d, y.e]))) := fun {G H v w x y z} s hv ⟨a, x0, x1, x2, x3, x4, e, h, h0, h1, h2, h3, h4⟩ hz Q q => by
  cases (show some _ = some z from hz)
  have rs : Reps K G [x0, x1, x2, x3, x4] [y.a, y.b, y.c, y.d, y.e] := (.cons h0 (.cons h1 (.cons h2 (.cons h3 (.cons h4 .nil)))))
  exact ⟨a, _, e, .inr (same_tup s h), RpF.flat hv, flats rs, by
    rw [in_reps hv rs]
    exact q _ G H (Ext.refl s) rfl⟩
theorem se_notInP5 [DecidableEq α] [RpF α] {m : Option α} {n : Option (T5 α α α α α)} (ha : SE K ta σ G H m) (hb : SE K tb σ G H n) : SE K (tOp (rIn K true) ta tb) σ G H (m.bind fun x => n.bind fun y => some (!decide (x ∈ [y.a, y.b, y.c, y.d, y.e]))) := se_op (f := fun x y => some (!decide (x ∈ [y.a, y.b, y.c, y.d, y.e]))) ha hb ro_notInP5
theorem se_notInP5p [DecidableEq α] [RpF α] {x : α} {y : T5 α α α α α} (ha : SE K ta σ G H (some x)) (hb : SE K tb σ G H (some y)) : SE K (tOp (rIn K true) ta tb) σ G H (some (!decide (x ∈ [y.a, y.b, y.c, y.d, y.e]))) := se_opp (f := fun x y => some (!decide (x ∈ [y.a, y.b, y.c, y.d, y.e]))) ha hb ro_notInP5
/-! the kit's rules with the part named -/
section
variable {X : Cx}
theorem pg_tupK {es : List Expr} {k : Nat} {pos : Pos} {t : TGs} {n : Nat} (e : X.K = K) (hc : X.calm = true) (h : PGs X es t) (hn : (assignEach es X.env).length = n := by rfl) (hst : (assignEach es X.env).findIdx? (·.1) = none := by rfl) : PG X (.Tuple es k pos) (gTup K n t) := by
  subst e
  exact pg_tup hc h hn hst
theorem pi_listK {tg l : Expr} {tl : TE} (h : X.K = K) (hl : PE X l tl) : PI X tg l (iList K tl) := by
  subst h
  exact pi_list hl
theorem pi_tupK {tg l : Expr} {tl : TE} (h : X.K = K) (hl : PE X l tl) : PI X tg l (iTup K tl) := by
  subst h
  exact pi_tup hl
theorem pi_zipK {e e2 : Expr} {ta : TA} {p pos tpos : Pos} {elts : List Expr} {kk : Nat} (h : X.K = K) (hg : Gl X "zip") (hm : X.mg "zip" = none) (ha : PA X [e, e2] ta)
    (hs : starEach [e, e2] X.env = (false, eval e X.env) :: starEach [e2] X.env := by rfl) (hpl : (backTo pos (starEach [e2] X.env)).any (·.1) = false := by rfl) :
    PI X (.Tuple elts kk tpos) (.Call (.Name "zip" p) [e, e2] [] pos) (iZip K ta) := by
  subst h
  exact pi_zip hg hm ha hs hpl
theorem ix_listK (h : X.K = K) : IxR X (rIxL K) := h ▸ ix_list
theorem ix_tupK (h : X.K = K) : IxR X (rIxT K) := h ▸ ix_tup
theorem sl_listK (h : X.K = K) : SlR X (rSlL K) := h ▸ sl_list
theorem op_in_seqK (h : X.K = K) : OpR X (compareOp .In) (rIn K false) := h ▸ op_in_seq
theorem op_notIn_seqK (h : X.K = K) : OpR X (compareOp .NotIn) (rIn K true) := h ▸ op_notIn_seq
theorem call_isiK (h : X.K = K) : CallR X (.builtin "isinstance") (rIsi K) := h ▸ call_isi
theorem call_len_seqK (h : X.K = K) : CallR X (.builtin "len") (fun xs H Q => ∃ p ys, xs = [.ref p] ∧ (SqL K H p ys ∨ SqT K H p ys) ∧ Q (.int ys.length) H) := h ▸ call_len_seq
theorem call_list_ofK (h : X.K = K) : CallR X (.type "list") (fun xs H Q => ∃ p ys, xs = [.ref p] ∧ (SqL K H p ys ∨ SqT K H p ys) ∧ ∀ l, H l = none → Q (.ref l) (upd H l (.lst ys))) := h ▸ call_list_of
theorem op_eqDK (h : X.K = K) (hu : X.A.units + 64 < cLine) : OpR X (compareOp .Eq) (rEqD K) := h ▸ op_eqD hu
theorem op_neDK (h : X.K = K) (hu : X.A.units + 64 < cLine) : OpR X (compareOp .NotEq) (rNeD K) := h ▸ op_neD hu
theorem cr_sumK (h : X.K = K) (hc : X.calm = true) : CallR X (.builtin "sum") (rSum K) := h ▸ cr_sum hc
theorem cr_maxK (h : X.K = K) (hc : X.calm = true) : CallR X (.builtin "max") (rMax K) := h ▸ cr_max hc
theorem cr_minK' (h : X.K = K) (hc : X.calm = true) : CallR X (.builtin "min") (rMin K) := h ▸ cr_min hc
theorem cr_anyK (h : X.K = K) (hc : X.calm = true) : CallR X (.builtin "any") (rAny K) := h ▸ cr_any hc
theorem cr_allK (h : X.K = K) (hc : X.calm = true) : CallR X (.builtin "all") (rAll K) := h ▸ cr_all hc
theorem cr_sortedIK (h : X.K = K) : CallR X (.builtin "sorted") (rSortedI K) := h ▸ cr_sortedI
end

end
end Mi

/-! MiD: dicts with whole numbers as keys. -/
namespace Mi
variable [Tbs]
open PySem L2
open Rp (rep)
abbrev RepsD {β : Type} [Rp β] (K : PySem.W.Frag) (G : Hp) : List (Key × V) → List (Int × β) → Prop := Paired fun p q => p.1 = Sum.inl q.1 ∧ rep K G p.2 q.2
section
variable {β : Type} [Rp β] {K : PySem.W.Frag} {G G' : Hp} {ks : List (Key × V)} {l : List (Int × β)} {k : Int} {v : V} {x : β}
theorem repsD_mono (s : Same G G') : ∀ {ks : List (Key × V)} {l : List (Int × β)}, RepsD K G ks l → RepsD K G' ks l
  | _, _, .nil => .nil
  | _, _, .cons h r => .cons ⟨h.1, Rp.mono s h.2⟩ (repsD_mono s r)
theorem repsD_len (h : RepsD K G ks l) : ks.length = l.length := Paired.length h
theorem inl_dec (a b : Int) : decide ((Sum.inl a : Key) = Sum.inl b) = decide (a = b) := decide_eq_decide.mpr ⟨fun e => by injection e, fun e => by rw [e]⟩
theorem repsD_find : ∀ {ks : List (Key × V)} {l : List (Int × β)}, RepsD K G ks l → (dfind l k = none → valV ks (Sum.inl k) = none) ∧ ∀ x, dfind l k = some x → ∃ v, valV ks (Sum.inl k) = some v ∧ rep K G v x
  | _, _, .nil => ⟨fun _ => rfl, fun x h => by cases h⟩
  | (a, v) :: ks, (b, y) :: l, .cons ⟨h1, h2⟩ r => by
    have ih := repsD_find r
    simp only at h1 h2
    subst h1
    by_cases e : b = k
    · subst e
      rw [valV_pos (p := (Sum.inl b, v)) rfl]
      have ef : dfind ((b, y) :: l) b = some y := by simp [dfind]
      rw [ef]
      refine ⟨fun h => (nomatch h), fun x h => ?_⟩
      cases h
      exact ⟨v, rfl, h2⟩
    · have en : ¬ (Sum.inl b : Key) = Sum.inl k := fun h => e (by injection h)
      rw [valV_neg (p := (Sum.inl b, v)) en]
      have ef : dfind ((b, y) :: l) k = dfind l k := by simp [dfind, List.find?_cons, e]
      rw [ef]
      exact ih
theorem repsD_any : ∀ {ks : List (Key × V)} {l : List (Int × β)}, RepsD K G ks l → (ks.any fun kv => decide (kv.1 = (Sum.inl k : Key))) = l.any fun x => decide (x.1 = k)
  | _, _, .nil => rfl
  | (a, v) :: ks, (b, y) :: l, .cons ⟨h1, h2⟩ r => by
    have ih := repsD_any r
    simp only at h1
    subst h1
    rw [List.any_cons, List.any_cons, ih, inl_dec]
theorem repsD_map (hx : rep K G v x) : ∀ {ks : List (Key × V)} {l : List (Int × β)}, RepsD K G ks l → RepsD K G (ks.map fun kv => if kv.1 = (Sum.inl k : Key) then (kv.1, v) else kv) (l.map fun z => if z.1 = k then (z.1, x) else z)
  | _, _, .nil => .nil
  | (a, w) :: ks, (b, y) :: l, .cons ⟨h1, h2⟩ r => by
    have ih := repsD_map hx r
    simp only at h1 h2
    subst h1
    rw [List.map_cons, List.map_cons]
    refine .cons ?_ ih
    by_cases e : b = k
    · subst e
      rw [if_pos rfl, if_pos rfl]
      exact ⟨rfl, hx⟩
    · have en : ¬ (Sum.inl b : Key) = Sum.inl k := fun h => e (by injection h)
      rw [if_neg en, if_neg e]
      exact ⟨rfl, h2⟩
theorem repsD_put (h : RepsD K G ks l) (hx : rep K G v x) : RepsD K G (putK ks (Sum.inl k) v) (dput l k x) := by
  unfold putK dput
  rw [repsD_any h]
  split
  · exact repsD_map hx h
  · exact Paired.snoc h ⟨rfl, hx⟩
theorem repsD_keys : ∀ {ks : List (Key × V)} {l : List (Int × β)}, RepsD K G ks l → ks.map (·.1) = (l.map (·.1)).map Sum.inl
  | _, _, .nil => rfl
  | _, _, .cons h r => by
    rw [List.map_cons, List.map_cons, List.map_cons, repsD_keys r, h.1]
end
instance {β : Type} [Rp β] : Rp (DI β) := ⟨fun K G v d => ∃ a ks, v = .ref a ∧ G a = some (.dK ks) ∧ RepsD K G ks d.l,
  fun s ⟨a, ks, e, h, r⟩ => ⟨a, ks, e, s _ _ h, repsD_mono s r⟩⟩
/-- a dict of one's own -/
structure OwnD {β : Type} [Rp β] (K : PySem.W.Frag) (H0 G H : Hp) (p : Addr) (d : DI β) : Prop where
  z : H0 p = none
  g : G p = none
  h : ∃ ks, H p = some (.dK ks) ∧ RepsD K G ks d.l
section
variable {α β γ δ ρ S R : Type} [Rp α] [Rp β] [Rp γ] [Rp δ]
variable {K : PySem.W.Frag} {σ : St} {G0 H0 G H G1 H1 Gs : Hp} {ta tb te tl td ty tv tx : TE} {tc tt : TT} {t u : TS} {ma : Option α} {mb : Option β} {i j l : Nat} {v : V} {d : DI β} {D : Ends} {out : ρ} {A B : Option ρ} {p q : Addr}
theorem OwnD.ne (x : OwnD K H0 G H p d) : H p ≠ none := by
  obtain ⟨vs, h, _⟩ := x.h
  rw [h]
  intro z
  cases z
theorem OwnD.pn (x : OwnD K H0 G H p d) : PnAt H p := by
  obtain ⟨ks, h, _⟩ := x.h
  exact ⟨_, h, pn_of (fun _ z => by cases z) (fun _ z => by cases z)⟩
theorem OwnD.mono (x : OwnD K H0 G H p d) (e : Ext G H G1 H1) : OwnD K H0 G1 H1 p d := by
  obtain ⟨vs, h, r⟩ := x.h
  exact ⟨x.z, (e.a p x.ne).trans x.g, vs, e.h.k _ _ h, repsD_mono e.g r⟩
theorem OwnD.off {o : HO} (x : OwnD K H0 G H p d) (n : p ≠ q) : OwnD K H0 G (upd H q o) p d := by
  obtain ⟨vs, h, r⟩ := x.h
  exact ⟨x.z, x.g, vs, by rw [upd_ne n]; exact h, r⟩
theorem OwnD.off2 {o : HO} (x : OwnD K H0 G H p d) (n : p ≠ q) (gq : G q = none) : OwnD K H0 (upd G q o) H p d := by
  obtain ⟨vs, h, r⟩ := x.h
  exact ⟨x.z, by rw [upd_ne n]; exact x.g, vs, h, repsD_mono (same_new gq) r⟩
theorem OwnD.ne2 (x : OwnD K H0 G H p d) (n : H q = none) : p ≠ q := fun e => x.ne (e ▸ n)
theorem OwnD.up (x : OwnD K H G1 H1 p d) (s : HK H0 H) : OwnD K H0 G1 H1 p d := ⟨s.free x.z, x.g, x.h⟩
theorem OwnD.show (x : OwnD K H0 G H p d) (e : Ext G0 H0 G H) : ∃ ks, Ext G0 H0 (upd G p (.dK ks)) H ∧ Same G (upd G p (.dK ks)) ∧ rep K (upd G p (.dK ks)) (.ref p) d := by
  obtain ⟨ks, h, r⟩ := x.h
  exact ⟨ks, e.show x.z x.g h, same_new x.g, p, ks, rfl, upd_same, repsD_mono (same_new x.g) r⟩
theorem sd_tmp [ScV α] (o : OwnD K H0 G H p d) (h : ∀ vs, Same G (upd G p (.dK vs)) → rep K (upd G p (.dK vs)) (.ref p) d → SE K te σ (upd G p (.dK vs)) H ma) : SE K te σ G H ma := fun G1 H1 e r hm Q q => by
  obtain ⟨vs, hp, rs⟩ := o.h
  have o1 := o.mono e
  have s0 := h vs (same_new o.g) ⟨p, vs, rfl, upd_same, repsD_mono (same_new o.g) rs⟩
  refine s0 _ _ (ext_up e (e.h.k _ _ hp)) r hm _ fun v G2 H2 e2 hv => q v G1 H2 ⟨Same.refl _, ?_, e2.h, fun _ _ => rfl⟩ (ScV.any hv)
  exact e2.s.less ((same_new o1.g).trans e2.g)
theorem stD_tmp {m : Option Bool} (o : OwnD K H0 G H p d) (h : ∀ vs, Same G (upd G p (.dK vs)) → rep K (upd G p (.dK vs)) (.ref p) d → ST tc σ (upd G p (.dK vs)) H m) : ST tc σ G H m := fun G1 H1 e r hm Q q => by
  obtain ⟨vs, hp, rs⟩ := o.h
  have o1 := o.mono e
  have s0 := h vs (same_new o.g) ⟨p, vs, rfl, upd_same, repsD_mono (same_new o.g) rs⟩
  refine s0 _ _ (ext_up e (e.h.k _ _ hp)) r hm _ fun G2 H2 e2 => q G1 H2 ⟨Same.refl _, ?_, e2.h, fun _ _ => rfl⟩
  exact e2.s.less ((same_new o1.g).trans e2.g)
/-! ### a new dict -/
def FD (K : PySem.W.Frag) (te : TE) (σ : St) (G H : Hp) (m : Option (DI β)) : Prop :=
  ∀ G1 H1, Ext G H G1 H1 → ∀ r, m = some r → ∀ Q : VK, (∀ p G2 H2, Ext G1 H1 G2 H2 → OwnD K H1 G2 H2 p r → Q (.ref p) H2) → te σ H1 Q
theorem FD.se {m : Option (DI β)} (h : FD K te σ G H m) : SE K te σ G H m := fun G1 H1 e r hm Q q =>
  h G1 H1 e r hm Q fun p G2 H2 e2 o => by
    obtain ⟨ks, e3, _, hr⟩ := o.show e2
    exact q _ _ _ e3 hr
theorem fd_new : FD K tDNewK σ G H (some (⟨[]⟩ : DI β)) := fun G1 H1 e r hm Q q => by
  cases hm
  intro p np
  exact q p G1 _ (Ext.own e.s np) ⟨np, e.s.free np, [], upd_same, .nil⟩
/-- the pairs of a display: keys whole numbers, values whose reading makes no object -/
def PE2 (K : PySem.W.Frag) (trs : List (TE × TE)) (σ : St) (G : Hp) (kvs : List (Key × V)) (n : Nat) : Prop :=
  ∀ (H : Hp) (Q : List (V × V) → Hp → Prop), Q (kvs.map fun kv => (kV kv.1, kv.2)) H → tPairs trs σ H Q
theorem pe2_nil : PE2 K [] σ G [] 0 := fun H Q q => q
theorem pe2_cons {k : Int} {w : V} {trs : List (TE × TE)} {kvs : List (Key × V)} {n : Nat} (h : PE2 K trs σ G kvs n) : PE2 K ((tC (V.int k), tC w) :: trs) σ G ((Sum.inl k, w) :: kvs) (n + 1) := fun H Q q => h H _ q
theorem merge_reps {more : List (Key × V)} {xs : List (Int × β)} (h : RepsD K G more xs) : ∀ {kvs : List (Key × V)} {l : List (Int × β)}, RepsD K G kvs l → RepsD K G (mergeK kvs more) (dput2 l xs) := by
  induction h with
  | nil => exact fun h => h
  | @cons a b l1 l2 h r ih =>
    intro kvs l hl
    obtain ⟨a1, a2⟩ := a
    obtain ⟨h1, h2⟩ := h
    simp only at h1 h2
    subst h1
    exact ih (repsD_put hl h2)
theorem fd_disp {trs : List (TE × TE)} {kvs : List (Key × V)} {n : Nat} {xs : List (Int × β)} (h : PE2 K trs σ G kvs n) (hx : ∀ G, RepsD K G kvs xs) (hn : kvs.length ≤ 15 := by decide) : FD K (tDisp trs) σ G H (some (dmk xs)) := fun G1 H1 e r hm Q q => by
  cases hm
  intro p np
  refine h _ _ ⟨upd_same, kvs, rfl, hn, ?_⟩
  have := q p G1 _ (Ext.own (o := .dK (mergeK [] kvs)) e.s np) ⟨np, e.s.free np, _, upd_same, merge_reps (hx G1) .nil⟩
  rwa [show upd (upd H1 p (.dK [])) p (.dK (mergeK [] kvs)) = upd H1 p (.dK (mergeK [] kvs)) from upd_upd ..]
theorem st_setD {m : Option (DI β)} {k : DI β → Option ρ} (hs : Vw G H) (se : FD K te σ G H m) (hm : m.bind k = some out) (kont : ∀ x p G1 H1, Ext G H G1 H1 → OwnD K H G1 H1 p x → k x = some out → D.nx (σ.set i (some (.ref p))) H1) : tAsg te (gName i) D σ H := by
  obtain ⟨x, hx, hk⟩ := bind_some hm
  exact se G H (Ext.refl hs) x hx _ fun p G1 H1 e o => kont x p G1 H1 e o hk
/-! ### readings -/
theorem ro_dget {m : Option (DI β)} {n : Option Int} (hd : SE K td σ G H m) (hk : SE K ty σ G H n) : SE K (tDGet td ty) σ G H (m.bind fun x => n.bind fun y => dgetO x y) := fun G1 H1 e r hm Q q => by
  obtain ⟨d, hd1, hm⟩ := bind_some hm
  obtain ⟨k, hk1, hm⟩ := bind_some hm
  refine hd G1 H1 e d hd1 _ fun v G2 H2 e2 hv => ?_
  refine hk G2 H2 (e.trans e2) k hk1 _ fun w G3 H3 e3 hw => ?_
  obtain ⟨a, ks, ea, h, rs⟩ := (Rp.mono e3.g hv : rep K G3 v d)
  obtain ⟨u, hu, ru⟩ := (repsD_find rs).2 r hm
  refine ⟨a, u, ea, ?_, q u G3 H3 (e2.trans e3) ru⟩
  rw [← hu, show w = kV (Sum.inl k) from hw]
  exact DGet.k (e3.s _ _ h)
theorem se_dget {m : Option (DI β)} {n : Option Int} (hd : SE K td σ G H m) (hk : SE K ty σ G H n) : SE K (tDGet td ty) σ G H (m.bind fun x => n.bind fun y => dgetO x y) := ro_dget hd hk
theorem se_dgetp {x : DI β} {y : Int} (hd : SE K td σ G H (some x)) (hk : SE K ty σ G H (some y)) : SE K (tDGet td ty) σ G H (dgetO x y) := ro_dget hd hk
theorem isSome_find {ks : List (Key × V)} {l : List (Int × β)} {k : Int} (rs : RepsD K G ks l) : (valV ks (Sum.inl k)).isSome = (dfind l k).isSome := by
  have := repsD_find (k := k) rs
  cases h : dfind l k with
  | none => rw [this.1 h]; rfl
  | some x =>
    obtain ⟨v, hv, _⟩ := this.2 x h
    rw [hv]
    rfl
theorem se_din {m : Option (DI β)} {n : Option Int} (hk : SE K ty σ G H n) (hd : SE K td σ G H m) : SE K (tDIn ty td) σ G H (n.bind fun y => m.bind fun x => some (dhas x y)) := fun G1 H1 e r hm Q q => by
  obtain ⟨k, hk1, hm⟩ := bind_some hm
  obtain ⟨d, hd1, hm⟩ := bind_some hm
  cases hm
  refine hk G1 H1 e k hk1 _ fun w G2 H2 e2 hw => ?_
  refine hd G2 H2 (e.trans e2) d hd1 _ fun v G3 H3 e3 ⟨a, ks, ea, h, rs⟩ => ?_
  refine ⟨a, valV ks (Sum.inl k), ea, ?_, ?_⟩
  · rw [show w = kV (Sum.inl k) from hw]
    exact DGet.k (e3.s _ _ h)
  · rw [isSome_find rs]
    exact q _ G3 H3 (e2.trans e3) rfl
theorem se_dinp {x : DI β} {y : Int} (hk : SE K ty σ G H (some y)) (hd : SE K td σ G H (some x)) : SE K (tDIn ty td) σ G H (some (dhas x y)) := se_din hk hd
theorem se_dnotin {m : Option (DI β)} {n : Option Int} (hk : SE K ty σ G H n) (hd : SE K td σ G H m) : SE K (tDNotIn ty td) σ G H (n.bind fun y => m.bind fun x => some (!dhas x y)) := fun G1 H1 e r hm Q q => by
  obtain ⟨k, hk1, hm⟩ := bind_some hm
  obtain ⟨d, hd1, hm⟩ := bind_some hm
  cases hm
  refine hk G1 H1 e k hk1 _ fun w G2 H2 e2 hw => ?_
  refine hd G2 H2 (e.trans e2) d hd1 _ fun v G3 H3 e3 ⟨a, ks, ea, h, rs⟩ => ?_
  refine ⟨a, valV ks (Sum.inl k), ea, ?_, ?_⟩
  · rw [show w = kV (Sum.inl k) from hw]
    exact DGet.k (e3.s _ _ h)
  · rw [isSome_find rs]
    exact q _ G3 H3 (e2.trans e3) rfl
theorem se_dnotinp {x : DI β} {y : Int} (hk : SE K ty σ G H (some y)) (hd : SE K td σ G H (some x)) : SE K (tDNotIn ty td) σ G H (some (!dhas x y)) := se_dnotin hk hd
theorem se_dgetD {m : Option (DI β)} {n : Option Int} {o : Option β} (hd : SE K td σ G H m) (hk : SE K ty σ G H n) (hx : SE K tx σ G H o) : SE K (tDGet2 td ty tx) σ G H (m.bind fun x => n.bind fun y => o.bind fun z => some (dgetD x y z)) := fun G1 H1 e r hm Q q => by
  obtain ⟨d, hd1, hm⟩ := bind_some hm
  obtain ⟨k, hk1, hm⟩ := bind_some hm
  obtain ⟨x, hx1, hm⟩ := bind_some hm
  cases hm
  refine hd G1 H1 e d hd1 _ fun v G2 H2 e2 hv => ?_
  obtain ⟨a, ks, ea, h, rs⟩ := id hv
  refine ⟨a, ea, Or.inl ⟨ks, Rd.of (e2.s _ _ h)⟩, ?_⟩
  refine hk G2 H2 (e.trans e2) k hk1 _ fun w G3 H3 e3 hw => ?_
  refine hx G3 H3 ((e.trans e2).trans e3) x hx1 _ fun z G4 H4 e4 hz => ?_
  have h4 : H4 a = some (.dK ks) := e4.s _ _ (e4.g _ _ (e3.g _ _ h))
  refine ⟨valV ks (Sum.inl k), ?_, ?_⟩
  · rw [show w = kV (Sum.inl k) from hw]
    exact DGet.k h4
  · refine q _ G4 H4 ((e2.trans e3).trans e4) ?_
    have hf := repsD_find (k := k) rs
    unfold dgetD
    cases hc : dfind d.l k with
    | none => rw [hf.1 hc]; exact hz
    | some y =>
      obtain ⟨u, hu, ru⟩ := hf.2 y hc
      rw [hu]
      exact Rp.mono e4.g (Rp.mono e3.g ru)
theorem se_dgetDp {x : DI β} {y : Int} {z : β} (hd : SE K td σ G H (some x)) (hk : SE K ty σ G H (some y)) (hx : SE K tx σ G H (some z)) : SE K (tDGet2 td ty tx) σ G H (some (dgetD x y z)) := se_dgetD hd hk hx
/-- sorted(d) -/
def rSortedD : List V → Hp → VK → Prop := fun xs H Q => ∃ (a : Addr) (kvs : List (Key × V)) (ks : List Int), xs = [.ref a] ∧ Rd H a (.dK kvs) ∧ kvs.map (·.1) = ks.map Sum.inl ∧ ks.length < 64 ∧
    ∀ (ys : List Int) (p : Addr), ys.Perm ks → ys.Pairwise (· ≤ ·) → H p = none → Q (.ref p) (upd H p (.lst (ys.map V.int)))
theorem cr_sortedD {X : Cx} (hc : X.calm = true) : CallR X (.builtin "sorted") rSortedD := call_sortedDI hc
theorem fe_sortedD {m : Option (DI β)} (h : SE K td σ G H m) : FE K (tCB rSortedD (tCons td tNil)) σ G H (m.bind fun d => dsortO d) := fun G1 H1 e r hm Q q => by
  obtain ⟨d, hd1, hm⟩ := bind_some hm
  unfold dsortO at hm
  split at hm
  · rename_i hl
    cases hm
    refine h G1 H1 e d hd1 _ fun v G2 H2 e2 ⟨a, ks, ea, hg, rs⟩ => ?_
    refine ⟨a, ks, d.l.map (·.1), by rw [ea], Rd.of (e2.s _ _ hg), repsD_keys rs, by rw [List.length_map]; exact hl, fun ys p hp hs np => ?_⟩
    have ey : ys = sortI (d.l.map (·.1)) := sorted_one (hp.trans (sortI_perm _).symm) hs (sortI_sorted _)
    subst ey
    refine q p G2 _ (e2.trans (Ext.own e2.s np)) ⟨e2.h.free np, e2.s.free np, _, upd_same, ?_, reps_ints _⟩
    rw [List.length_map, (sortI_perm _).length_eq, List.length_map]
    exact Nat.le_trans (Nat.le_of_lt hl) (by decide)
  · cases hm
theorem fe_sortedDp {d : DI β} (h : SE K td σ G H (some d)) : FE K (tCB rSortedD (tCons td tNil)) σ G H (dsortO d) := fe_sortedD h
/-! ### d[k] = v -/
theorem st_dput {n : Option Int} {k : DI β → Option ρ} (hs : Vw G H) (hv : σ[i]? = some (some (.ref p))) (o : OwnD K H0 G H p d) (se : SE K tv σ G H mb) (sk : SE K ty σ G H n) (hm : (mb.bind fun x => n.bind fun j => (dputO d j x).bind k) = some out)
    (kont : ∀ es h G1 H1, Ext G H G1 H1 → OwnD K H0 G1 (upd H1 p h) p es → G1 p = none → k es = some out → D.nx σ (upd H1 p h)) : sDPut (tVar i) ty tv D σ H := by
  obtain ⟨x, hx, hm⟩ := bind_some hm
  obtain ⟨j, hj, hm⟩ := bind_some hm
  obtain ⟨es, he, hm⟩ := bind_some hm
  unfold dputO at he
  split at he
  · rename_i hl
    cases he
    refine se G H (Ext.refl hs) x hx _ fun v G1 H1 e1 hv1 => ?_
    refine ⟨.ref p, hv, ?_⟩
    refine sk G1 H1 e1 j hj _ fun w G2 H2 e2 hw => ?_
    have o2 := (o.mono e1).mono e2
    obtain ⟨ks, hp, rs⟩ := o2.h
    refine ⟨p, upd H2 p (.dK (putK ks (Sum.inl j) v)), rfl, ?_, ?_⟩
    · rw [show w = kV (Sum.inl j) from hw]
      exact DPut.k hp (by rw [repsD_len rs]; exact Nat.lt_of_lt_of_le hl (by decide))
    · exact kont _ _ G2 H2 (e1.trans e2) ⟨o2.z, o2.g, _, upd_same, repsD_put rs (Rp.mono e2.g hv1)⟩ o2.g hm
  · cases he
theorem hu1 {n : Nat} (h : n + 64 < cLine) : n + 1 < cLine := by omega
end
/-! ### a value of one of two kinds -/
instance {α β : Type} [Rp α] [Rp β] : Rp (Sum α β) := ⟨fun K G v d => match d with
  | .inl x => rep K G v x
  | .inr x => rep K G v x, fun {_ _ _ _ d} s h => by
  cases d with
  | inl x => exact Rp.mono s h
  | inr x => exact Rp.mono s h⟩
class RpDX (α β : Type) [Rp α] [DecidableEq α] [RpD α] [Rp β] [DecidableEq β] [RpD β] : Prop where
  l : ∀ (x : α) (y : β), PyData.eqv (RpD.py x) (RpD.py y) = false
  r : ∀ (x : α) (y : β), PyData.eqv (RpD.py y) (RpD.py x) = false
instance {α β : Type} [Rp α] [DecidableEq α] [RpD α] [Rp β] [DecidableEq β] [RpD β] : RpDX Int (α × β) := ⟨fun _ _ => rfl, fun _ _ => rfl⟩
instance {α β : Type} [Rp α] [DecidableEq α] [RpD α] [Rp β] [DecidableEq β] [RpD β] : RpDX Bool (α × β) := ⟨fun _ _ => rfl, fun _ _ => rfl⟩
instance {α β : Type} [Rp α] [DecidableEq α] [RpD α] [Rp β] [DecidableEq β] [RpD β] [RpDX α β] : RpD (Sum α β) := ⟨fun d => match d with
  | .inl x => RpD.py x
  | .inr x => RpD.py x, fun {_ _ _ _ d} s h => by
    cases d with
    | inl x => exact RpD.dp s h
    | inr x => exact RpD.dp s h, fun x y => by
    cases x with
    | inl x =>
      cases y with
      | inl y =>
        show PyData.eqv (RpD.py x) (RpD.py y) = _
        rw [RpD.eqv, Bool.eq_iff_iff]
        simp
      | inr y =>
        show PyData.eqv (RpD.py x) (RpD.py y) = _
        rw [RpDX.l, eq_comm, decide_eq_false_iff_not]
        exact fun h => nomatch h
    | inr x =>
      cases y with
      | inl y =>
        show PyData.eqv (RpD.py x) (RpD.py y) = _
        rw [RpDX.r, eq_comm, decide_eq_false_iff_not]
        exact fun h => nomatch h
      | inr y =>
        show PyData.eqv (RpD.py x) (RpD.py y) = _
        rw [RpD.eqv, Bool.eq_iff_iff]
        simp, fun d => by
    cases d with
    | inl x => exact RpD.lay x
    | inr x => exact RpD.lay x, max (RpD.dep α) (RpD.dep β), fun d => by
    cases d with
    | inl x => exact Nat.le_trans (RpD.depth x) (Nat.le_max_left _ _)
    | inr x => exact Nat.le_trans (RpD.depth x) (Nat.le_max_right _ _)⟩
instance {α β : Type} [Rp α] [DecidableEq α] [RpD α] [Rp β] [DecidableEq β] [RpD β] [RpDX α β] [RpDN α] [RpDN β] : RpDN (Sum α β) := ⟨fun d => by
  cases d with
  | inl x => exact RpDN.l x
  | inr x => exact RpDN.l x, fun d => by
  cases d with
  | inl x => exact RpDN.r x
  | inr x => exact RpDN.r x⟩
section
variable {α β γ : Type} [Rp α] [Rp β] [Rp γ]
variable {K : PySem.W.Frag} {σ : St} {G H : Hp} {te tl : TE} {ta : TA}
theorem se_inl {m : Option α} (h : SE K te σ G H m) : SE K te σ G H (m.bind fun x => some (Sum.inl x : Sum α β)) := fun G1 H1 e r hm Q q => by
  obtain ⟨x, hx, hm⟩ := bind_some hm
  cases hm
  exact h G1 H1 e x hx Q fun v G2 H2 e2 hv => q v G2 H2 e2 hv
theorem se_inlp {x : α} (h : SE K te σ G H (some x)) : SE K te σ G H (some (Sum.inl x : Sum α β)) := se_inl h
theorem se_inr {m : Option β} (h : SE K te σ G H m) : SE K te σ G H (m.bind fun x => some (Sum.inr x : Sum α β)) := fun G1 H1 e r hm Q q => by
  obtain ⟨x, hx, hm⟩ := bind_some hm
  cases hm
  exact h G1 H1 e x hx Q fun v G2 H2 e2 hv => q v G2 H2 e2 hv
theorem se_inrp {x : β} (h : SE K te σ G H (some x)) : SE K te σ G H (some (Sum.inr x : Sum α β)) := se_inr h
theorem se_outL {m : Option (Sum α β)} (h : SE K te σ G H m) : SE K te σ G H (m.bind outL) := fun G1 H1 e r hm Q q => by
  obtain ⟨x, hx, hm⟩ := bind_some hm
  cases x with
  | inl x =>
    cases hm
    exact h G1 H1 e _ hx Q fun v G2 H2 e2 hv => q v G2 H2 e2 hv
  | inr x => cases hm
theorem se_outLp {x : Sum α β} (h : SE K te σ G H (some x)) : SE K te σ G H (outL x) := se_outL h
theorem se_outR {m : Option (Sum α β)} (h : SE K te σ G H m) : SE K te σ G H (m.bind outR) := fun G1 H1 e r hm Q q => by
  obtain ⟨x, hx, hm⟩ := bind_some hm
  cases x with
  | inl x => cases hm
  | inr x =>
    cases hm
    exact h G1 H1 e _ hx Q fun v G2 H2 e2 hv => q v G2 H2 e2 hv
theorem se_outRp {x : Sum α β} (h : SE K te σ G H (some x)) : SE K te σ G H (outR x) := se_outR h
theorem se_isiS [RpTy α] [RpTy β] {T : String} {a b : Bool} {m : Option (Sum α β)} (h : SE K te σ G H m) (ha : kitB (RpTy.ty α) T = some a) (hb : kitB (RpTy.ty β) T = some b) : SE K (tCB (rIsi K) (tCons te (tCons (tC (.ty T)) tNil))) σ G H (m.bind fun o => some (sumB a b o)) := fun G1 H1 e z hm Q q => by
  obtain ⟨o, ho, hm⟩ := bind_some hm
  cases hm
  refine h G1 H1 e o ho _ fun v G2 H2 e2 hv => ?_
  cases o with
  | inl x => exact ⟨v, .ty T, _, _, a, rfl, .ty T, RpTy.tyX e2.s (show rep K G2 v x from hv), kit_ty ha, q _ G2 H2 e2 rfl⟩
  | inr x => exact ⟨v, .ty T, _, _, b, rfl, .ty T, RpTy.tyX e2.s (show rep K G2 v x from hv), kit_ty hb, q _ G2 H2 e2 rfl⟩
theorem se_isiSp [RpTy α] [RpTy β] {T : String} {a b : Bool} {x : Sum α β} (h : SE K te σ G H (some x)) (ha : kitB (RpTy.ty α) T = some a) (hb : kitB (RpTy.ty β) T = some b) : SE K (tCB (rIsi K) (tCons te (tCons (tC (.ty T)) tNil))) σ G H (some (sumB a b x)) := se_isiS h ha hb
end
/-! ### a written tuple of one kind as a tuple of many -/
section
variable {α : Type} [Rp α]
variable {K : PySem.W.Frag} {σ : St} {G H : Hp} {te : TE}
theorem se_tl2 {m : Option (α × α)} (h : SE K te σ G H m) : SE K te σ G H (m.bind fun p => some (⟨[p.1, p.2]⟩ : TL α)) := fun G1 H1 e r hm Q q => by
  obtain ⟨p, hp, hm⟩ := bind_some hm
  cases hm
  refine h G1 H1 e p hp Q fun v G2 H2 e2 ⟨a, x0, x1, e, h, h0, h1⟩ => q v G2 H2 e2 ⟨a, _, e, h, ?_, (.cons h0 (.cons h1 .nil))⟩
  show 2 ≤ sizeLine
  decide
theorem se_tl2p {p : α × α} (h : SE K te σ G H (some p)) : SE K te σ G H (some (⟨[p.1, p.2]⟩ : TL α)) := se_tl2 h
theorem se_tl3 {m : Option (T3 α α α)} (h : SE K te σ G H m) : SE K te σ G H (m.bind fun p => some (⟨[p.a, p.b, p.c]⟩ : TL α)) := fun G1 H1 e r hm Q q => by
  obtain ⟨p, hp, hm⟩ := bind_some hm
  cases hm
  refine h G1 H1 e p hp Q fun v G2 H2 e2 ⟨a, x0, x1, x2, e, h, h0, h1, h2⟩ => q v G2 H2 e2 ⟨a, _, e, h, ?_, (.cons h0 (.cons h1 (.cons h2 .nil)))⟩
  show 3 ≤ sizeLine
  decide
theorem se_tl3p {p : T3 α α α} (h : SE K te σ G H (some p)) : SE K te σ G H (some (⟨[p.a, p.b, p.c]⟩ : TL α)) := se_tl3 h
theorem se_tl4 {m : Option (T4 α α α α)} (h : SE K te σ G H m) : SE K te σ G H (m.bind fun p => some (⟨[p.a, p.b, p.c, p.d]⟩ : TL α)) := fun G1 H1 e r hm Q q => by
  obtain ⟨p, hp, hm⟩ := bind_some hm
  cases hm
  refine h G1 H1 e p hp Q fun v G2 H2 e2 ⟨a, x0, x1, x2, x3, e, h, h0, h1, h2, h3⟩ => q v G2 H2 e2 ⟨a, _, e, h, ?_, (.cons h0 (.cons h1 (.cons h2 (.cons h3 .nil))))⟩
  show 4 ≤ sizeLine
  decide
theorem se_tl4p {p : T4 α α α α} (h : SE K te σ G H (some p)) : SE K te σ G H (some (⟨[p.a, p.b, p.c, p.d]⟩ : TL α)) := se_tl4 h
theorem se_tl5 {m : Option (T5 α α α α α)} (h : SE K te σ G H m) : SE K te σ G H (m.bind fun p => some (⟨[p.a, p.b, p.c, p.d, p.e]⟩ : TL α)) := fun G1 H1 e r hm Q q => by
  obtain ⟨p, hp, hm⟩ := bind_some hm
  cases hm
  refine h G1 H1 e p hp Q fun v G2 H2 e2 ⟨a, x0, x1, x2, x3, x4, e, h, h0, h1, h2, h3, h4⟩ => q v G2 H2 e2 ⟨a, _, e, h, ?_, (.cons h0 (.cons h1 (.cons h2 (.cons h3 (.cons h4 .nil)))))⟩
  show 5 ≤ sizeLine
  decide
theorem se_tl5p {p : T5 α α α α α} (h : SE K te σ G H (some p)) : SE K te σ G H (some (⟨[p.a, p.b, p.c, p.d, p.e]⟩ : TL α)) := se_tl5 h
end
/-! ### is True, is False -/
section
variable {K : PySem.W.Frag} {σ : St} {G H : Hp} {te : TE}
theorem se_isB {b : Bool} {m : Option Bool} (h : SE K te σ G H m) : SE K (tOp rIsB te (tC (.bl b))) σ G H (m.bind fun x => some (decide (x = b))) := fun G1 H1 e r hm Q q => by
  obtain ⟨x, hx, hm⟩ := bind_some hm
  cases hm
  exact h G1 H1 e x hx _ fun v G2 H2 e2 hv => ⟨x, b, hv, rfl, q _ G2 H2 e2 rfl⟩
theorem se_isBp {b x : Bool} (h : SE K te σ G H (some x)) : SE K (tOp rIsB te (tC (.bl b))) σ G H (some (decide (x = b))) := se_isB h
theorem se_isNotB {b : Bool} {m : Option Bool} (h : SE K te σ G H m) : SE K (tOp rNotB te (tC (.bl b))) σ G H (m.bind fun x => some (!decide (x = b))) := fun G1 H1 e r hm Q q => by
  obtain ⟨x, hx, hm⟩ := bind_some hm
  cases hm
  exact h G1 H1 e x hx _ fun v G2 H2 e2 hv => ⟨x, b, hv, rfl, q _ G2 H2 e2 rfl⟩
theorem se_isNotBp {b x : Bool} (h : SE K te σ G H (some x)) : SE K (tOp rNotB te (tC (.bl b))) σ G H (some (!decide (x = b))) := se_isNotB h
end
/-! ### a list of two unlike things -/
instance {α β : Type} [Rp α] [Rp β] : Rp (HL α β) := ⟨fun K G v d => ∃ p x y, v = .ref p ∧ G p = some (.lst [x, y]) ∧ rep K G x d.a ∧ rep K G y d.b,
  fun s ⟨p, x, y, e, h, h1, h2⟩ => ⟨p, x, y, e, s _ _ h, Rp.mono s h1, Rp.mono s h2⟩⟩
theorem eqvL2 {a b c d : PyData} : PyData.eqv (.list [a, b]) (.list [c, d]) = (PyData.eqv a c && PyData.eqv b d) := by
  show (PyData.eqv a c && (PyData.eqv b d && true)) = _
  rw [Bool.and_true]
instance {α β : Type} [Rp α] [DecidableEq α] [RpD α] [Rp β] [DecidableEq β] [RpD β] : RpD (HL α β) := ⟨fun p => .list [RpD.py p.a, RpD.py p.b], fun s ⟨p, x, y, e, h, h1, h2⟩ => by
  rw [e]
  exact .lst (SqL.of (s _ _ h)) (.cons (RpD.dp s h1) (.cons (RpD.dp s h2) .nil)), fun x y => by
  rw [eqvL2, RpD.eqv, RpD.eqv, Bool.eq_iff_iff]
  cases x
  cases y
  simp, fun x => by
  show (PyData.canLay0 (RpD.py x.a) && (PyData.canLay0 (RpD.py x.b) && true)) = true
  rw [RpD.lay, RpD.lay]
  rfl, max (RpD.dep α) (RpD.dep β) + 1, fun x => by
  show max (PyData.depth (RpD.py x.a)) (max (PyData.depth (RpD.py x.b)) 0) + 1 ≤ _
  have h1 := RpD.depth x.a
  have h2 := RpD.depth x.b
  omega⟩
section
variable {α β : Type} [Rp α] [Rp β]
variable {K : PySem.W.Frag} {σ : St} {G H : Hp} {ta tb te : TE}
theorem se_hl {m : Option α} {n : Option β} (ha : SE K ta σ G H m) (hb : SE K tb σ G H n) : SE K (tLst (tCons ta (tCons tb tNil))) σ G H (m.bind fun x => n.bind fun y => some (HL.mk x y)) := fun G1 H1 e r hm Q q => by
  obtain ⟨x, hx, hm⟩ := bind_some hm
  obtain ⟨y, hy, hm⟩ := bind_some hm
  cases hm
  refine ha G1 H1 e x hx _ fun v G2 H2 e2 hv => ?_
  refine hb G2 H2 (e.trans e2) y hy _ fun w G3 H3 e3 hw => ?_
  refine ⟨by show 2 ≤ sizeLine; decide, fun p np => ?_⟩
  have eN : Ext G3 H3 (upd G3 p (.lst [v, w])) (upd H3 p (.lst [v, w])) := Ext.new e3.s np
  exact q _ _ _ ((e2.trans e3).trans eN) ⟨p, v, w, rfl, upd_same, Rp.mono eN.g (Rp.mono e3.g hv), Rp.mono eN.g hw⟩
theorem se_hlp {x : α} {y : β} (ha : SE K ta σ G H (some x)) (hb : SE K tb σ G H (some y)) : SE K (tLst (tCons ta (tCons tb tNil))) σ G H (some (HL.mk x y)) := se_hl ha hb
theorem se_h0 {m : Option (HL α β)} (h : SE K te σ G H m) : SE K (tOp (rIxL K) te (tC (.int 0))) σ G H (m.bind fun p => some p.a) := fun G1 H1 e r hm Q q => by
  obtain ⟨d, hd, hm⟩ := bind_some hm
  cases hm
  refine h G1 H1 e d hd _ fun v G2 H2 e2 ⟨p, x, y, ev, hp, h1, h2⟩ => ?_
  exact ⟨p, [x, y], 0, x, ev, rfl, SqL.of (e2.s _ _ hp), rfl, q x G2 H2 e2 h1⟩
theorem se_h0p {x : HL α β} (h : SE K te σ G H (some x)) : SE K (tOp (rIxL K) te (tC (.int 0))) σ G H (some x.a) := se_h0 h
theorem se_h1 {m : Option (HL α β)} (h : SE K te σ G H m) : SE K (tOp (rIxL K) te (tC (.int 1))) σ G H (m.bind fun p => some p.b) := fun G1 H1 e r hm Q q => by
  obtain ⟨d, hd, hm⟩ := bind_some hm
  cases hm
  refine h G1 H1 e d hd _ fun v G2 H2 e2 ⟨p, x, y, ev, hp, h1, h2⟩ => ?_
  exact ⟨p, [x, y], 1, y, ev, rfl, SqL.of (e2.s _ _ hp), rfl, q y G2 H2 e2 h2⟩
theorem se_h1p {x : HL α β} (h : SE K te σ G H (some x)) : SE K (tOp (rIxL K) te (tC (.int 1))) σ G H (some x.b) := se_h1 h
end
/-! ### enumerate -/
theorem enumL_len {α : Type} : ∀ (k : Int) (xs : List α), (enumL k xs).length = xs.length
  | _, [] => rfl
  | k, x :: r => congrArg (· + 1) (enumL_len (k + 1) r)
theorem enumL_get {α : Type} : ∀ (k : Int) (xs : List α) (i : Nat) (p : Int × α), (enumL k xs)[i]? = some p → p.1 = k + i ∧ xs[i]? = some p.2
  | k, [], i, p, h => by
    rw [show enumL k ([] : List α) = [] from rfl] at h
    simp at h
  | k, x :: r, 0, p, h => by
    have h : some (k, x) = some p := h
    cases h
    exact ⟨by simp, rfl⟩
  | k, x :: r, i + 1, p, h => by
    have := enumL_get (k + 1) r i p h
    exact ⟨by have := this.1; omega, this.2⟩
section
variable {α : Type} [Rp α]
variable {K : PySem.W.Frag} {σ : St} {G H : Hp} {te : TE}
theorem ib_enum {m : Option (List α)} (h : SE K te σ G H m) : IB K (iEnum K (tCons te tNil)) σ G H (m.bind fun xs => some (enumL 0 xs)) := fun G1 H1 e xs hm R q => by
  obtain ⟨ys, hys, hm⟩ := bind_some hm
  cases hm
  refine h G1 H1 e ys hys _ fun v G2 H2 e2 ⟨a, vs, ea, ha, l, rs⟩ => ?_
  refine ⟨a, vs, by rw [ea], SqL.of (e2.s _ _ ha), q _ G2 H2 e2 ⟨fun i G H s1 s2 hi => ⟨vs, SqL.of (s2 _ _ (s1 _ _ ha)), by rw [rs.len, ← enumL_len 0 ys]; exact hi⟩, fun i x G H s1 s2 hi => ?_⟩ (by rw [enumL_len, ← rs.len]; exact l)⟩
  obtain ⟨h1, h2⟩ := enumL_get 0 ys i x hi
  obtain ⟨w, hw1, hw2⟩ := rs.get h2
  have hS := SqL.of (K := K) (s2 _ _ (s1 _ _ ha))
  refine ⟨⟨vs, w, hS, hw1⟩, fun u H' ⟨T, y, eu, hT, eH, hy⟩ => ?_⟩
  subst eu eH
  have ey := hy vs hS
  rw [hw1] at ey
  cases ey
  have eN : Ext G H (upd G T (.tup [.int (i : Nat), w])) (upd H T (.tup [.int (i : Nat), w])) := Ext.new s2 hT
  refine ⟨_, eN, T, _, _, rfl, SqT.of upd_same, ?_, Rp.mono eN.g (Rp.mono s1 hw2)⟩
  show V.int (i : Nat) = V.int x.1
  rw [h1, Int.zero_add]
theorem ib_enump {xs : List α} (h : SE K te σ G H (some xs)) : IB K (iEnum K (tCons te tNil)) σ G H (some (enumL 0 xs)) := ib_enum h
end
theorem pi_enumK {X : Cx} {K : PySem.W.Frag} {e : Expr} {ta : TA} {p pos tpos : Pos} {elts : List Expr} {kk : Nat} (h : X.K = K) (hg : Gl X "enumerate") (hm : X.mg "enumerate" = none) (ha : PA X [e] ta) (hs : starEach [e] X.env = [(false, eval e X.env)] := by rfl) :
    PI X (.Tuple elts kk tpos) (.Call (.Name "enumerate" p) [e] [] pos) (iEnum K ta) := by
  subst h
  exact pi_enum hg hm ha hs
end Mi

/-! MiN: tables of one's own, their rows one's own too. -/
namespace Mi
variable [Tbs]
open PySem L2
open Rp (rep)
/-- an address as a value -/
instance : Rp Nat := ⟨fun _ _ v d => v = .ref d, fun _ h => h⟩
/-- no address in common -/
def DJ (as bs : List Nat) : Prop := ∀ a ∈ as, a ∉ bs
section
variable {as bs : List Nat} {a b : Nat}
theorem DJ.symm (h : DJ as bs) : DJ bs as := fun b hb ha => h b ha hb
theorem DJ.one (h : DJ [a] bs) : a ∉ bs := h a List.mem_cons_self
theorem DJ.ni (h : DJ as [b]) : b ∉ as := h.symm.one
theorem DJ.ne1 (h : DJ as [b]) (ha : a ∈ as) : b ≠ a := fun e => h.ni (e ▸ ha)
theorem DJ.snoc {p : Nat} (h : DJ (p :: as) bs) (n : a ∉ bs) : DJ (p :: (as ++ [a])) bs := fun x hx => by
  rcases List.mem_cons.mp hx with e | hx
  · exact h x (e ▸ List.mem_cons_self)
  · rcases List.mem_append.mp hx with hx | hx
    · exact h x (List.mem_cons_of_mem _ hx)
    · rw [List.mem_singleton.mp hx]
      exact n
theorem DJ.of {H : Hp} (hx : ∀ a ∈ as, H a = none) (hy : ∀ b ∈ bs, H b ≠ none) : DJ as bs := fun a ha hb => hy a hb (hx a ha)
theorem Pmem {α β : Type} {F : α → β → Prop} {x : α} : ∀ {xs : List α} {ys : List β}, Paired F xs ys → x ∈ xs → ∃ y, F x y
  | _, _, .cons r t, h => by
    rcases List.mem_cons.mp h with e | h
    · subst e
      exact ⟨_, r⟩
    · exact Pmem t h
theorem Pmap {α β : Type} {F F' : α → β → Prop} : ∀ {xs : List α} {ys : List β}, Paired F xs ys → (∀ a b, a ∈ xs → F a b → F' a b) → Paired F' xs ys
  | _, _, .nil, _ => .nil
  | _, _, .cons r t, h => .cons (h _ _ List.mem_cons_self r) (Pmap t fun a b ha => h a b (List.mem_cons_of_mem _ ha))
theorem Pcomp {α β γ : Type} {F : α → β → Prop} {F' : β → γ → Prop} {R : α → γ → Prop} : ∀ {xs : List α} {ys : List β} {zs : List γ}, Paired F xs ys → Paired F' ys zs → (∀ a b c, b ∈ ys → F a b → F' b c → R a c) → Paired R xs zs
  | _, _, _, .nil, .nil, _ => .nil
  | _, _, _, .cons r t, .cons r2 t2, h => .cons (h _ _ _ List.mem_cons_self r r2) (Pcomp t t2 fun a b c hb => h a b c (List.mem_cons_of_mem _ hb))
theorem Papp {α β : Type} {F : α → β → Prop} : ∀ {xs xs2 : List α} {ys ys2 : List β}, Paired F xs ys → Paired F xs2 ys2 → Paired F (xs ++ xs2) (ys ++ ys2)
  | _, _, _, _, .nil, h => h
  | _, _, _, _, .cons r t, h => .cons r (Papp t h)
end
section
variable {α β γ ρ : Type} [Rp α] [Rp β] [Rp γ]
variable {K : PySem.W.Frag} {σ : St} {G0 H0 G H G1 H1 G2 H2 : Hp} {ta tb tc te : TE} {tt : TT} {p q : Addr} {as qs : List Nat} {d : List α} {ds : List (List α)} {D : Ends} {i : Nat} {out : ρ} {ma : Option α} {mb : Option β}
/-- the addresses as are shown -/
def shv (as : List Nat) (G H : Hp) : Hp := fun b => if b ∈ as then H b else G b
theorem shv_in (h : q ∈ as) : shv as G H q = H q := if_pos h
theorem shv_out (h : q ∉ as) : shv as G H q = G q := if_neg h
theorem same_shv (hg : ∀ a ∈ as, G a = none) : Same G (shv as G H) := fun b u e => by
  rw [shv_out fun h => by rw [hg b h] at e; cases e]
  exact e
theorem Vw.shv (s : Vw G H) (hl : ∀ a ∈ as, ∀ o, H a = some o → NT o) : Vw (Mi.shv as G H) H := ⟨fun b u h => by
    by_cases hb : b ∈ as
    · rw [shv_in hb] at h
      exact h
    · rw [shv_out hb] at h
      exact s.s _ _ h, fun x hx => ⟨by
    rw [shv_out fun h => ?_]
    · exact (s.t x hx).1
    · obtain ⟨ps, h1, _⟩ := (s.t x hx).2
      exact hl _ h _ h1 ps rfl, (s.t x hx).2⟩⟩
theorem Ext.shv (e : Ext G0 H0 G H) (hz : ∀ a ∈ as, H0 a = none) (hg : ∀ a ∈ as, G a = none) (hl : ∀ a ∈ as, ∀ o, H a = some o → NT o) : Ext G0 H0 (shv as G H) H :=
  ⟨e.g.trans (same_shv hg), e.s.shv hl, e.h, fun b hb => by
    rw [shv_out fun h => hb (hz b h)]
    exact e.a b hb⟩
theorem peek (e : Ext G H G1 H1) (hh : ∀ a ∈ as, H a ≠ none) (hl : ∀ a ∈ as, ∀ o, H a = some o → NT o) : Ext (Mi.shv as G H) H (Mi.shv as G1 H1) H1 :=
  ⟨fun b u h => by
    by_cases hb : b ∈ as
    · rw [shv_in hb] at h ⊢
      exact e.h.k _ _ h (hl b hb _ h)
    · rw [shv_out hb] at h ⊢
      exact e.g _ _ h, e.s.shv (fun a ha o ho => by
    cases hu : H a with
    | none => exact absurd hu (hh a ha)
    | some u =>
      have n := hl a ha _ hu
      have h2 := e.h.k _ _ hu n
      rw [ho] at h2
      rw [Option.some.inj h2]
      exact n), e.h, fun b hb => by
    by_cases hb2 : b ∈ as
    · rw [shv_in hb2, shv_in hb2]
      cases hu : H b with
      | none => exact absurd hu hb
      | some u => exact e.h.k _ _ hu (hl b hb2 _ hu)
    · rw [shv_out hb2, shv_out hb2]
      exact e.a b hb⟩
structure Own2 (K : PySem.W.Frag) (H0 G H : Hp) (p : Addr) (qs : List Nat) (ds : List (List α)) : Prop where
  o : Own K H0 G H p qs
  rows : Paired (fun q d => Own K H0 G H q d) qs ds
  nd : (p :: qs).Nodup
theorem Own2.all (x : Own2 K H0 G H p qs ds) : ∀ a ∈ p :: qs, H0 a = none ∧ G a = none ∧ H a ≠ none := fun a ha => by
  rcases List.mem_cons.mp ha with e | ha
  · subst e
    exact ⟨x.o.z, x.o.g, x.o.ne⟩
  · obtain ⟨d, hd⟩ := Pmem x.rows ha
    exact ⟨hd.z, hd.g, hd.ne⟩
theorem Own2.zs (x : Own2 K H0 G H p qs ds) : ∀ a ∈ p :: qs, H0 a = none := fun a ha => (x.all a ha).1
theorem Own2.gs (x : Own2 K H0 G H p qs ds) : ∀ a ∈ p :: qs, G a = none := fun a ha => (x.all a ha).2.1
theorem Own2.nes (x : Own2 K H0 G H p qs ds) : ∀ a ∈ p :: qs, H a ≠ none := fun a ha => (x.all a ha).2.2
theorem Own.nts (x : Own K H0 G H p d) : ∀ o, H p = some o → NT o := fun o h => by
  obtain ⟨vs, h1, _⟩ := x.h
  rw [h1] at h
  rw [← Option.some.inj h]
  exact nt_lst
theorem Own2.nts (x : Own2 K H0 G H p qs ds) : ∀ a ∈ p :: qs, ∀ o, H a = some o → NT o := fun a ha => by
  rcases List.mem_cons.mp ha with e | ha
  · subst e
    exact x.o.nts
  · obtain ⟨d, hd⟩ := Pmem x.rows ha
    exact hd.nts
theorem Own2.pn (x : Own2 K H0 G H p qs ds) : ∀ a ∈ p :: qs, PnAt H a := fun a ha => by
  rcases List.mem_cons.mp ha with e | ha
  · subst e
    exact x.o.pn
  · obtain ⟨d, hd⟩ := Pmem x.rows ha
    exact hd.pn
theorem Own.zs (x : Own K H0 G H p d) : ∀ a ∈ [p], H0 a = none := fun a ha => by rw [List.mem_singleton.mp ha]; exact x.z
theorem Own.nes (x : Own K H0 G H p d) : ∀ a ∈ [p], H a ≠ none := fun a ha => by rw [List.mem_singleton.mp ha]; exact x.ne
theorem Own2.mono (x : Own2 K H0 G H p qs ds) (e : Ext G H G1 H1) : Own2 K H0 G1 H1 p qs ds := ⟨x.o.mono e, Pmap x.rows fun _ _ _ h => h.mono e, x.nd⟩
theorem Own2.up (x : Own2 K H G1 H1 p qs ds) (s : HK H0 H) : Own2 K H0 G1 H1 p qs ds := ⟨x.o.up s, Pmap x.rows fun _ _ _ h => h.up s, x.nd⟩
theorem Own2.off {o : HO} (x : Own2 K H0 G H p qs ds) (n : q ∉ p :: qs) : Own2 K H0 G (upd H q o) p qs ds :=
  ⟨x.o.off fun e => n (e ▸ List.mem_cons_self), Pmap x.rows fun a _ ha h => h.off fun e => n (e ▸ List.mem_cons_of_mem _ ha), x.nd⟩
theorem Own2.off2 {o : HO} (x : Own2 K H0 G H p qs ds) (n : q ∉ p :: qs) (gq : G q = none) : Own2 K H0 (upd G q o) H p qs ds :=
  ⟨x.o.off2 (fun e => n (e ▸ List.mem_cons_self)) gq, Pmap x.rows fun a _ ha h => h.off2 (fun e => n (e ▸ List.mem_cons_of_mem _ ha)) gq, x.nd⟩
theorem Own.offS (x : Own K H0 G H q d) (n : q ∉ as) (hg : ∀ a ∈ as, G a = none) : Own K H0 (Mi.shv as G H) H q d := by
  obtain ⟨vs, h, l, r⟩ := x.h
  exact ⟨x.z, by rw [shv_out n]; exact x.g, vs, h, l, r.mono (same_shv hg)⟩
theorem Own2.offS (x : Own2 K H0 G H p qs ds) (n : DJ as (p :: qs)) (hg : ∀ a ∈ as, G a = none) : Own2 K H0 (Mi.shv as G H) H p qs ds :=
  ⟨x.o.offS (fun h => n _ h List.mem_cons_self) hg, Pmap x.rows fun a _ ha h => h.offS (fun h2 => n _ h2 (List.mem_cons_of_mem _ ha)) hg, x.nd⟩
theorem Own2.rep (x : Own2 K H0 G H p qs ds) (ha : ∀ a ∈ qs, a ∈ as) (hg : ∀ a ∈ as, G a = none) : ∃ vs, H p = some (.lst vs) ∧ vs.length ≤ sizeLine ∧ Reps K (Mi.shv as G H) vs ds := by
  obtain ⟨vs, h, l, r⟩ := x.o.h
  refine ⟨vs, h, l, Pcomp r x.rows fun v q d hq hv hd => ?_⟩
  obtain ⟨ws, h1, l1, r1⟩ := hd.h
  exact ⟨q, ws, hv, by rw [shv_in (ha q hq)]; exact h1, l1, r1.mono (same_shv hg)⟩
theorem Own2.shown (x : Own2 K H0 G H p qs ds) : Rp.rep K (Mi.shv (p :: qs) G H) (.ref p) ds := by
  obtain ⟨vs, h, l, r⟩ := x.rep (as := p :: qs) (fun a ha => List.mem_cons_of_mem _ ha) x.gs
  exact ⟨p, vs, rfl, by rw [shv_in List.mem_cons_self]; exact h, l, r⟩
/-- it is shown: not changed any more -/
theorem Own2.show (x : Own2 K H0 G H p qs ds) (e : Ext G0 H0 G H) : Ext G0 H0 (Mi.shv (p :: qs) G H) H ∧ Same G (Mi.shv (p :: qs) G H) ∧ Rp.rep K (Mi.shv (p :: qs) G H) (.ref p) ds :=
  ⟨e.shv x.zs x.gs x.nts, same_shv x.gs, x.shown⟩
/-- its rows alone are shown -/
theorem Own2.own (x : Own2 K H0 G H p qs ds) : Own K H0 (Mi.shv qs G H) H p ds := by
  obtain ⟨vs, h, l, r⟩ := x.rep (as := qs) (fun a ha => ha) fun a ha => x.gs a (List.mem_cons_of_mem _ ha)
  exact ⟨x.o.z, by rw [shv_out (List.nodup_cons.mp x.nd).1]; exact x.o.g, vs, h, l, r⟩
/-- .. for the time of a reading -/
instance [ScV α] : ScV (Option α) := ⟨fun {_ _ _ _ x} h => by
  cases x with
  | none => exact h
  | some x => exact ⟨ScV.any h.1, h.2⟩⟩
theorem se_tmp2 [ScV β] (o : Own2 K H0 G H p qs ds) (h : Same G (Mi.shv (p :: qs) G H) → Rp.rep K (Mi.shv (p :: qs) G H) (.ref p) ds → SE K te σ (Mi.shv (p :: qs) G H) H mb) : SE K te σ G H mb := fun G1 H1 e r hm Q q => by
  refine h (same_shv o.gs) o.shown _ _ (peek e o.nes o.nts) r hm _ fun v G2 H2 e2 hv => q v G1 H2 ⟨Same.refl _, ?_, e2.h, fun _ _ => rfl⟩ (ScV.any hv)
  exact e2.s.less ((same_shv (o.mono e).gs).trans e2.g)
theorem st_tmp2 {m : Option Bool} (o : Own2 K H0 G H p qs ds) (h : Same G (Mi.shv (p :: qs) G H) → Rp.rep K (Mi.shv (p :: qs) G H) (.ref p) ds → ST tt σ (Mi.shv (p :: qs) G H) H m) : ST tt σ G H m := fun G1 H1 e r hm Q q => by
  refine h (same_shv o.gs) o.shown _ _ (peek e o.nes o.nts) r hm _ fun G2 H2 e2 => q G1 H2 ⟨Same.refl _, ?_, e2.h, fun _ _ => rfl⟩
  exact e2.s.less ((same_shv (o.mono e).gs).trans e2.g)

/-! ### what makes a table of one's own -/
def FE2 (K : PySem.W.Frag) (te : TE) (σ : St) (G H : Hp) (m : Option (List (List α))) : Prop :=
  ∀ G1 H1, Ext G H G1 H1 → ∀ r, m = some r → ∀ Q : VK, (∀ p qs G2 H2, Ext G1 H1 G2 H2 → Own2 K H1 G2 H2 p qs r → Q (.ref p) H2) → te σ H1 Q
theorem FE2.fe {m : Option (List (List α))} (h : FE2 K te σ G H m) : FE K te σ G H m := fun G1 H1 e r hm Q q =>
  h G1 H1 e r hm Q fun p qs G2 H2 e2 o => q p _ H2 (e2.shv (fun a ha => o.zs a (List.mem_cons_of_mem _ ha)) (fun a ha => o.gs a (List.mem_cons_of_mem _ ha)) (fun a ha => o.nts a (List.mem_cons_of_mem _ ha))) o.own
def RF2 {ρ : Type} [Rp ρ] (K : PySem.W.Frag) (H G' H' : Hp) (u : V) (r : List (List ρ)) : Prop := ∃ p qs, u = .ref p ∧ Own2 K H G' H' p qs r
theorem rf2m {ρ : Type} [Rp ρ] {K : PySem.W.Frag} : ∀ H1 H2, HK H1 H2 → ∀ G' H' u (r : List (List ρ)), RF2 K H2 G' H' u r → RF2 K H1 G' H' u r := fun _ _ s _ _ _ _ ⟨p, qs, e, o⟩ => ⟨p, qs, e, o.up s⟩
theorem XE.fe2 {m : Option (List (List α))} (h : XE (RF2 K) te σ G H m) : FE2 K te σ G H m := fun G1 H1 e r hm Q q =>
  h G1 H1 e r hm Q fun u G2 H2 e2 ⟨p, qs, eu, o⟩ => by
    rw [eu]
    exact q p qs G2 H2 e2 o
theorem FE2.xe {m : Option (List (List α))} (h : FE2 K te σ G H m) : XE (RF2 K) te σ G H m := fun G1 H1 e r hm Q q =>
  h G1 H1 e r hm Q fun p qs G2 H2 e2 o => q (.ref p) G2 H2 e2 ⟨p, qs, rfl, o⟩
theorem own2_nil (s : Vw G H) (n : H p = none) : Own2 K H G (upd H p (.lst [])) p [] ([] : List (List α)) := ⟨own_new s n (Nat.zero_le _) .nil, .nil, by simp⟩
theorem fe2_nil : FE2 K (tLst tNil) σ G H (some ([] : List (List α))) := fun G1 H1 e r hm Q q => by
  cases hm
  exact ⟨Nat.zero_le _, fun p np => q p [] G1 _ (Ext.own e.s np) (own2_nil e.s np)⟩
/-- one row more -/
theorem Own2.snoc {vs : List V} (x : Own2 K H0 G H p qs ds) (o : Own K H0 G H q d) (n : q ∉ p :: qs) (hp : H p = some (.lst vs)) (l : vs.length < sizeLine) : Own2 K H0 G (upd H p (.lst (vs ++ [.ref q]))) p (qs ++ [q]) (ds ++ [d]) := by
  obtain ⟨vs', h', l', r'⟩ := x.o.h
  have hpq : q ≠ p := fun e => n (e ▸ List.mem_cons_self)
  rw [hp] at h'
  cases h'
  have hn := List.nodup_cons.mp x.nd
  refine ⟨⟨x.o.z, x.o.g, _, upd_same, ?_, r'.app (.cons rfl .nil)⟩, Papp (Pmap x.rows fun a _ ha h => h.off fun e => hn.1 (e ▸ ha)) (.cons (o.off hpq) .nil), ?_⟩
  · rw [List.length_append]
    exact l
  · refine List.nodup_cons.mpr ⟨fun h => ?_, List.nodup_append.mpr ⟨hn.2, by simp, fun a ha b hb e => ?_⟩⟩
    · rcases List.mem_append.mp h with h | h
      · exact hn.1 h
      · exact hpq (List.mem_singleton.mp h).symm
    · rw [List.mem_singleton.mp hb] at e
      exact n (e ▸ List.mem_cons_of_mem _ ha)
theorem fe2_lc {wi : TI} {g : TG} {vs : List Nat} {γ : Type} [Rp γ] {m : Option (List γ)} {c : γ → Option Bool} {f : γ → Option (List α)} (P : St → Hp → Hp → γ → Prop) (ib : IB K wi σ G H m) (tg : TgOk K g vs σ P)
    (ht : ∀ x σ2 G1 H1, Ext G H G1 H1 → P σ2 G1 H1 x → ST tt σ2 G1 H1 (c x)) (he : ∀ x σ2 G1 H1, Ext G H G1 H1 → P σ2 G1 H1 x → FE K te σ2 G1 H1 (f x)) : FE2 K (tLc wi g tt te vs) σ G H (m.bind fun xs => filO c f xs) := fun G1 H1 e r hm Q q => by
  obtain ⟨xs, hx, hm⟩ := bind_some hm
  refine ib G1 H1 e xs hx _ fun J G2 H2 e2 it hl D hD => ?_
  refine ⟨fun i m H => ∃ G qs ys rest, Ext G2 H2 G H ∧ Own2 K H2 G H D qs ys ∧ ys.length ≤ i ∧ filO c f (xs.drop i) = some rest ∧ ys ++ rest = r ∧ m = xs.length - i,
    ⟨xs.length, G2, [], [], r, Ext.own e2.s hD, own2_nil e2.s hD, Nat.le_refl _, hm, rfl, rfl⟩, fun i m H ⟨G', qs, ys, rest, e3, o, hy, hn, er, em⟩ => ?_⟩
  by_cases hi : i < xs.length
  · right
    have hx : xs[i]? = some xs[i] := List.getElem?_eq_getElem hi
    obtain ⟨go, yl⟩ := it.go i _ G' H e3.g e3.s hx
    rw [List.drop_eq_getElem_cons hi] at hn
    obtain ⟨b, hb, hn⟩ := bind_some (show (c xs[i]).bind _ = some rest from hn)
    refine ⟨go, fun H' => ∃ G qs ys rest, Ext G2 H2 G H' ∧ Own2 K H2 G H' D qs ys ∧ ys.length ≤ i + 1 ∧ filO c f (xs.drop (i + 1)) = some rest ∧ ys ++ rest = r, fun H' ⟨G, qs, ys, rest, a1, a2, a3, a4, a5⟩ => ⟨m - 1, by omega, G, qs, ys, rest, a1, a2, a3, a4, a5, by omega⟩, fun v H' hy2 => ?_⟩
    obtain ⟨G4, e4, hv⟩ := yl v H' hy2
    have eA := (e.trans e2).trans (e3.trans e4)
    refine tg G4 H' v xs[i] e4.s hv _ fun σ2 w2 p2 => ⟨w2, ?_⟩
    refine ht xs[i] σ2 G4 H' eA p2 G4 H' (Ext.refl e4.s) b hb _ fun G5 H5 e5 => ?_
    cases b with
    | false => exact ⟨G5, qs, ys, rest, (e3.trans e4).trans e5, (o.mono e4).mono e5, Nat.le_succ_of_le hy, hn, er⟩
    | true =>
      obtain ⟨y, h5, h6⟩ := bind_some (show (f xs[i]).bind _ = some rest from hn)
      obtain ⟨rest2, h7, h8⟩ := bind_some h6
      cases h8
      show te σ2 H5 _
      refine he xs[i] σ2 G4 H' eA p2 G5 H5 e5 y h5 _ fun u G6 H6 e6 hu => ?_
      have o5 := (o.mono e4).mono e5
      have o6 := o5.mono e6
      have nu : u ∉ D :: qs := fun h => o5.nes u h hu.z
      have hu2 : Own K H2 G6 H6 u y := hu.up ((e3.trans e4).trans e5).h
      obtain ⟨vs6, a1, a2, a3⟩ := o6.o.h
      have ll : vs6.length < sizeLine := by
        rw [a3.len, Paired.length o6.rows]
        omega
      have oS := o6.snoc hu2 nu a1 ll
      refine ⟨vs6, a1, ll, G6, qs ++ [u], ys ++ [y], rest2, (((e3.trans e4).trans e5).trans e6).put o6.o.z o6.o.g o6.o.pn, oS, ?_, h7, ?_⟩
      · rw [List.length_append]
        exact Nat.succ_le_succ hy
      · rw [← er, List.append_assoc]
        rfl
  · left
    rw [List.drop_eq_nil_of_le (by omega)] at hn
    cases hn
    rw [List.append_nil] at er
    subst er
    exact ⟨it.stop i G' H e3.g e3.s (by omega), q D qs G' H (e2.trans e3) (o.up e2.h)⟩
theorem fe2_map {wi : TI} {g : TG} {vs : List Nat} {γ : Type} [Rp γ] {m : Option (List γ)} {f : γ → Option (List α)} (P : St → Hp → Hp → γ → Prop) (ib : IB K wi σ G H m) (tg : TgOk K g vs σ P)
    (he : ∀ x σ2 G1 H1, Ext G H G1 H1 → P σ2 G1 H1 x → FE K te σ2 G1 H1 (f x)) : FE2 K (tLc wi g tYes te vs) σ G H (m.bind fun xs => mapO f xs) := fun G1 H1 e r hm Q q => by
  refine fe2_lc (c := fun _ => some true) (f := f) P ib tg (fun _ _ _ _ _ _ => st_yes) he G1 H1 e r ?_ Q q
  rw [← hm]
  cases m with
  | none => rfl
  | some xs => exact filO_yes xs

/-! ### statements -/
theorem st_setF2 {m : Option (List (List α))} {k : List (List α) → Option ρ} (hs : Vw G H) (se : FE2 K te σ G H m) (hm : m.bind k = some out) (kont : ∀ x p qs G1 H1, Ext G H G1 H1 → Own2 K H G1 H1 p qs x → k x = some out → D.nx (σ.set i (some (.ref p))) H1) : tAsg te (gName i) D σ H := by
  obtain ⟨x, hx, hk⟩ := bind_some hm
  exact se G H (Ext.refl hs) x hx _ fun p qs G1 H1 e o => kont x p qs G1 H1 e o hk
theorem st_retO2 {r : List (List α)} (hv : σ[i]? = some (some (.ref p))) (e : Ext G0 H0 G H) (o : Own2 K H0 G H p qs ds) (hm : some ds = some r) (q : ∀ u G' H', Ext G0 H0 G' H' → RF2 K H0 G' H' u r → D.rt u H') : tRet (tVar i) D σ H := by
  cases hm
  exact ⟨.ref p, hv, q _ G H e ⟨p, qs, rfl, o⟩⟩
/-- t.append(row), the row new -/
theorem st_app2 {m : Option (List α)} {k : List (List α) → Option ρ} (hs : Vw G H) (hv : σ[i]? = some (some (.ref p))) (o : Own2 K H0 G H p qs ds) (h0 : HK H0 H) (se : FE K te σ G H m) (hm : (m.bind fun x => (appO ds x).bind k) = some out)
    (kont : ∀ es q h G1 H1, Ext G H G1 H1 → Own2 K H0 G1 (upd H1 p h) p (qs ++ [q]) es → H q = none → k es = some out → D.nx σ (upd H1 p h)) : tDrop (tBM K "list" rAppend (tVar i) (tCons te tNil)) D σ H := by
  obtain ⟨x, hx, hm⟩ := bind_some hm
  obtain ⟨y, hy, hm⟩ := bind_some hm
  unfold appO at hy
  split at hy
  · rename_i hl
    cases hy
    obtain ⟨vs0, g0, l0, rs0⟩ := o.o.h
    refine ⟨.ref p, hv, .inl ⟨rfl, _, SqL.of g0⟩, ?_⟩
    refine se G H (Ext.refl hs) x hx _ fun q G1 H1 e1 hw => ?_
    have o1 := o.mono e1
    obtain ⟨vs, h1, l1, rs⟩ := o1.o.h
    have ll : vs.length < 16000000 := by
      rw [rs.len, Paired.length o1.rows]
      exact hl
    refine ⟨p, vs, .ref q, rfl, rfl, h1, Nat.lt_of_lt_of_le ll (by decide), ?_⟩
    exact kont _ q _ G1 H1 e1 (o1.snoc (hw.up h0) (fun h => o.nes q h hw.z) h1 (Nat.lt_of_lt_of_le ll (by decide))) hw.z hm
  · cases hy
/-- .. a list of one's own, given away -/
theorem st_app2O {j : Nat} {k : List (List α) → Option ρ} (hs : Vw G H) (hv : σ[i]? = some (some (.ref p))) (o : Own2 K H0 G H p qs ds) (hj : σ[j]? = some (some (.ref q))) (r : Own K H0 G H q d) (n : q ∉ p :: qs) (hm : (appO ds d).bind k = some out)
    (kont : ∀ es h, Own2 K H0 G (upd H p h) p (qs ++ [q]) es → k es = some out → D.nx σ (upd H p h)) : tDrop (tBM K "list" rAppend (tVar i) (tCons (tVar j) tNil)) D σ H := by
  obtain ⟨y, hy, hm⟩ := bind_some hm
  unfold appO at hy
  split at hy
  · rename_i hl
    cases hy
    obtain ⟨vs, h1, l0, rs0⟩ := o.o.h
    have ll : vs.length < 16000000 := by
      rw [rs0.len, Paired.length o.rows]
      exact hl
    refine ⟨.ref p, hv, .inl ⟨rfl, _, SqL.of h1⟩, ?_⟩
    refine ⟨.ref q, hj, p, vs, .ref q, rfl, rfl, h1, Nat.lt_of_lt_of_le ll (by decide), ?_⟩
    exact kont _ _ (o.snoc r n h1 (Nat.lt_of_lt_of_le ll (by decide))) hm
  · cases hy
/-- the place of an item -/
def plc (n : Nat) (i : Int) : Option Nat := if 0 ≤ i then some i.toNat else if -(n : Int) ≤ i then some (i + n).toNat else none
theorem ixO_at {α : Type} {xs : List α} {i : Int} {x : α} (h : ixO xs i = some x) : ∃ n, plc xs.length i = some n ∧ xs[n]? = some x ∧ n < xs.length := by
  unfold ixO at h
  unfold plc
  split at h
  · rename_i h0
    obtain ⟨hk, _⟩ := List.getElem?_eq_some_iff.mp h
    exact ⟨i.toNat, if_pos h0, h, hk⟩
  · rename_i h0
    split at h
    · rename_i h1
      obtain ⟨hk, _⟩ := List.getElem?_eq_some_iff.mp h
      exact ⟨(i + xs.length).toNat, by rw [if_neg h0, if_pos h1], h, hk⟩
    · cases h
theorem setO_at {α : Type} {xs : List α} {i : Int} {n : Nat} (h : plc xs.length i = some n) (hn : n < xs.length) (y : α) : setO xs i y = some (xs.set n y) := by
  unfold plc at h
  unfold setO
  split at h
  · cases h
    rw [if_pos (by omega)]
  · rename_i h0
    split at h
    · cases h
      rw [if_neg (by omega), if_pos (by omega)]
    · cases h
theorem atI_at {vs : List V} {i : Int} {n : Nat} {v : V} (h : plc vs.length i = some n) (hv : vs[n]? = some v) : atI vs i = some v := by
  obtain ⟨hk, _⟩ := List.getElem?_eq_some_iff.mp hv
  unfold plc at h
  unfold atI ixN
  split at h
  · rename_i h0
    cases h
    rw [if_pos h0, if_pos (by omega)]
    exact hv
  · rename_i h0
    split at h
    · rename_i h1
      cases h
      rw [if_neg h0, if_pos h1]
      exact hv
    · cases h
theorem rows_at : ∀ {qs : List Nat} {ds : List (List α)} {n : Nat} {d : List α}, Paired (fun q d => Own K H0 G H q d) qs ds → ds[n]? = some d → ∃ q, qs[n]? = some q ∧ Own K H0 G H q d ∧ q ∈ qs
  | _, _, 0, _, .cons r _, h => by
    cases h
    exact ⟨_, rfl, r, List.mem_cons_self⟩
  | _, _, n + 1, _, .cons _ t, h => by
    obtain ⟨q, h1, h2, h3⟩ := rows_at (n := n) t h
    exact ⟨q, h1, h2, List.mem_cons_of_mem _ h3⟩
theorem rows_put {o : HO} {d' : List α} : ∀ {qs : List Nat} {ds : List (List α)} {n : Nat}, Paired (fun a d => Own K H0 G H a d) qs ds → qs.Nodup → qs[n]? = some q → Own K H0 G (upd H q o) q d' → Paired (fun a d => Own K H0 G (upd H q o) a d) qs (ds.set n d')
  | a0 :: qs, _ :: ds, 0, .cons r t, hn, h, x => by
    have e0 : a0 = q := Option.some.inj h
    subst e0
    have := List.nodup_cons.mp hn
    exact .cons x (Pmap t fun a _ ha h => h.off fun e => this.1 (by rw [e] at ha; exact ha))
  | a0 :: qs, _ :: ds, n + 1, .cons r t, hn, h, x => by
    have h2 := List.nodup_cons.mp hn
    have hm : q ∈ qs := List.mem_of_getElem? (show qs[n]? = some q from h)
    exact .cons (r.off fun e => h2.1 (by rw [e]; exact hm)) (rows_put t h2.2 h x)
theorem Own2.put {n : Nat} {o : HO} {d' : List α} (x : Own2 K H0 G H p qs ds) (h : qs[n]? = some q) (r : Own K H0 G (upd H q o) q d') : Own2 K H0 G (upd H q o) p qs (ds.set n d') := by
  have hn := List.nodup_cons.mp x.nd
  have hm : q ∈ qs := List.mem_of_getElem? h
  exact ⟨x.o.off fun e => hn.1 (e ▸ hm), rows_put x.rows hn.2 h r, x.nd⟩
def set2O {α : Type} (ds : List (List α)) (i j : Int) (x : α) : Option (List (List α)) := (ixO ds i).bind fun r => (setO r j x).bind fun r2 => setO ds i r2
def app2O {α : Type} (ds : List (List α)) (i : Int) (x : α) : Option (List (List α)) := (ixO ds i).bind fun r => (appO r x).bind fun r2 => setO ds i r2
def clr2O {α : Type} (ds : List (List α)) (i : Int) : Option (List (List α)) := (ixO ds i).bind fun _ => setO ds i []
/-- t[i] of a table of one's own -/
theorem Own2.item {j : Int} (x : Own2 K H0 G H p qs ds) (h : ixO ds j = some d) : ∃ vs q n, H p = some (.lst vs) ∧ atI vs j = some (.ref q) ∧ qs[n]? = some q ∧ q ∈ qs ∧ Own K H0 G H q d ∧ ∀ y, setO ds j y = some (ds.set n y) := by
  obtain ⟨vs, h1, l, r⟩ := x.o.h
  obtain ⟨n, a1, a2, a3⟩ := ixO_at h
  obtain ⟨q, c1, c2, c3⟩ := rows_at x.rows a2
  obtain ⟨v, hv, hv2⟩ := r.get c1
  rw [show v = V.ref q from hv2] at hv
  refine ⟨vs, q, n, h1, atI_at (n := n) ?_ hv, c1, c3, c2, fun y => setO_at a1 a3 y⟩
  rw [r.len, Paired.length x.rows]
  exact a1
/-- an item of a row -/
theorem se_own2_ix {mi mj : Option Int} (hv : σ[i]? = some (some (.ref p))) (o : Own2 K H0 G H p qs ds) (hi : SE K tb σ G H mi) (hj : SE K tc σ G H mj) : SE K (tOp (rIxL K) (tOp (rIxL K) (tVar i) tb) tc) σ G H (mi.bind fun a => mj.bind fun b => (ixO ds a).bind fun r => ixO r b) := fun G1 H1 e z hm Q q => by
  obtain ⟨a, ha, hm⟩ := bind_some hm
  obtain ⟨b, hb, hm⟩ := bind_some hm
  obtain ⟨r, hr, hm⟩ := bind_some hm
  refine ⟨.ref p, hv, ?_⟩
  refine hi G1 H1 e a ha _ fun w G2 H2 e2 hw => ?_
  obtain ⟨vs, q', n, h1, h2, h3, h4, h5, h6⟩ := (o.mono (e.trans e2)).item hr
  refine ⟨p, vs, a, .ref q', rfl, hw, SqL.of h1, h2, ?_⟩
  refine hj G2 H2 (e.trans e2) b hb _ fun w2 G3 H3 e3 hw2 => ?_
  obtain ⟨ws, g1, g2, g3⟩ := (h5.mono e3).h
  obtain ⟨u, g4, g5⟩ := atI_reps g3 hm
  exact ⟨q', ws, b, u, rfl, hw2, SqL.of g1, g4, q u G3 H3 ((e2.trans e3)) g5⟩
theorem se_own2_len (hv : σ[i]? = some (some (.ref p))) (o : Own2 K H0 G H p qs ds) : SE K (tCB (fun xs H Q => ∃ p ys, xs = [.ref p] ∧ (SqL K H p ys ∨ SqT K H p ys) ∧ Q (.int ys.length) H) (tCons (tVar i) tNil)) σ G H (some (ds.length : Int)) := by
  rw [← Paired.length o.rows]
  exact se_own_len hv o.o
/-- t[i][j] = e -/
theorem st_put2 {mi mj : Option Int} {k : List (List α) → Option ρ} (hs : Vw G H) (hv : σ[i]? = some (some (.ref p))) (o : Own2 K H0 G H p qs ds) (se : SE K te σ G H ma) (si : SE K ta σ G H mi) (sj : SE K tb σ G H mj) (hm : (ma.bind fun x => mi.bind fun i => mj.bind fun j => (set2O ds i j x).bind k) = some out)
    (kont : ∀ es q h G1 H1, Ext G H G1 H1 → Own2 K H0 G1 (upd H1 q h) p qs es → Own2 K H0 G1 H1 p qs ds → q ∈ p :: qs → k es = some out → D.nx σ (upd H1 q h)) : tAsg te (gSub (tOp (rIxL K) (tVar i) ta) tb rSetL) D σ H := by
  obtain ⟨x, hx, hm⟩ := bind_some hm
  obtain ⟨a, ha, hm⟩ := bind_some hm
  obtain ⟨b, hb, hm⟩ := bind_some hm
  obtain ⟨es, he, hm⟩ := bind_some hm
  unfold set2O at he
  obtain ⟨r, hr, he⟩ := bind_some he
  obtain ⟨r2, hr2, he⟩ := bind_some he
  refine se G H (Ext.refl hs) x hx _ fun v G1 H1 e1 hw => ?_
  refine ⟨.ref p, hv, ?_⟩
  refine si G1 H1 e1 a ha _ fun w G2 H2 e2 hwa => ?_
  obtain ⟨vs, q', n, h1, h2, _, _, _, _⟩ := (o.mono (e1.trans e2)).item hr
  refine ⟨p, vs, a, .ref q', rfl, hwa, SqL.of h1, h2, ?_⟩
  refine sj G2 H2 (e1.trans e2) b hb _ fun w2 G3 H3 e3 hwb => ?_
  have o3 := (o.mono (e1.trans e2)).mono e3
  obtain ⟨vs', q2, n, h1', h2', h3, h4, h5, h6⟩ := o3.item hr
  have : vs' = vs := by
    have := e3.h.k _ _ h1
    rw [h1'] at this
    cases this
    rfl
  subst this
  rw [h2] at h2'
  cases h2'
  rw [h6] at he
  cases he
  obtain ⟨ws, g1, g2, g3⟩ := h5.h
  have hw3 := Rp.mono e3.g (Rp.mono e2.g hw)
  have hl := g3.len
  have hmq : q' ∈ p :: qs := List.mem_cons_of_mem _ h4
  unfold setO at hr2
  split at hr2
  · rename_i hc
    cases hr2
    refine ⟨q', ws, b, b.toNat, rfl, hwb, g1, ?_, ?_⟩
    · unfold ixN
      rw [if_pos hc.1, if_pos (by omega)]
    · exact kont _ q' _ G3 H3 ((e1.trans e2).trans e3) (o3.put h3 ⟨h5.z, h5.g, _, upd_same, by rw [List.length_set]; exact g2, g3.set _ hw3⟩) o3 hmq hm
  · split at hr2
    · rename_i hc
      cases hr2
      refine ⟨q', ws, b, (b + ws.length).toNat, rfl, hwb, g1, ?_, ?_⟩
      · unfold ixN
        rw [if_neg (by omega), if_pos (by omega)]
      · rw [show (ws.length : Int) = r.length by rw [hl]]
        exact kont _ q' _ G3 H3 ((e1.trans e2).trans e3) (o3.put h3 ⟨h5.z, h5.g, _, upd_same, by rw [List.length_set]; exact g2, g3.set _ hw3⟩) o3 hmq hm
    · cases hr2
/-- t[i].append(e) -/
theorem st_rowapp {mi : Option Int} {k : List (List α) → Option ρ} (hs : Vw G H) (hv : σ[i]? = some (some (.ref p))) (o : Own2 K H0 G H p qs ds) (si : SE K ta σ G H mi) (se : SE K te σ G H ma) (hm : (mi.bind fun i => ma.bind fun x => (app2O ds i x).bind k) = some out)
    (kont : ∀ es q h G1 H1, Ext G H G1 H1 → Own2 K H0 G1 (upd H1 q h) p qs es → Own2 K H0 G1 H1 p qs ds → q ∈ p :: qs → k es = some out → D.nx σ (upd H1 q h)) : tDrop (tBM K "list" rAppend (tOp (rIxL K) (tVar i) ta) (tCons te tNil)) D σ H := by
  obtain ⟨a, ha, hm⟩ := bind_some hm
  obtain ⟨x, hx, hm⟩ := bind_some hm
  obtain ⟨es, he, hm⟩ := bind_some hm
  unfold app2O at he
  obtain ⟨r, hr, he⟩ := bind_some he
  obtain ⟨r2, hr2, he⟩ := bind_some he
  refine ⟨.ref p, hv, ?_⟩
  refine si G H (Ext.refl hs) a ha _ fun w G2 H2 e2 hwa => ?_
  obtain ⟨vs, q', n, h1, h2, _, _, hq2, _⟩ := (o.mono e2).item hr
  obtain ⟨ws0, gg, _, _⟩ := hq2.h
  refine ⟨p, vs, a, .ref q', rfl, hwa, SqL.of h1, h2, .inl ⟨rfl, _, SqL.of gg⟩, ?_⟩
  refine se G2 H2 e2 x hx _ fun v G3 H3 e3 hw => ?_
  have o3 := (o.mono e2).mono e3
  obtain ⟨vs', q2, n, h1', h2', h3, h4, h5, h6⟩ := o3.item hr
  have : vs' = vs := by
    have := e3.h.k _ _ h1
    rw [h1'] at this
    cases this
    rfl
  subst this
  rw [h2] at h2'
  cases h2'
  rw [h6] at he
  cases he
  unfold appO at hr2
  split at hr2
  · rename_i hl
    cases hr2
    obtain ⟨ws, g1, g2, g3⟩ := h5.h
    have ll : ws.length < 16000000 := by
      rw [g3.len]
      exact hl
    refine ⟨q', ws, v, rfl, rfl, g1, Nat.lt_of_lt_of_le ll (by decide), ?_⟩
    refine kont _ q' _ G3 H3 (e2.trans e3) (o3.put h3 ⟨h5.z, h5.g, _, upd_same, ?_, g3.app (.cons hw .nil)⟩) o3 (List.mem_cons_of_mem _ h4) hm
    rw [List.length_append]
    exact Nat.le_trans (Nat.succ_le_of_lt ll) (by decide)
  · cases hr2
/-- t[i].clear() -/
theorem st_rowclear {mi : Option Int} {k : List (List α) → Option ρ} (hs : Vw G H) (hv : σ[i]? = some (some (.ref p))) (o : Own2 K H0 G H p qs ds) (si : SE K ta σ G H mi) (hm : (mi.bind fun i => (clr2O ds i).bind k) = some out)
    (kont : ∀ es q h G1 H1, Ext G H G1 H1 → Own2 K H0 G1 (upd H1 q h) p qs es → Own2 K H0 G1 H1 p qs ds → q ∈ p :: qs → k es = some out → D.nx σ (upd H1 q h)) : tDrop (tBM0 K "list" rClear (tOp (rIxL K) (tVar i) ta)) D σ H := by
  obtain ⟨a, ha, hm⟩ := bind_some hm
  obtain ⟨es, he, hm⟩ := bind_some hm
  unfold clr2O at he
  obtain ⟨r, hr, he⟩ := bind_some he
  refine ⟨.ref p, hv, ?_⟩
  refine si G H (Ext.refl hs) a ha _ fun w G2 H2 e2 hwa => ?_
  have o2 := o.mono e2
  obtain ⟨vs, q', n, h1, h2, h3, h4, h5, h6⟩ := o2.item hr
  rw [h6] at he
  cases he
  obtain ⟨ws, g1, g2, g3⟩ := h5.h
  refine ⟨p, vs, a, .ref q', rfl, hwa, SqL.of h1, h2, .inl ⟨rfl, _, SqL.of g1⟩, q', ws, rfl, rfl, g1, ?_⟩
  exact kont _ q' _ G2 H2 e2 (o2.put h3 ⟨h5.z, h5.g, _, upd_same, Nat.zero_le _, .nil⟩) o2 (List.mem_cons_of_mem _ h4) hm
end
end Mi

/-! MiS: sorted(set(list)), two tables of one's own one behind the other. -/
namespace Mi
variable [Tbs]
open PySem PySem.Spec PyProof.Rows L2
/-- a set without a member -/
abbrev set0 (w : World) : Obj := { cls := .type "set", dict := none, data := .set #[] 0 (.fresh 0 0 (!w.params.followText "set-order")) }
section
variable {P : Program} {w : World} {A : Around} {E : Value → Shared → Prop} {s : Shared}
theorem set_of_list {l : Addr} {items : Array Value} (ns : List Int) {Q : Value → Shared → Prop} (hh : A.handled = none) (hl : s.heap.IsList l items) (hit : IntsAre items.toList ns) (hb : ns.length + 1 < scanBound)
    (h : ∀ (h' : Heap) (tk c : Nat), SetR w h' s.heap.objs.size (fun j => decide (j ∈ ns)) c → c ≤ ns.length → (∀ b o, s.heap.get? b = some o → h'.get? b = some o) → Q (.ref s.heap.objs.size) { s with heap := h', toks := tk }) :
    wpAny (model P w) A (call (.type "set") [.ref l]) Q E s := by
  have hn : items.size = ns.length := by have q := IntsAre.length hit; rw [Array.length_toList] at q; exact q
  have hS : (s.heap.push (set0 w)).get? s.heap.objs.size = some (set0 w) := Heap.get?_push_size _ rfl
  have ⟨c, tl, hmro⟩ := F.called_set.mro; have hmade := F.called_set.made; have hsub := F.called_set.sub
  have h1 := F.called_set.notType; have h2 := F.called_set.canCreate; have hct := F.typeCall_set_1 (.ref l)
  refine wpAny_call (codeAny_of_tree ?_); show wpAny _ _ (callAny (.type "set") _) _ _ _
  refine wpAny_pure ⟨Code.quiet_builtin _ (by decide +kernel), codeAny_builtin F.entry_type_call ?_⟩; rw [Around.under_plain (weight_type_call_type "set" [.ref l] []) rfl]
  repeat (any_goals (first | assumption | wp_step))
  refine codeAny_mono (code_set_led1 (.ref l) (E := E) (Q₁ := fun o s1 => o = .ref s.heap.objs.size ∧ s1 = { s with heap := s.heap.push (set0 w) }) ⟨rfl, rfl⟩) fun r s1 hr => ?_
  cases r with
  | error e => exact hr
  | ok fl =>
    cases fl with
    | ret obj =>
      obtain ⟨rfl, rfl⟩ := hr
      have hT : Shared.TypeIs { s with heap := s.heap.push (set0 w) } (.ref s.heap.objs.size) "set" := ⟨_, hS, rfl⟩
      have hli := F.called_set.init.lookup; have hbi := F.called_set.init.bind (.ref s.heap.objs.size)
      repeat (any_goals (first | assumption | wp_step))
      refine codeAny_mono (codeAny_call_builtin (R := wants (fun r s2 => r = .none ∧ ∃ h' tk c, s2 = { s with heap := h', toks := tk } ∧ SetR w h' s.heap.objs.size (fun j => decide (j ∈ ns)) c ∧ c ≤ ns.length ∧ ∀ b o, s.heap.get? b = some o → h'.get? b = some o) E) F.called_set.init.plain F.entry_set_init (check_set_init_1 hT ?_)) fun r2 s2 hr2 => ?_
      · obtain ⟨⟨cl, di, da, sl⟩, ho, e1, nl, e2⟩ := hl
        simp only at e1 e2
        subst e1 e2
        have ho' := Heap.get?_push_of_some (set0 w) ho
        have f1 := F.sub_list_set; have f2 := F.sub_list_frozenset; have f3 : (Value.type "list" == Value.type "dict") = false := by decide
        have hl1 : (s.heap.push (set0 w)).IsList l items := ⟨_, ho', rfl, nl, rfl⟩
        unfold Builtin.«set.__init__» noKeywords Builtin.Frozenset.updateFrom
        generalize hPI : pyIter = PI
        wp_walk
        subst hPI
        refine wpAny_pyIter_list hl1 (wpAny_bind (wpAny_runValue ?_))
        have lS : l < s.heap.objs.size := Heap.lt_size ho
        have z1 : (s.heap.push (set0 w)).objs.size = s.heap.objs.size + 1 := Heap.size_push ..
        have n1 : l ≠ (s.heap.push (set0 w)).objs.size := by rw [z1]; exact Nat.ne_of_lt (Nat.lt_succ_of_lt lS)
        have n2 : s.heap.objs.size ∉ [(s.heap.push (set0 w)).objs.size, l] := fun m => by
          rcases List.mem_cons.mp m with m | m
          · rw [z1] at m; exact Nat.ne_of_lt (Nat.lt_succ_self _) m
          · exact Nat.ne_of_gt lS (List.mem_singleton.mp m)
        have hv : ∀ (i : Nat) (v : Value), items[i]? = some v → ∃ k t, ns[i]? = some k ∧ v = .int k t := fun i v hv => by
          have hi : i < ns.length := hn ▸ (Array.getElem?_eq_some_iff.mp hv).1
          obtain ⟨t, e⟩ := IntsAre.int_at hit i v ((Array.getElem?_toList ..).trans hv)
          exact ⟨ns[i], t, List.getElem?_eq_getElem hi, e.trans (by rw [List.getD_eq_getElem?_getD, List.getElem?_eq_getElem hi]; rfl)⟩
        refine set_update_ints (Walks.list (by simp [hh]) _ l n1 items).toS s.heap.objs.size n2 ns hn hb hv (items.size - 0) 0 _ (by omega) (Nat.zero_le _) ⟨⟨_, Heap.get?_push_size _ rfl, rfl, rfl⟩, hl1.push _⟩ ⟨0, Nat.le_refl 0, setR_new_at (Heap.get?_push_of_some _ hS)⟩ fun s' c' hm hc' hS' => ?_
        obtain ⟨h', g', d', tk', os'⟩ := s'
        have eg : g' = s.gens := hm.gens
        have ed : d' = s.drawn := hm.drawn
        have eo : os' = s.os := hm.os
        subst eg ed eo
        show wpAny _ _ _ _ _ _
        refine wpAny_pure ?_
        show wpAny _ _ (ret Value.none) _ _ _
        refine wpAny_pure ⟨rfl, h', tk', c', rfl, hS', hn ▸ hc', fun b o e => hm.heap b o (fun m => ?_) (Heap.get?_push_of_some _ (Heap.get?_push_of_some _ e))⟩
        have hb0 : b < s.heap.objs.size := Heap.lt_size e
        rcases List.mem_cons.mp m with m | m
        · exact Nat.ne_of_lt hb0 m
        · rcases List.mem_cons.mp m with m | m
          · rw [z1] at m; exact Nat.ne_of_lt (Nat.lt_succ_of_lt hb0) m
          · exact (List.not_mem_nil m).elim
      · cases r2 with
        | error e => exact hr2
        | ok f2 =>
          cases f2 with
          | ret r =>
            obtain ⟨rfl, h', tk, c', rfl, q1, q2, q3⟩ := hr2
            repeat (any_goals (first | assumption | wp_step))
            exact h _ _ _ q1 q2 q3
          | _ => exact hr2.elim
    | _ => exact hr.elim
/-- set(xs), of a list of whole numbers -/
def rSetL (K : PySem.W.Frag) (w : World) : List V → Hp → VK → Prop := fun xs H Q => ∃ (l : Addr) (ns : List Int), xs = [.ref l] ∧ SqL K H l (ns.map V.int) ∧ ns.length < 64 ∧ ∀ (a : Addr) (c : Nat), H a = none → c ≤ ns.length → Q (.ref a) (upd H a (SetO w a (fun j => decide (j ∈ ns)) c))
theorem cr_setL {X : Cx} (hc : X.calm = true) : CallR X (.type "set") (rSetL X.K X.w) := by
  intro pins s σ H vs us Q I r h
  obtain ⟨l, ns, rfl, hq, hl, q⟩ := h
  rw [Vals.ref1 r]
  obtain ⟨its, r, pl, hz⟩ := I.list hq
  refine set_of_list ns (I.ok.hd hc) pl.isList (by simpa using ints_of_vals r) (by unfold scanBound; omega) fun h' tk c R hcn k => ?_
  exact ⟨.ref _, upd H s.heap.objs.size (SetO X.w s.heap.objs.size (fun j => decide (j ∈ ns)) c), I.laid (t' := tk) k (Nat.le_refl _) (setO_new R), rfl, q _ c (I.hok.fresh (Nat.le_refl _)) hcn⟩
end
end Mi
namespace Mi
variable [Tbs]
open PySem L2
open Rp (rep)
def insU (x : Int) : List Int → List Int
  | [] => [x]
  | y :: r => if x < y then x :: y :: r else if x = y then y :: r else y :: insU x r
def sortU : List Int → List Int
  | [] => []
  | x :: r => insU x (sortU r)
theorem insU_mem {x z : Int} : ∀ {r : List Int}, z ∈ insU x r ↔ z = x ∨ z ∈ r
  | [] => by simp [insU]
  | y :: r => by
    unfold insU
    split
    · simp
    · split
      · rename_i e
        subst e
        simp
      · simp only [List.mem_cons, insU_mem (r := r)]
        constructor
        · rintro (h | h | h) <;> simp [h]
        · rintro (h | h | h) <;> simp [h]
theorem sortU_mem {z : Int} : ∀ {r : List Int}, z ∈ sortU r ↔ z ∈ r
  | [] => Iff.rfl
  | x :: r => by
    rw [sortU, insU_mem, sortU_mem, List.mem_cons]
theorem insU_up {x : Int} : ∀ {r : List Int}, r.Pairwise (· < ·) → (insU x r).Pairwise (· < ·)
  | [], _ => List.pairwise_singleton _ _
  | y :: r, h => by
    have h2 := List.pairwise_cons.mp h
    unfold insU
    split
    · rename_i hl
      refine List.pairwise_cons.mpr ⟨fun z hz => ?_, h⟩
      rcases List.mem_cons.mp hz with e | hz
      · omega
      · have := h2.1 z hz
        omega
    · split
      · exact h
      · refine List.pairwise_cons.mpr ⟨fun z hz => ?_, insU_up h2.2⟩
        rcases insU_mem.mp hz with e | hz
        · omega
        · exact h2.1 z hz
theorem sortU_up : ∀ r : List Int, (sortU r).Pairwise (· < ·)
  | [] => List.Pairwise.nil
  | _ :: r => insU_up (sortU_up r)
theorem up_le {r : List Int} (h : r.Pairwise (· < ·)) : r.Pairwise (· ≤ ·) := h.imp fun h => Int.le_of_lt h
theorem up_nd {r : List Int} (h : r.Pairwise (· < ·)) : r.Nodup := h.imp fun h => Int.ne_of_lt h
theorem up_one {a b : List Int} (h : ∀ z, z ∈ a ↔ z ∈ b) (ha : a.Pairwise (· < ·)) (hb : b.Pairwise (· < ·)) : a = b :=
  sorted_one ((List.perm_ext_iff_of_nodup (up_nd ha) (up_nd hb)).mpr h) (up_le ha) (up_le hb)
def setSortO (xs : List Int) : Option (List Int) := if xs.length < 64 then some (sortU xs) else none
section
variable {α ρ : Type} [Rp α] {K : PySem.W.Frag} {σ : St} {G0 H0 G H : Hp} {te : TE} {p p2 : Addr} {qs qs2 : List Nat} {ds ds2 : List (List α)} {D : Ends} {i j : Nat} {w : World}
theorem fe_sortSet {m : Option (List Int)} (h : SE K te σ G H m) : FE K (tCB (rSortedSet w) (tCons (tCB (rSetL K w) (tCons te tNil)) tNil)) σ G H (m.bind fun xs => setSortO xs) := fun G1 H1 e r hm Q q => by
  obtain ⟨xs, hx, hm⟩ := bind_some hm
  unfold setSortO at hm
  split at hm
  · rename_i hl
    cases hm
    refine h G1 H1 e xs hx _ fun v G2 H2 e2 ⟨a, vs, ea, ha, l, rs⟩ => ?_
    have e3 := rs.ints
    subst e3
    refine ⟨a, xs, by rw [ea], SqL.of (e2.s _ _ ha), hl, fun b c nb hc => ?_⟩
    refine ⟨b, _, c, rfl, upd_same, Nat.lt_of_le_of_lt hc hl, fun ys p hs hm hy np => ?_⟩
    have ey : ys = sortU xs := up_one (fun z => by rw [hm, sortU_mem, decide_eq_true_eq]) hs (sortU_up xs)
    subst ey
    have E3 := Ext.own (o := SetO w b (fun j => decide (j ∈ xs)) c) e2.s nb
    have s3 := E3.s
    have o := own_new (K := K) (ds := sortU xs) (vs := (sortU xs).map V.int) s3 np (by rw [List.length_map, hy]; exact Nat.le_trans hc (Nat.le_trans (Nat.le_of_lt hl) (by decide))) (reps_ints _)
    exact q p G2 _ ((e2.trans E3).trans (Ext.own s3 np)) ⟨(e2.trans E3).h.free np, o.g, o.h⟩
  · cases hm
theorem fe_sortSetp {xs : List Int} (h : SE K te σ G H (some xs)) : FE K (tCB (rSortedSet w) (tCons (tCB (rSetL K w) (tCons te tNil)) tNil)) σ G H (setSortO xs) := fe_sortSet h
/-- return a + b, both tables of one's own: a new one with the rows of both -/
theorem st_retCat2 {r : List (List α)} (hv : σ[i]? = some (some (.ref p))) (hw : σ[j]? = some (some (.ref p2))) (e : Ext G0 H0 G H) (o : Own2 K H0 G H p qs ds) (o2 : Own2 K H0 G H p2 qs2 ds2) (n : DJ (p :: qs) (p2 :: qs2)) (hm : catO ds ds2 = some r)
    (q : ∀ u G' H', Ext G0 H0 G' H' → RF2 K H0 G' H' u r → D.rt u H') : tRet (tOp rCat (tVar i) (tVar j)) D σ H := by
  unfold catO at hm
  split at hm
  · rename_i hl
    cases hm
    obtain ⟨vs, h1, l1, r1⟩ := o.o.h
    obtain ⟨ws, h2, l2, r2⟩ := o2.o.h
    have ll : vs.length + ws.length ≤ sizeLine := by
      rw [r1.len, r2.len, Paired.length o.rows, Paired.length o2.rows]
      exact Nat.le_trans hl (by decide)
    refine ⟨.ref p, hv, .ref p2, hw, p, p2, vs, ws, rfl, rfl, h1, h2, ll, fun p3 np => ?_⟩
    have x := own_new (K := K) (ds := qs ++ qs2) e.s np (by rw [List.length_append]; exact ll) (r1.app r2)
    have n3 : ∀ a, H a ≠ none → p3 ≠ a := fun a h e => h (e ▸ np)
    refine q _ G _ (e.trans (Ext.own e.s np)) ⟨p3, qs ++ qs2, rfl, x.up e.h, Papp (Pmap o.rows fun a _ ha h => h.off (n3 a (o.nes a (List.mem_cons_of_mem _ ha))).symm) (Pmap o2.rows fun a _ ha h => h.off (n3 a (o2.nes a (List.mem_cons_of_mem _ ha))).symm), ?_⟩
    refine List.nodup_cons.mpr ⟨fun h => ?_, List.nodup_append.mpr ⟨(List.nodup_cons.mp o.nd).2, (List.nodup_cons.mp o2.nd).2, fun a ha b hb e => n a (List.mem_cons_of_mem _ ha) (e ▸ List.mem_cons_of_mem _ hb)⟩⟩
    rcases List.mem_append.mp h with h | h
    · exact n3 _ (o.nes _ (List.mem_cons_of_mem _ h)) rfl
    · exact n3 _ (o2.nes _ (List.mem_cons_of_mem _ h)) rfl
  · cases hm
/-- list(d): its keys -/
def dkeysO {β : Type} (d : DI β) : Option (List Int) := if d.l.length ≤ 16000000 then some (d.l.map (·.1)) else none
theorem cr_listD {X : Cx} (hc : X.calm = true) : CallR X (.type "list") (fun xs H Q => ∃ (a : Addr) (kvs : List (Key × V)), xs = [.ref a] ∧ Rd H a (.dK kvs) ∧ ∀ p, H p = none → Q (.ref p) (upd H p (.lst (kvs.map fun kv => kV kv.1)))) := call_listD hc
theorem fe_listD {m : Option (DI α)} (h : SE K te σ G H m) : FE K (tCB (fun xs H Q => ∃ (a : Addr) (kvs : List (Key × V)), xs = [.ref a] ∧ Rd H a (.dK kvs) ∧ ∀ p, H p = none → Q (.ref p) (upd H p (.lst (kvs.map fun kv => kV kv.1)))) (tCons te tNil)) σ G H (m.bind fun d => dkeysO d) := fun G1 H1 e r hm Q q => by
  obtain ⟨d, hd1, hm⟩ := bind_some hm
  unfold dkeysO at hm
  split at hm
  · rename_i hl
    cases hm
    refine h G1 H1 e d hd1 _ fun v G2 H2 e2 ⟨a, ks, ea, hg, rs⟩ => ?_
    refine ⟨a, ks, by rw [ea], Rd.of (e2.s _ _ hg), fun p np => ?_⟩
    have ek : (ks.map fun kv => kV kv.1) = (d.l.map (·.1)).map V.int := by
      have := congrArg (List.map kV) (repsD_keys rs)
      rw [List.map_map, List.map_map] at this
      exact this
    rw [ek]
    have o := own_new (K := K) (ds := d.l.map (·.1)) (vs := (d.l.map (·.1)).map V.int) e2.s np (by rw [List.length_map, List.length_map]; exact Nat.le_trans hl (by decide)) (reps_ints _)
    exact q p G2 _ (e2.trans (Ext.own e2.s np)) ⟨e2.h.free np, o.g, o.h⟩
  · cases hm
theorem fe_listDp {d : DI α} (h : SE K te σ G H (some d)) : FE K (tCB (fun xs H Q => ∃ (a : Addr) (kvs : List (Key × V)), xs = [.ref a] ∧ Rd H a (.dK kvs) ∧ ∀ p, H p = none → Q (.ref p) (upd H p (.lst (kvs.map fun kv => kV kv.1)))) (tCons te tNil)) σ G H (dkeysO d) := fe_listD h
/-- range with a step, no longer than a list may be -/
def rangeSC (lo hi c : Int) : Option (List Int) := if (hi - lo).toNat ≤ 16000000 then rangeS lo hi c else none
theorem ib_range3 {ta tb : TE} {c : Int} {m n : Option Int} (hc : 0 < c ∧ c < 2 ^ 20) (h1 : SE K ta σ G H m) (h2 : SE K tb σ G H n) : IB K (iRng3 (tCons ta (tCons tb (tCons (tC (.int c)) tNil)))) σ G H (m.bind fun lo => n.bind fun hi => rangeSC lo hi c) := fun G1 H1 e xs hm R q => by
  obtain ⟨lo, hlo, hm⟩ := bind_some hm
  obtain ⟨hi, hhi, hm⟩ := bind_some hm
  unfold rangeSC at hm
  split at hm
  · rename_i hl
    refine ie_range3 hc h1 h2 G1 H1 e xs (by rw [hlo, hhi]; exact hm) R fun J G2 H2 e2 it => q J G2 H2 e2 it ?_
    unfold rangeS at hm
    split at hm
    · cases hm
      rw [List.length_map, List.length_range]
      have h3 := size_le (lo := lo) (hi := hi) hc.1
      rw [size_up hc.1] at h3
      exact Nat.le_trans (by omega) (show 16000000 ≤ sizeLine by decide)
    · cases hm
  · cases hm
theorem ib_range3p {ta tb : TE} {c lo hi : Int} (hc : 0 < c ∧ c < 2 ^ 20) (h1 : SE K ta σ G H (some lo)) (h2 : SE K tb σ G H (some hi)) : IB K (iRng3 (tCons ta (tCons tb (tCons (tC (.int c)) tNil)))) σ G H (rangeSC lo hi c) := ib_range3 hc h1 h2
/-- a new list, of scalars, made of a list of one's own that is shown for that time -/
theorem reps_any {β : Type} [Rp β] [ScV β] {G G' : Hp} : ∀ {vs : List V} {ds : List β}, Reps K G vs ds → Reps K G' vs ds
  | _, _, .nil => .nil
  | _, _, .cons h r => .cons (ScV.any h) (reps_any r)
theorem fe_tmp {β : Type} [Rp β] [ScV β] {d : List α} {mb : Option (List β)} (o : Own K H0 G H p d) (h : ∀ vs, Same G (upd G p (.lst vs)) → rep K (upd G p (.lst vs)) (.ref p) d → FE K te σ (upd G p (.lst vs)) H mb) : FE K te σ G H mb := fun G1 H1 e r hm Q q => by
  obtain ⟨vs, hp, l, rs⟩ := o.h
  have o1 := o.mono e
  have hp1 : H1 p = some (.lst vs) := e.h.k _ _ hp
  have s0 := h vs (same_new o.g) ⟨p, vs, rfl, upd_same, l, rs.mono (same_new o.g)⟩
  have e1 : Ext (upd G p (.lst vs)) H (upd G1 p (.lst vs)) H1 := ext_up e hp1
  refine s0 _ _ e1 r hm Q fun p2 G2 H2 e2 x => ?_
  obtain ⟨ws, w1, w2, w3⟩ := x.h
  refine q p2 G1 H2 ⟨Same.refl _, e2.s.less ((same_new o1.g).trans e2.g), e2.h, fun _ _ => rfl⟩ ⟨x.z, ?_, ws, w1, w2, reps_any w3⟩
  · by_cases h : p2 = p
    · subst h
      exact o1.g
    · have : H1 p2 = none := x.z
      cases hg : G1 p2 with
      | none => rfl
      | some u =>
        have := e1.s p2 u (by rw [upd_ne h]; exact hg)
        rw [x.z] at this
        cases this
/-! ### None, or a list of one's own -/
def OwnV (K : PySem.W.Frag) (H0 G H : Hp) (w : V) (d : Option (List α)) : Prop := match d with
  | none => w = .non
  | some d => ∃ p, w = .ref p ∧ Own K H0 G H p d
section
variable {w : V} {d : Option (List α)} {G1 H1 : Hp}
theorem OwnV.mono (x : OwnV K H0 G H w d) (e : Ext G H G1 H1) : OwnV K H0 G1 H1 w d := by
  cases d with
  | none => exact x
  | some d =>
    obtain ⟨p, ew, o⟩ := x
    exact ⟨p, ew, o.mono e⟩
theorem OwnV.up (x : OwnV K H G1 H1 w d) (s : HK H0 H) : OwnV K H0 G1 H1 w d := by
  cases d with
  | none => exact x
  | some d =>
    obtain ⟨p, ew, o⟩ := x
    exact ⟨p, ew, o.up s⟩
theorem OwnV.pn {p : Addr} (x : OwnV K H0 G H (.ref p) d) : PnAt H p := by
  cases d with
  | none => cases (show V.ref p = V.non from x)
  | some d =>
    obtain ⟨p', e, o⟩ := x
    cases e
    exact o.pn
theorem OwnV.show (x : OwnV K H0 G H w d) (e : Ext G0 H0 G H) : ∃ G', Ext G0 H0 G' H ∧ Same G G' ∧ rep K G' w d := by
  cases d with
  | none => exact ⟨G, e, Same.refl _, x⟩
  | some d =>
    obtain ⟨p, ew, o⟩ := x
    obtain ⟨vs, e2, s, r⟩ := o.show e
    subst ew
    exact ⟨_, e2, s, r, RpN.nn r⟩
def RN {ρ : Type} [Rp ρ] (K : PySem.W.Frag) (H G' H' : Hp) (u : V) (r : Option (List ρ)) : Prop := OwnV K H G' H' u r
theorem rnm {ρ : Type} [Rp ρ] {K : PySem.W.Frag} : ∀ H1 H2, HK H1 H2 → ∀ G' H' u (r : Option (List ρ)), RN K H2 G' H' u r → RN K H1 G' H' u r := fun _ _ s _ _ _ _ h => OwnV.up h s
theorem XE.nse {m : Option (Option (List α))} (h : XE (RN K) te σ G H m) : SE K te σ G H m := fun G1 H1 e r hm Q q =>
  h G1 H1 e r hm Q fun u G2 H2 e2 o => by
    obtain ⟨G', e3, s, hr⟩ := OwnV.show o e2
    exact q u G' H2 e3 hr
theorem xn_none : XE (RN K) (tC .non) σ G H (some (none : Option (List α))) := fun G1 H1 e r hm Q q => by
  cases hm
  exact q .non G1 H1 (Ext.refl e.s) rfl
theorem FE.xn {m : Option (List α)} (h : FE K te σ G H m) : XE (RN K) te σ G H (m.bind fun x => some (some x)) := fun G1 H1 e r hm Q q => by
  obtain ⟨x, hx, hm⟩ := bind_some hm
  cases hm
  exact h G1 H1 e x hx Q fun p G2 H2 e2 o => q (.ref p) G2 H2 e2 ⟨p, rfl, o⟩
theorem st_setN {m : Option (Option (List α))} {k : Option (List α) → Option ρ} {out : ρ} (hs : Vw G H) (se : XE (RN K) te σ G H m) (hm : m.bind k = some out) (kont : ∀ x w G1 H1, Ext G H G1 H1 → OwnV K H G1 H1 w x → k x = some out → D.nx (σ.set i (some w)) H1) : tAsg te (gName i) D σ H := by
  obtain ⟨x, hx, hk⟩ := bind_some hm
  exact se G H (Ext.refl hs) x hx _ fun u G1 H1 e o => kont x u G1 H1 e o hk
theorem se_tmpN {β : Type} [Rp β] [ScV β] {mb : Option β} (o : OwnV K H0 G H w d) (h : ∀ G', Same G G' → rep K G' w d → SE K te σ G' H mb) : SE K te σ G H mb := by
  cases d with
  | none => exact h G (Same.refl _) o
  | some d =>
    obtain ⟨p, ew, o⟩ := o
    subst ew
    exact se_tmp o fun vs s r => h _ s ⟨r, RpN.nn r⟩
theorem st_tmpN {m : Option Bool} {tt : TT} (o : OwnV K H0 G H w d) (h : ∀ G', Same G G' → rep K G' w d → ST tt σ G' H m) : ST tt σ G H m := by
  cases d with
  | none => exact h G (Same.refl _) o
  | some d =>
    obtain ⟨p, ew, o⟩ := o
    subst ew
    exact st_tmp o fun vs s r => h _ s ⟨r, RpN.nn r⟩
theorem st_clearN {k : List α → Option ρ} {out : ρ} (hs : Vw G H) (hv : σ[i]? = some (some w)) (o : OwnV K H0 G H w d) (hm : (d.bind fun _ => some ([] : List α)).bind k = some out)
    (kont : ∀ es p h G1 H1, Ext G H G1 H1 → w = .ref p → Own K H0 G1 (upd H1 p h) p es → G1 p = none → k es = some out → D.nx σ (upd H1 p h)) : tDrop (tBM0 K "list" rClear (tVar i)) D σ H := by
  cases d with
  | none => cases hm
  | some d =>
    obtain ⟨p, ew, o⟩ := o
    subst ew
    exact st_clear hs hv o hm fun es h G1 H1 e o g hk => kont es p h G1 H1 e rfl o g hk
end
end
end Mi

/-! MiT: tuples made of lists of whole numbers; dicts with such as keys. -/
namespace Mi
variable [Tbs]
open PySem L2
open Rp (rep)
/-- tuple(xs), made here -/
structure TK where
  l : List Int
deriving DecidableEq
def TK.tl (t : TK) : TL Int := ⟨t.l⟩
instance : Rp TK := ⟨fun _ G v d => ∃ a, v = .ref a ∧ G a = some (.tup (d.l.map V.int)) ∧ d.l.length ≤ sizeLine, fun s ⟨a, e, h, l⟩ => ⟨a, e, s _ _ h, l⟩⟩
structure DT (β : Type) where
  l : List (List Int × β)
section
variable {β : Type}
def tfind (l : List (List Int × β)) (k : List Int) : Option β := (l.find? fun x => decide (x.1 = k)).map (·.2)
def tput (l : List (List Int × β)) (k : List Int) (v : β) : List (List Int × β) := if (l.any fun x => decide (x.1 = k)) = true then l.map (fun x => if x.1 = k then (x.1, v) else x) else l ++ [(k, v)]
def tputO (d : DT β) (k : TK) (v : β) : Option (DT β) := if d.l.length < 16000000 then some ⟨tput d.l k.l v⟩ else none
def thas (d : DT β) (k : TK) : Bool := (tfind d.l k.l).isSome
def tgetD (d : DT β) (k : TK) (x : β) : β := (tfind d.l k.l).getD x
end
/-- the parts of a key -/
abbrev kk (k : List Int) : List Key := k.map Sum.inl
theorem kk_inj {a b : List Int} : kk a = kk b ↔ a = b := ⟨fun h => List.map_inj_right (fun _ _ h => by injection h) |>.mp h, fun h => by rw [h]⟩
theorem kk_kV (a : List Int) : (kk a).map kV = a.map V.int := by
  rw [List.map_map]
  rfl
abbrev RepsT {β : Type} [Rp β] (K : PySem.W.Frag) (G : Hp) : List (List Key × V) → List (List Int × β) → Prop := Paired fun p q => p.1 = kk q.1 ∧ rep K G p.2 q.2
section
variable {β : Type} [Rp β] {K : PySem.W.Frag} {G G' : Hp} {ks : List (List Key × V)} {l : List (List Int × β)} {k : List Int} {v : V} {x : β}
theorem repsT_mono (s : Same G G') : ∀ {ks : List (List Key × V)} {l : List (List Int × β)}, RepsT K G ks l → RepsT K G' ks l
  | _, _, .nil => .nil
  | _, _, .cons h r => .cons ⟨h.1, Rp.mono s h.2⟩ (repsT_mono s r)
theorem kk_dec (a b : List Int) : decide (kk a = kk b) = decide (a = b) := decide_eq_decide.mpr kk_inj
theorem repsT_find : ∀ {ks : List (List Key × V)} {l : List (List Int × β)}, RepsT K G ks l → (tfind l k = none → valV ks (kk k) = none) ∧ ∀ x, tfind l k = some x → ∃ v, valV ks (kk k) = some v ∧ rep K G v x
  | _, _, .nil => ⟨fun _ => rfl, fun x h => by cases h⟩
  | (a, v) :: ks, (b, y) :: l, .cons ⟨h1, h2⟩ r => by
    have ih := repsT_find r
    simp only at h1 h2
    subst h1
    by_cases e : b = k
    · subst e
      rw [valV_pos (p := (kk b, v)) rfl, show tfind ((b, y) :: l) b = some y by simp [tfind]]
      exact ⟨fun h => (nomatch h), fun x h => by cases h; exact ⟨v, rfl, h2⟩⟩
    · rw [valV_neg (p := (kk b, v)) fun h => e (kk_inj.mp h), show tfind ((b, y) :: l) k = tfind l k by simp [tfind, List.find?_cons, e]]
      exact ih
theorem repsT_any : ∀ {ks : List (List Key × V)} {l : List (List Int × β)}, RepsT K G ks l → (ks.any fun kv => decide (kv.1 = kk k)) = l.any fun x => decide (x.1 = k)
  | _, _, .nil => rfl
  | (a, v) :: ks, (b, y) :: l, .cons ⟨h1, h2⟩ r => by
    simp only at h1
    subst h1
    rw [List.any_cons, List.any_cons, repsT_any r, kk_dec]
theorem repsT_map (hx : rep K G v x) : ∀ {ks : List (List Key × V)} {l : List (List Int × β)}, RepsT K G ks l → RepsT K G (ks.map fun kv => if kv.1 = kk k then (kv.1, v) else kv) (l.map fun z => if z.1 = k then (z.1, x) else z)
  | _, _, .nil => .nil
  | (a, w) :: ks, (b, y) :: l, .cons ⟨h1, h2⟩ r => by
    simp only at h1 h2
    subst h1
    rw [List.map_cons, List.map_cons]
    refine .cons ?_ (repsT_map hx r)
    by_cases e : b = k
    · subst e
      rw [if_pos rfl, if_pos rfl]
      exact ⟨rfl, hx⟩
    · rw [if_neg (fun h => e (kk_inj.mp h)), if_neg e]
      exact ⟨rfl, h2⟩
theorem repsT_put (h : RepsT K G ks l) (hx : rep K G v x) : RepsT K G (putK ks (kk k) v) (tput l k x) := by
  unfold putK tput
  rw [repsT_any h]
  split
  · exact repsT_map hx h
  · exact Paired.snoc h ⟨rfl, hx⟩
theorem isSome_tfind (rs : RepsT K G ks l) : (valV ks (kk k)).isSome = (tfind l k).isSome := by
  have := repsT_find (k := k) rs
  cases h : tfind l k with
  | none => rw [this.1 h]; rfl
  | some x =>
    obtain ⟨v, hv, _⟩ := this.2 x h
    rw [hv]
    rfl
end
instance {β : Type} [Rp β] : Rp (DT β) := ⟨fun K G v d => ∃ a ks, v = .ref a ∧ G a = some (.dT ks) ∧ RepsT K G ks d.l, fun s ⟨a, ks, e, h, r⟩ => ⟨a, ks, e, s _ _ h, repsT_mono s r⟩⟩
/-- a dict of one's own, its keys tuples -/
structure OwnT {β : Type} [Rp β] (K : PySem.W.Frag) (H0 G H : Hp) (p : Addr) (d : DT β) : Prop where
  z : H0 p = none
  g : G p = none
  h : ∃ ks, H p = some (.dT ks) ∧ RepsT K G ks d.l
section
variable {α β ρ : Type} [Rp α] [Rp β]
variable {K : PySem.W.Frag} {σ : St} {G0 H0 G H G1 H1 : Hp} {te td ty tv tx : TE} {tc : TT} {ma : Option α} {mb : Option β} {i : Nat} {d : DT β} {D : Ends} {out : ρ} {p q : Addr}
theorem OwnT.ne (x : OwnT K H0 G H p d) : H p ≠ none := by
  obtain ⟨vs, h, _⟩ := x.h
  rw [h]
  exact fun z => nomatch z
theorem OwnT.pn (x : OwnT K H0 G H p d) : PnAt H p := by
  obtain ⟨ks, h, _⟩ := x.h
  exact ⟨_, h, pn_of (fun _ z => by cases z) (fun _ z => by cases z)⟩
theorem OwnT.mono (x : OwnT K H0 G H p d) (e : Ext G H G1 H1) : OwnT K H0 G1 H1 p d := by
  obtain ⟨vs, h, r⟩ := x.h
  exact ⟨x.z, (e.a p x.ne).trans x.g, vs, e.h.k _ _ h, repsT_mono e.g r⟩
theorem OwnT.off {o : HO} (x : OwnT K H0 G H p d) (n : p ≠ q) : OwnT K H0 G (upd H q o) p d := by
  obtain ⟨vs, h, r⟩ := x.h
  exact ⟨x.z, x.g, vs, by rw [upd_ne n]; exact h, r⟩
theorem OwnT.off2 {o : HO} (x : OwnT K H0 G H p d) (n : p ≠ q) (gq : G q = none) : OwnT K H0 (upd G q o) H p d := by
  obtain ⟨vs, h, r⟩ := x.h
  exact ⟨x.z, by rw [upd_ne n]; exact x.g, vs, h, repsT_mono (same_new gq) r⟩
theorem OwnT.ne2 (x : OwnT K H0 G H p d) (n : H q = none) : p ≠ q := fun e => x.ne (e ▸ n)
theorem OwnT.up (x : OwnT K H G1 H1 p d) (s : HK H0 H) : OwnT K H0 G1 H1 p d := ⟨s.free x.z, x.g, x.h⟩
theorem OwnT.show (x : OwnT K H0 G H p d) (e : Ext G0 H0 G H) : ∃ ks, Ext G0 H0 (upd G p (.dT ks)) H ∧ Same G (upd G p (.dT ks)) ∧ rep K (upd G p (.dT ks)) (.ref p) d := by
  obtain ⟨ks, h, r⟩ := x.h
  exact ⟨ks, e.show x.z x.g h, same_new x.g, p, ks, rfl, upd_same, repsT_mono (same_new x.g) r⟩
theorem sdT_tmp [ScV α] (o : OwnT K H0 G H p d) (h : ∀ vs, Same G (upd G p (.dT vs)) → rep K (upd G p (.dT vs)) (.ref p) d → SE K te σ (upd G p (.dT vs)) H ma) : SE K te σ G H ma := fun G1 H1 e r hm Q q => by
  obtain ⟨vs, hp, rs⟩ := o.h
  have o1 := o.mono e
  have s0 := h vs (same_new o.g) ⟨p, vs, rfl, upd_same, repsT_mono (same_new o.g) rs⟩
  refine s0 _ _ (ext_up e (e.h.k _ _ hp)) r hm _ fun v G2 H2 e2 hv => q v G1 H2 ⟨Same.refl _, ?_, e2.h, fun _ _ => rfl⟩ (ScV.any hv)
  exact e2.s.less ((same_new o1.g).trans e2.g)
theorem stT_tmp {m : Option Bool} (o : OwnT K H0 G H p d) (h : ∀ vs, Same G (upd G p (.dT vs)) → rep K (upd G p (.dT vs)) (.ref p) d → ST tc σ (upd G p (.dT vs)) H m) : ST tc σ G H m := fun G1 H1 e r hm Q q => by
  obtain ⟨vs, hp, rs⟩ := o.h
  have o1 := o.mono e
  have s0 := h vs (same_new o.g) ⟨p, vs, rfl, upd_same, repsT_mono (same_new o.g) rs⟩
  refine s0 _ _ (ext_up e (e.h.k _ _ hp)) r hm _ fun G2 H2 e2 => q G1 H2 ⟨Same.refl _, ?_, e2.h, fun _ _ => rfl⟩
  exact e2.s.less ((same_new o1.g).trans e2.g)
/-! ### a new one -/
def FT (K : PySem.W.Frag) (te : TE) (σ : St) (G H : Hp) (m : Option (DT β)) : Prop :=
  ∀ G1 H1, Ext G H G1 H1 → ∀ r, m = some r → ∀ Q : VK, (∀ p G2 H2, Ext G1 H1 G2 H2 → OwnT K H1 G2 H2 p r → Q (.ref p) H2) → te σ H1 Q
theorem FT.se {m : Option (DT β)} (h : FT K te σ G H m) : SE K te σ G H m := fun G1 H1 e r hm Q q =>
  h G1 H1 e r hm Q fun p G2 H2 e2 o => by
    obtain ⟨ks, e3, _, hr⟩ := o.show e2
    exact q _ _ _ e3 hr
theorem ft_new : FT K tDNewT σ G H (some (⟨[]⟩ : DT β)) := fun G1 H1 e r hm Q q => by
  cases hm
  intro p np
  exact q p G1 _ (Ext.own e.s np) ⟨np, e.s.free np, [], upd_same, .nil⟩
theorem st_setT {m : Option (DT β)} {k : DT β → Option ρ} (hs : Vw G H) (se : FT K te σ G H m) (hm : m.bind k = some out) (kont : ∀ x p G1 H1, Ext G H G1 H1 → OwnT K H G1 H1 p x → k x = some out → D.nx (σ.set i (some (.ref p))) H1) : tAsg te (gName i) D σ H := by
  obtain ⟨x, hx, hk⟩ := bind_some hm
  exact se G H (Ext.refl hs) x hx _ fun p G1 H1 e o => kont x p G1 H1 e o hk
/-! ### readings -/
theorem dget_t {a b : Addr} {ks : List (List Key × V)} {k : List Int} (h : H a = some (.dT ks)) (hb : H b = some (.tup (k.map V.int))) : DGet H a (.ref b) (valV ks (kk k)) := DGet.t h (by rw [kk_kV]; exact hb)
theorem se_tin {m : Option (DT β)} {n : Option TK} (hk : SE K ty σ G H n) (hd : SE K td σ G H m) : SE K (tDIn ty td) σ G H (n.bind fun y => m.bind fun x => some (thas x y)) := fun G1 H1 e r hm Q q => by
  obtain ⟨k, hk1, hm⟩ := bind_some hm
  obtain ⟨d, hd1, hm⟩ := bind_some hm
  cases hm
  refine hk G1 H1 e k hk1 _ fun w G2 H2 e2 hw => ?_
  refine hd G2 H2 (e.trans e2) d hd1 _ fun v G3 H3 e3 ⟨a, ks, ea, h, rs⟩ => ?_
  obtain ⟨b, eb, hb, _⟩ := (Rp.mono e3.g hw : rep K G3 w k)
  refine ⟨a, valV ks (kk k.l), ea, ?_, ?_⟩
  · rw [eb]
    exact dget_t (e3.s _ _ h) (e3.s _ _ hb)
  · rw [isSome_tfind rs]
    exact q _ G3 H3 (e2.trans e3) rfl
theorem se_tinp {x : DT β} {y : TK} (hk : SE K ty σ G H (some y)) (hd : SE K td σ G H (some x)) : SE K (tDIn ty td) σ G H (some (thas x y)) := se_tin hk hd
theorem se_tnotin {m : Option (DT β)} {n : Option TK} (hk : SE K ty σ G H n) (hd : SE K td σ G H m) : SE K (tDNotIn ty td) σ G H (n.bind fun y => m.bind fun x => some (!thas x y)) := fun G1 H1 e r hm Q q => by
  obtain ⟨k, hk1, hm⟩ := bind_some hm
  obtain ⟨d, hd1, hm⟩ := bind_some hm
  cases hm
  refine hk G1 H1 e k hk1 _ fun w G2 H2 e2 hw => ?_
  refine hd G2 H2 (e.trans e2) d hd1 _ fun v G3 H3 e3 ⟨a, ks, ea, h, rs⟩ => ?_
  obtain ⟨b, eb, hb, _⟩ := (Rp.mono e3.g hw : rep K G3 w k)
  refine ⟨a, valV ks (kk k.l), ea, ?_, ?_⟩
  · rw [eb]
    exact dget_t (e3.s _ _ h) (e3.s _ _ hb)
  · rw [isSome_tfind rs]
    exact q _ G3 H3 (e2.trans e3) rfl
theorem se_tnotinp {x : DT β} {y : TK} (hk : SE K ty σ G H (some y)) (hd : SE K td σ G H (some x)) : SE K (tDNotIn ty td) σ G H (some (!thas x y)) := se_tnotin hk hd
theorem se_tgetD {m : Option (DT β)} {n : Option TK} {o : Option β} (hd : SE K td σ G H m) (hk : SE K ty σ G H n) (hx : SE K tx σ G H o) : SE K (tDGet2 td ty tx) σ G H (m.bind fun x => n.bind fun y => o.bind fun z => some (tgetD x y z)) := fun G1 H1 e r hm Q q => by
  obtain ⟨d, hd1, hm⟩ := bind_some hm
  obtain ⟨k, hk1, hm⟩ := bind_some hm
  obtain ⟨x, hx1, hm⟩ := bind_some hm
  cases hm
  refine hd G1 H1 e d hd1 _ fun v G2 H2 e2 hv => ?_
  obtain ⟨a, ks, ea, h, rs⟩ := id hv
  refine ⟨a, ea, Or.inr ⟨ks, Rd.of (e2.s _ _ h)⟩, ?_⟩
  refine hk G2 H2 (e.trans e2) k hk1 _ fun w G3 H3 e3 hw => ?_
  refine hx G3 H3 ((e.trans e2).trans e3) x hx1 _ fun z G4 H4 e4 hz => ?_
  have h4 : H4 a = some (.dT ks) := e4.s _ _ (e4.g _ _ (e3.g _ _ h))
  obtain ⟨b, eb, hb, _⟩ := (Rp.mono e4.g hw : rep K G4 w k)
  refine ⟨valV ks (kk k.l), ?_, ?_⟩
  · rw [eb]
    exact dget_t h4 (e4.s _ _ hb)
  · refine q _ G4 H4 ((e2.trans e3).trans e4) ?_
    have hf := repsT_find (k := k.l) rs
    unfold tgetD
    cases hc : tfind d.l k.l with
    | none => rw [hf.1 hc]; exact hz
    | some y =>
      obtain ⟨u, hu, ru⟩ := hf.2 y hc
      rw [hu]
      exact Rp.mono e4.g (Rp.mono e3.g ru)
theorem se_tgetDp {x : DT β} {y : TK} {z : β} (hd : SE K td σ G H (some x)) (hk : SE K ty σ G H (some y)) (hx : SE K tx σ G H (some z)) : SE K (tDGet2 td ty tx) σ G H (some (tgetD x y z)) := se_tgetD hd hk hx
/-! ### d[k] = v -/
theorem st_tput {n : Option TK} {k : DT β → Option ρ} (hs : Vw G H) (hv : σ[i]? = some (some (.ref p))) (o : OwnT K H0 G H p d) (se : SE K tv σ G H mb) (sk : SE K ty σ G H n) (hm : (mb.bind fun x => n.bind fun j => (tputO d j x).bind k) = some out)
    (kont : ∀ es h G1 H1, Ext G H G1 H1 → OwnT K H0 G1 (upd H1 p h) p es → G1 p = none → k es = some out → D.nx σ (upd H1 p h)) : sDPut (tVar i) ty tv D σ H := by
  obtain ⟨x, hx, hm⟩ := bind_some hm
  obtain ⟨j, hj, hm⟩ := bind_some hm
  obtain ⟨es, he, hm⟩ := bind_some hm
  unfold tputO at he
  split at he
  · rename_i hl
    cases he
    refine se G H (Ext.refl hs) x hx _ fun v G1 H1 e1 hv1 => ?_
    refine ⟨.ref p, hv, ?_⟩
    refine sk G1 H1 e1 j hj _ fun w G2 H2 e2 ⟨b, eb, hb, _⟩ => ?_
    have o2 := (o.mono e1).mono e2
    obtain ⟨ks, hp, rs⟩ := o2.h
    refine ⟨p, upd H2 p (.dT (putK ks (kk j.l) v)), rfl, ?_, ?_⟩
    · rw [eb]
      exact DPut.t hp (by rw [kk_kV]; exact e2.s _ _ hb) (by rw [Paired.length rs]; exact Nat.lt_of_lt_of_le hl (by decide))
    · exact kont _ _ G2 H2 (e1.trans e2) ⟨o2.z, o2.g, _, upd_same, repsT_put rs (Rp.mono e2.g hv1)⟩ o2.g hm
  · cases he
/-! ### tuple(xs) -/
theorem se_tupleOf {m : Option (List Int)} (h : SE K te σ G H m) : SE K (tCB (fun xs H Q => ∃ p ys, xs = [.ref p] ∧ ((SqL K H p ys ∧ ∀ l, H l = none → Q (.ref l) (upd H l (.tup ys))) ∨ (SqT K H p ys ∧ Q (.ref p) H))) (tCons te tNil)) σ G H (m.bind fun xs => some (TK.mk xs)) := fun G1 H1 e r hm Q q => by
  obtain ⟨xs, hx, hm⟩ := bind_some hm
  cases hm
  refine h G1 H1 e xs hx _ fun v G2 H2 e2 ⟨a, vs, ea, ha, l, rs⟩ => ?_
  have e3 := rs.ints
  subst e3
  refine ⟨a, _, by rw [ea], .inl ⟨SqL.of (e2.s _ _ ha), fun p np => ?_⟩⟩
  exact q (.ref p) _ _ (e2.trans (Ext.new e2.s np)) ⟨p, rfl, upd_same, by rw [List.length_map] at l; exact l⟩
theorem se_tupleOfp {xs : List Int} (h : SE K te σ G H (some xs)) : SE K (tCB (fun xs H Q => ∃ p ys, xs = [.ref p] ∧ ((SqL K H p ys ∧ ∀ l, H l = none → Q (.ref l) (upd H l (.tup ys))) ∨ (SqT K H p ys ∧ Q (.ref p) H))) (tCons te tNil)) σ G H (some (TK.mk xs)) := se_tupleOf h
theorem se_tktl {m : Option TK} (h : SE K te σ G H m) : SE K te σ G H (m.bind fun p => some (TK.tl p)) := fun G1 H1 e r hm Q q => by
  obtain ⟨p, hp, hm⟩ := bind_some hm
  cases hm
  exact h G1 H1 e p hp Q fun v G2 H2 e2 ⟨a, ea, hg, l⟩ => q v G2 H2 e2 ⟨a, _, ea, SqT.of hg, by rw [List.length_map]; exact l, reps_ints _⟩
theorem se_tktlp {p : TK} (h : SE K te σ G H (some p)) : SE K te σ G H (some (TK.tl p)) := se_tktl h
end
end Mi
namespace Mi
variable [Tbs]
open L2
instance : RpTy TK := ⟨"tuple", fun s ⟨a, e, h, _⟩ => by rw [e]; exact ty_tup (SqT.of (s _ _ h))⟩
end Mi
namespace Mi
variable [Tbs]
open PySem L2
instance {α : Type} [DecidableEq α] : DecidableEq (TL α) := fun a b => decidable_of_iff (a.l = b.l) ⟨fun h => by cases a; cases b; cases h; rfl, fun h => by rw [h]⟩
theorem tl_eq {α : Type} {a b : TL α} : a = b ↔ a.l = b.l := ⟨fun h => by rw [h], fun h => by cases a; cases b; cases h; rfl⟩
instance {α : Type} [Rp α] [DecidableEq α] [RpD α] : RpD (TL α) := ⟨fun xs => .tuple (xs.l.map RpD.py), fun s ⟨a, vs, e, h, _, r⟩ => by
  rw [e]
  exact .tup (same_tup s h) (dall s r), fun x y => (eqvAll_map x.l y.l).trans (decide_eq_decide.mpr tl_eq.symm), fun x => layAll_map x.l, RpD.dep α + 1, fun x => Nat.succ_le_succ (depAll_map x.l)⟩
end Mi

/-! MiU: zip of a tuple and a list. -/
namespace Mi
variable [Tbs]
open PySem PySem.Spec PyProof.Rows L2
open Rp (rep)
/-- the turns: a pair of the tuple's and the list's next item -/
def ItM (K : PySem.W.Frag) (a b : Addr) (m : Nat) : It where
  go i H := i < m ∧ ∃ vs ws v w, SqT K H a vs ∧ SqL K H b ws ∧ vs[i]? = some v ∧ ws[i]? = some w
  yld i H u H' := ∃ c v w, u = .ref c ∧ H c = none ∧ H' = upd H c (.tup [v, w]) ∧ (∀ vs, SqT K H a vs → vs[i]? = some v) ∧ ∀ ws, SqL K H b ws → ws[i]? = some w
  stop i H := m ≤ i ∧ ∃ vs ws : List V, (SqT K H a vs ∧ SqL K H b ws) ∧ min vs.length ws.length = m
theorem five {a b c d e x : Addr} (h : x ∈ [a, b, c, d, e]) : x = a ∨ x = b ∨ x = c ∨ x = d ∨ x = e := by simpa using h
/-- where the walk over both stands -/
def StM (a b z t1 t2 j k : Addr) (m i : Nat) (h : Heap) : Prop :=
  (i ≤ m ∧ IsZip h z t1 t2 .none) ∧ IsTupOf2 h t1 (.ref j) (.ref k) ∧ (∃ u v, IsTupOf2 h t2 u v) ∧ h.IsTupleIter j a i ∧ h.IsListIter k b i
theorem turn_M {P : Program} {w : World} {K : PySem.W.Frag} {elts : List Expr} {n : Nat} {tp : Pos} {a b z t1 t2 j k : Addr} {m : Nat} (S : ZipSep2 z t1 t2 j k [j, a] [k, b]) :
    Turn P w K (.Tuple elts n tp) (ItM K a b m) [z, t1, t2, j, k] z (StM a b z t1 t2 j k m) := by
  refine ⟨List.mem_cons_self, fun i h st c hc => ?_, fun i h h' st keep => ?_, ?_, ?_, fun A i s Q E st q => wpAny_pyIter_zip st.1.2 q⟩
  · obtain ⟨⟨sm, s1⟩, s2, ⟨u, v, s3⟩, ⟨o4, g4, _, d4⟩, ⟨o5, g5, _, d5⟩⟩ := st
    rcases five hc with rfl | rfl | rfl | rfl | rfl
    · exact ⟨_, s1, fun _ x => by cases x⟩
    · exact ⟨_, s2, fun _ x => by cases x⟩
    · exact ⟨_, s3, fun _ x => by cases x⟩
    · exact ⟨o4, g4, fun _ x => by rw [d4] at x; cases x⟩
    · exact ⟨o5, g5, fun _ x => by rw [d5] at x; cases x⟩
  · obtain ⟨⟨sm, s1⟩, s2, ⟨u, v, s3⟩, s4, s5⟩ := st
    exact ⟨⟨sm, keep _ (by simp) _ s1⟩, keep _ (by simp) _ s2, ⟨u, v, keep _ (by simp) _ s3⟩, s4.at fun o x => keep j (by simp) o x, s5.at fun o x => keep k (by simp) o x⟩
  · intro X eP eW eK calm i pins s σ H E I hf st hg
    subst eP eW eK
    obtain ⟨⟨sm, s1⟩, s2, ⟨u0, v0, s3⟩, s4, s5⟩ := st
    obtain ⟨hm, vs, ws, v, w, qv, qw, gv, gw⟩ := hg
    obtain ⟨its, r1, p1, _⟩ := I.tuple qv
    obtain ⟨its2, r2, p2, _⟩ := I.list qw
    obtain ⟨x, gx, rx⟩ := r1.get gv
    obtain ⟨y, gy, ry⟩ := r2.get gw
    have hh := I.ok.hd calm
    have aj : a ≠ j := fun e => by
      obtain ⟨o, ho, hc, _⟩ := p1
      obtain ⟨o4, g4, c4, _⟩ := s4
      rw [e, g4] at ho
      cases ho
      rw [c4] at hc
      exact absurd hc (by decide)
    have bk : b ≠ k := fun e => by
      obtain ⟨o, _, ho, hc, _⟩ := p2
      obtain ⟨o5, g5, c5, _⟩ := s5
      rw [e, g5] at ho
      cases ho
      rw [c5] at hc
      exact absurd hc (by decide)
    have lz : z < s.heap.objs.size := Heap.lt_size s1
    have l1 : i < its.toArray.size := by have := (List.getElem?_eq_some_iff.mp gx).1; simpa using this
    have l2 : i < its2.toArray.size := by have := (List.getElem?_eq_some_iff.mp gy).1; simpa using this
    refine wpAny_pyNext_zipD2_item S (Draws.tuple (A := X.A.in1) hh j a aj its.toArray) (Draws.list (A := X.A.in1) hh k b bk its2.toArray) s1 s2 s3 ⟨s4, p1⟩ ⟨s5, p2.isList⟩ l1 l2 fun x' y' h' tk ex ey z1 o1 d1 d2 new hsz kept => ?_
    have ex : x' = x := by
      have : its[i]? = some x' := by simpa using ex
      rw [gx] at this
      exact (Option.some.inj this).symm
    have ey : y' = y := by
      have : its2[i]? = some y' := by simpa using ey
      rw [gy] at this
      exact (Option.some.inj this).symm
    subst ex ey
    refine ⟨_, rfl, wpAny_letOwnedTupleGo_zip (s := { s with heap := h', toks := tk }) z1 fun h2 z2 sb => ?_⟩
    have cN : s.heap.objs.size ≠ z := Nat.ne_of_gt lz
    have new2 : h2.get? s.heap.objs.size = some { cls := .type "tuple", data := .seq #[x', y'] } := (sb.2 _ cN).trans new
    have okN : ObjOk X.prog X.w (upd H s.heap.objs.size (.tup [v, w])) h2 s.heap.objs.size (.tup [v, w]) := ⟨show 2 ≤ sizeLine by decide, [x', y'], .cons rx (.cons ry .nil), ⟨_, new2, rfl, _, rfl⟩⟩
    have J : Inv X pins σ (upd H s.heap.objs.size (.tup [v, w])) { s with heap := h2, toks := tk } :=
      I.turnedNew (ch := [z, t1, t2, j, k]) (fun c o hn e => (sb.2 c fun x => hn (by simp [x])).trans (kept c o (fun x => hn (by simp [x])) (fun x => hn (by simp [x])) (fun x => hn (by simp [x])) (fun x => hn (by simp [x])) e)) hf (Nat.le_refl _) okN
    refine ⟨.ref s.heap.objs.size, _, J, rfl, ⟨_, v, w, rfl, I.hok.fresh (Nat.le_refl _), rfl, fun l hl => by rw [I.tuple_inj hl qv]; exact gv, fun l hl => by rw [I.list_inj hl qw]; exact gw⟩, ⟨⟨hm, z2⟩, ?_, ⟨x', y', ?_⟩, ?_, ?_⟩, fun c hc => ?_⟩
    · exact (sb.2 _ S.TIz).trans (kept _ _ S.TIz S.TITO S.TIi1 S.TIi2 s2)
    · exact (sb.2 _ S.TOz).trans o1
    · exact d1.1.at fun o e => (sb.2 _ S.zi1.symm).trans e
    · exact d2.1.at fun o e => (sb.2 _ S.zi2.symm).trans e
    · have lt : c < s.heap.objs.size := by
        rcases five hc with rfl | rfl | rfl | rfl | rfl
        · exact lz
        · exact Heap.lt_size s2
        · exact Heap.lt_size s3
        · obtain ⟨_, e, _⟩ := s4; exact Heap.lt_size e
        · obtain ⟨_, e, _⟩ := s5; exact Heap.lt_size e
      rw [upd_ne (Nat.ne_of_lt lt)]
      exact (hf c hc).1
  · intro X eP eW eK calm i pins s σ H E I hf st hg
    subst eP eW eK
    obtain ⟨⟨sm, s1⟩, s2, ⟨u0, v0, s3⟩, s4, s5⟩ := st
    obtain ⟨hm, vs, ws, ⟨qv, qw⟩, be⟩ := hg
    obtain ⟨its, r1, p1, _⟩ := I.tuple qv
    obtain ⟨its2, r2, p2, _⟩ := I.list qw
    have n1 := r1.length
    have n2 := r2.length
    have hh := I.ok.hd calm
    have aj : a ≠ j := fun e => by
      obtain ⟨o, ho, hc, _⟩ := p1
      obtain ⟨o4, g4, c4, _⟩ := s4
      rw [e, g4] at ho
      cases ho
      rw [c4] at hc
      exact absurd hc (by decide)
    have bk : b ≠ k := fun e => by
      obtain ⟨o, _, ho, hc, _⟩ := p2
      obtain ⟨o5, g5, c5, _⟩ := s5
      rw [e, g5] at ho
      cases ho
      rw [c5] at hc
      exact absurd hc (by decide)
    exact wpAny_pyNext_zipD2_end S (Draws.tuple (A := X.A.in1) hh j a aj its.toArray) (Draws.list (A := X.A.in1) hh k b bk its2.toArray) s1 s2 s3 ⟨s4, p1⟩ ⟨s5, p2.isList⟩ (by rw [List.size_toArray]; omega) (by rw [List.size_toArray]; omega) (by rw [List.size_toArray, List.size_toArray]; omega) fun h' tk kept =>
      ⟨rfl, I.turnedL (ch := [z, t1, t2, j, k]) (fun c o hn e => kept c o (fun x => hn (by simp [x])) (fun x => hn (by simp [x])) (fun x => hn (by simp [x])) (fun x => hn (by simp [x])) e) hf⟩
def iZipM (K : PySem.W.Frag) (ta : TA) : TI := fun σ H R => ta σ H fun us H1 => ∃ a b vs ws, us = [.ref a, .ref b] ∧ SqT K H1 a vs ∧ SqL K H1 b ws ∧ R (ItM K a b (min vs.length ws.length)) H1
theorem pi_zipM {X : Cx} {e e2 : Expr} {ta : TA} {p pos tp : Pos} {elts : List Expr} {n : Nat} (hg : Gl X "zip") (hm : X.mg "zip" = none) (ha : PA X [e, e2] ta)
    (h1 : starEach [e, e2] X.env = (false, eval e X.env) :: starEach [e2] X.env := by rfl) (h2 : (backTo pos (starEach [e2] X.env)).any (·.1) = false := by rfl) :
    PI X (.Tuple elts n tp) (.Call (.Name "zip" p) [e, e2] [] pos) (iZipM X.K ta) := by
  refine ⟨fun pins s σ H R I h => ?_⟩
  refine Call_ (ld_blt I hg hm PyProof.Rows.boot_zip (PyProof.Rows.callWith_type1 (thn (ha.run pos pins s σ H _ I h) fun us s1 got => ?_) h1 h2))
  obtain ⟨xs, H1, J, rs, a, b, vs, ws, ex, qa, qb, q⟩ := got
  subst ex
  cases rs with
  | cons ra rs =>
    cases rs with
    | cons rb rs =>
      cases rs
      cases ra
      cases rb
      obtain ⟨its, r1, p1, _⟩ := J.tuple qa
      obtain ⟨its2, r2, p2, _⟩ := J.list qb
      have la : a < s1.heap.objs.size := by obtain ⟨_, g, _⟩ := p1; exact Heap.lt_size g
      have lb : b < s1.heap.objs.size := p2.lt
      refine zip_begins2 (begins_tuple a its.toArray) (begins_list b its2.toArray) p1 p2.isList fun h' g1 g2 g3 g4 g5 _ kept => wpAny_pyIter_zip g1 ?_
      have J2 : Inv X pins σ H1 { s1 with heap := h' } := J.kept (t' := s1.toks) kept
      have S : ZipSep2 (s1.heap.objs.size + 4) (s1.heap.objs.size + 2) (s1.heap.objs.size + 3) s1.heap.objs.size (s1.heap.objs.size + 1) [s1.heap.objs.size, a] [s1.heap.objs.size + 1, b] :=
        zip_sep2 (fun c hc => by rw [List.mem_singleton.mp hc]; exact la) (fun c hc => by rw [List.mem_singleton.mp hc]; exact lb)
      refine ⟨s1.heap.objs.size + 4, [s1.heap.objs.size + 4, s1.heap.objs.size + 2, s1.heap.objs.size + 3, s1.heap.objs.size, s1.heap.objs.size + 1], _, _, H1, rfl, J2, turn_M S, ⟨⟨Nat.zero_le _, g1⟩, g2, ⟨_, _, g3⟩, ⟨_, g4, rfl, rfl⟩, ⟨_, g5, rfl, rfl⟩⟩, fun c hc => ?_, q⟩
      have up : s1.heap.objs.size ≤ c := by
        rcases five hc with e | e | e | e | e <;> rw [e] <;> first | exact Nat.le_refl _ | exact Nat.le_add_right _ _
      exact J.fpOk up (J.hok.fresh up)
theorem pi_zipMK {X : Cx} {K : PySem.W.Frag} {e e2 : Expr} {ta : TA} {p pos tp : Pos} {elts : List Expr} {n : Nat} (h : X.K = K) (hg : Gl X "zip") (hm : X.mg "zip" = none) (ha : PA X [e, e2] ta)
    (h1 : starEach [e, e2] X.env = (false, eval e X.env) :: starEach [e2] X.env := by rfl) (h2 : (backTo pos (starEach [e2] X.env)).any (·.1) = false := by rfl) :
    PI X (.Tuple elts n tp) (.Call (.Name "zip" p) [e, e2] [] pos) (iZipM K ta) := by
  subst h
  exact pi_zipM hg hm ha h1 h2
section
variable {α β : Type} [Rp α] [Rp β] {K : PySem.W.Frag} {σ : L2.St} {G H : Hp} {ta tb : TE}
/-- zip of a tuple and a list -/
theorem ib_zipM {m : Option (TL α)} {n : Option (List β)} (h1 : SE K ta σ G H m) (h2 : SE K tb σ G H n) : IB K (iZipM K (tCons ta (tCons tb tNil))) σ G H (m.bind fun xs => n.bind fun ys => some (xs.l.zip ys)) := fun G1 H1 e zs hm R q => by
  obtain ⟨xs, hxs, hm⟩ := bind_some hm
  obtain ⟨ys, hys, hm⟩ := bind_some hm
  cases hm
  refine h1 G1 H1 e xs hxs _ fun v G2 H2 e2 hv => ?_
  refine h2 G2 H2 (e.trans e2) ys hys _ fun w G3 H3 e3 hw => ?_
  obtain ⟨a, vs, ea, ha, la, ra⟩ := Rp.mono e3.g hv
  obtain ⟨b, ws, eb, hb, lb, rb⟩ := hw
  have n1 := ra.len
  have n2 := rb.len
  have A : ∀ {G H : Hp}, Same G3 G → Vw G H → SqT K H a vs := fun s1 s2 => same_tup s2.s (same_tup s1 ha)
  have B : ∀ {G H : Hp}, Same G3 G → Vw G H → SqL K H b ws := fun s1 s2 => SqL.of (s2 _ _ (s1 _ _ hb))
  refine ⟨a, b, vs, ws, by rw [ea, eb], same_tup e3.s.s ha, SqL.of (e3.s _ _ hb), q _ G3 H3 (e2.trans e3) ⟨fun i G H s1 s2 hi => ⟨?_, vs, ws, ⟨A s1 s2, B s1 s2⟩, rfl⟩, fun i x G H s1 s2 hi => ?_⟩ ?_⟩
  · rw [List.length_zip] at hi
    omega
  · have hz := List.getElem?_zip_eq_some.mp hi
    obtain ⟨x1, g1, k1⟩ := ra.get hz.1
    obtain ⟨y1, g2, k2⟩ := rb.get hz.2
    have i1 := (List.getElem?_eq_some_iff.mp g1).1
    have i2 := (List.getElem?_eq_some_iff.mp g2).1
    refine ⟨⟨by omega, vs, ws, x1, y1, A s1 s2, B s1 s2, g1, g2⟩, fun u H' ⟨c, x2, y2, eu, nc, eH, f1, f2⟩ => ?_⟩
    have z1 := f1 vs (A s1 s2)
    have z2 := f2 ws (B s1 s2)
    rw [g1] at z1
    rw [g2] at z2
    cases z1
    cases z2
    subst eH
    have gc := s2.free nc
    exact ⟨upd G c (.tup [x1, y1]), Ext.new s2 nc, c, x1, y1, eu, SqT.of upd_same, Rp.mono (s1.trans (same_new gc)) k1, Rp.mono (s1.trans (same_new gc)) k2⟩
  · rw [List.length_zip]
    omega
theorem ib_zipMp {xs : TL α} {ys : List β} (h1 : SE K ta σ G H (some xs)) (h2 : SE K tb σ G H (some ys)) : IB K (iZipM K (tCons ta (tCons tb tNil))) σ G H (some (xs.l.zip ys)) := ib_zipM h1 h2
end
/-! list(range(a, b, c)) -/
def tLR3 (ta : TA) : TE := fun σ H Q => ta σ H fun vs H1 => ∃ (i j c : Int) (n : Nat), vs = [.int i, .int j, .int c] ∧ RgC i j c n ∧ n ≤ 16000000 ∧ ∀ q, H1 q = none → Q (.ref q) (upd H1 q (.lst ((List.range n).map fun k => V.int (i + (k : Nat) * c))))
theorem pe_listR3 {X : Cx} {a b c : Expr} {ta : TA} {p p2 pos pos2 : Pos} (hc : X.calm = true) (hl : Gl X "list") (ml : X.mg "list" = none) (hg : Gl X "range") (hm : X.mg "range" = none) (ha : PA X [a, b, c] ta)
    (h1 : starEach [a, b, c] X.env = (false, eval a X.env) :: starEach [b, c] X.env := by rfl) (h2 : (backTo pos2 (starEach [b, c] X.env)).any (·.1) = false := by rfl)
    (na : starEach [.Call (.Name "range" p2) [a, b, c] [] pos2] X.env = (false, eval (.Call (.Name "range" p2) [a, b, c] [] pos2) X.env) :: starEach [] X.env := by rfl) :
    PE X (.Call (.Name "list" p) [.Call (.Name "range" p2) [a, b, c] [] pos2] [] pos) (tLR3 ta) := by
  refine ⟨fun pins s σ H Q I h => ?_⟩
  refine Call_ (ld_blt I hl ml boot_list (PyProof.Rows.callWith_type1 (args_cons (thn (Q := fun v s1 => ∃ r i j k t t' t'' n H1, v = .ref r ∧ IsRange s1.heap r i j k t t' t'' ∧ Inv X pins σ H1 s1 ∧ RgC i j k n ∧ n ≤ 16000000 ∧ ∀ q, H1 q = none → Q (.ref q) (upd H1 q (.lst ((List.range n).map fun m => V.int (i + (m : Nat) * k))))) ?_ fun v s1 got => args_nil ?_) na) na))
  · refine Call_ (ld_blt I hg hm boot_range (PyProof.Rows.callWith_type1 (thn (ha.run pos2 pins s σ H _ I h) fun us s1 got => ?_) h1 h2))
    obtain ⟨vs, H1, J, rs, i, j, k, n, ex, ok, hn, q⟩ := got
    subst ex
    cases rs with
    | cons r1 rs =>
      cases rs with
      | cons r2 rs =>
        cases rs with
        | cons r3 rs =>
          cases rs
          obtain ⟨t, rfl⟩ := r1
          obtain ⟨t', rfl⟩ := r2
          obtain ⟨t'', rfl⟩ := r3
          exact call_range_3 ok.1 ⟨_, i, j, k, _, _, _, n, H1, rfl, IsRange.new .., J.kept (t' := s1.toks) fun x o e => Heap.get?_push_of_some _ e, ok, hn, q⟩ (.inl (PyProof.noPylong_small ok.2.1))
  · obtain ⟨r, i, j, k, t, t', t'', n, H1, ex, hr, J, ok, hn, q⟩ := got
    subst ex
    have hb : n ≤ 2 ^ 24 := Nat.le_trans hn (by decide)
    refine call_list_range (n := n) (J.ok.hd hc) hr ok.2.2.1 ok.2.2.2 hb fun h' tk acc c' keep new items => ?_
    have len : acc.toList.length = n := by rw [Array.length_toList]; exact items.1
    have vals : Vals ((List.range n).map fun m => V.int (i + (m : Nat) * k)) acc.toList := by
      rw [← len]
      refine vals_of_get acc.toList (fun m => V.int (i + (m : Nat) * k)) fun m u hu => ?_
      obtain ⟨tk, rfl⟩ := items.2 m u (by rw [← hu, Array.getElem?_toList])
      exact ⟨tk, rfl⟩
    refine ⟨.ref s1.heap.objs.size, _, J.laid keep (Nat.le_refl _) (show ObjOk X.prog X.w _ _ _ (.lst ((List.range n).map fun m => V.int (i + (m : Nat) * k))) from ⟨?_, acc.toList, c', vals, ?_⟩), rfl, q _ (J.hok.fresh (Nat.le_refl _))⟩
    · rw [List.length_map, List.length_range]
      exact Nat.le_trans hn (by decide)
    · rw [Array.toArray_toList]
      exact new
section
variable {K : PySem.W.Frag} {σ : L2.St} {G H : Hp} {ta tb : TE}
theorem fe_listR3 {c : Int} {m n : Option Int} (hc : 0 < c ∧ c < 2 ^ 20) (h1 : SE K ta σ G H m) (h2 : SE K tb σ G H n) : FE K (tLR3 (tCons ta (tCons tb (tCons (tC (.int c)) tNil)))) σ G H (m.bind fun lo => n.bind fun hi => rangeSC lo hi c) := fun G1 H1 e xs hm Q q => by
  obtain ⟨lo, hlo, hm⟩ := bind_some hm
  obtain ⟨hi, hhi, hm⟩ := bind_some hm
  unfold rangeSC at hm
  split at hm
  · rename_i hl
    unfold rangeS at hm
    split at hm
    · rename_i b
      cases hm
      refine h1 G1 H1 e lo hlo _ fun v G2 H2 e2 hv => ?_
      refine h2 G2 H2 (e.trans e2) hi hhi _ fun w G3 H3 e3 hw => ?_
      have h3 := size_le (lo := lo) (hi := hi) hc.1
      rw [size_up hc.1] at h3
      have hn : ((hi - lo + c - 1) / c).toNat ≤ 16000000 := by omega
      refine ⟨lo, hi, c, ((hi - lo + c - 1) / c).toNat, by rw [show v = .int lo from hv, show w = .int hi from hw], ⟨by omega, by omega, small_up hc.1 hc.2 b, size_up hc.1⟩, hn, fun p np => ?_⟩
      have er : ((List.range ((hi - lo + c - 1) / c).toNat).map fun k => V.int (lo + (k : Nat) * c)) = ((List.range ((hi - lo + c - 1) / c).toNat).map fun (k : Nat) => lo + (k : Int) * c).map V.int := by rw [List.map_map]; rfl
      rw [er]
      have o := own_new (K := K) (ds := (List.range ((hi - lo + c - 1) / c).toNat).map fun (k : Nat) => lo + (k : Int) * c) e3.s np (by rw [List.length_map, List.length_map, List.length_range]; exact Nat.le_trans hn (by decide)) (reps_ints _)
      exact q p G3 _ ((e2.trans e3).trans (Ext.own e3.s np)) ⟨(e2.trans e3).h.free np, o.g, o.h⟩
    · cases hm
  · cases hm
theorem fe_listR3p {c lo hi : Int} (hc : 0 < c ∧ c < 2 ^ 20) (h1 : SE K ta σ G H (some lo)) (h2 : SE K tb σ G H (some hi)) : FE K (tLR3 (tCons ta (tCons tb (tCons (tC (.int c)) tNil)))) σ G H (rangeSC lo hi c) := fe_listR3 hc h1 h2
end
end Mi

/-! MiL: for k in d: the dict is locked while the loop walks it; dicts of one's own handed back. -/
namespace Mi
variable [Tbs]
open PySem L2
open Rp (rep)
/-- a dict that is locked -/
structure FZ (β : Type) where
  d : DI β
section
variable {α β ρ S : Type} [Rp α] [Rp β] [Rp ρ]
variable {K : PySem.W.Frag} {σ : St} {G0 H0 G H G1 H1 Gl Hl : Hp} {te ty td : TE} {t : TS} {i : Nat} {v : V} {d : DI β} {D : Ends} {p : Addr} {od : Obj} {ks : List (Key × V)}
instance : Rp (FZ β) := ⟨fun K G v x => ∃ a o ks, v = .ref a ∧ G a = some (.frz o (.dK ks)) ∧ RepsD K G ks x.d.l, fun s ⟨a, o, ks, e, h, r⟩ => ⟨a, o, ks, e, s _ _ h, repsD_mono s r⟩⟩
/-! ### handed back -/
def RD (K : PySem.W.Frag) (H G' H' : Hp) (u : V) (r : DI β) : Prop := ∃ p, u = .ref p ∧ OwnD K H G' H' p r
theorem rdm : ∀ H1 H2, HK H1 H2 → ∀ G' H' u (r : DI β), RD K H2 G' H' u r → RD K H1 G' H' u r := fun _ _ s _ _ _ _ ⟨p, e, o⟩ => ⟨p, e, o.up s⟩
theorem XE.fd {m : Option (DI β)} (h : XE (RD K) te σ G H m) : FD K te σ G H m := fun G1 H1 e r hm Q q =>
  h G1 H1 e r hm Q fun u G2 H2 e2 ⟨p, eu, o⟩ => by
    rw [eu]
    exact q p G2 H2 e2 o
theorem FD.xe {m : Option (DI β)} (h : FD K te σ G H m) : XE (RD K) te σ G H m := fun G1 H1 e r hm Q q =>
  h G1 H1 e r hm Q fun p G2 H2 e2 o => q (.ref p) G2 H2 e2 ⟨p, rfl, o⟩
theorem st_retOD {r : DI β} (hv : σ[i]? = some (some (.ref p))) (e : Ext G0 H0 G H) (o : OwnD K H0 G H p d) (hm : some d = some r) (q : ∀ u G' H', Ext G0 H0 G' H' → RD K H0 G' H' u r → D.rt u H') : tRet (tVar i) D σ H := by
  cases hm
  exact ⟨.ref p, hv, q _ G H e ⟨p, rfl, o⟩⟩
/-! ### the lock -/
theorem ext_at {o u : HO} (e : Ext G0 H0 G H) (z : H0 p = none) (g : G0 p = none) (h : H p = some u) (hu : Pn u) : Ext G0 H0 (upd G p o) (upd H p o) :=
  ⟨fun b u eb => by
    rw [upd_ne (ne_of_none eb g)]
    exact e.g _ _ eb, same_at e.s h hu, ⟨fun b u eb nt => by
    rw [upd_ne (ne_of_none eb z)]
    exact e.h.k _ _ eb nt, fun b eb => by
    by_cases hb : b = p
    · rw [hb]; exact z
    · rw [upd_ne hb] at eb
      exact e.h.d b eb⟩, fun b nb => by
    rw [upd_ne (fun h => nb (by rw [h]; exact z))]
    exact e.a b nb⟩
theorem pn_dK {ks : List (Key × V)} : Pn (.dK ks) := pn_of (fun _ z => by cases z) (fun _ z => by cases z)
theorem pn_frz {od : Obj} {u : HO} : Pn (.frz od u) := pn_of (fun _ z => by cases z) (fun _ z => by cases z)
theorem reps_at {ks : List (Key × V)} [ScV β] {G G' : Hp} : ∀ {ks : List (Key × V)} {l : List (Int × β)}, RepsD K G ks l → RepsD K G' ks l
  | _, _, .nil => .nil
  | _, _, .cons ⟨h1, h2⟩ t => .cons ⟨h1, ScV.any h2⟩ (reps_at (ks := []) t)
theorem st_lockO [ScV β] (e : Ext G0 H0 G H) (o : OwnD K H0 G H p d)
    (k : ∀ Gl Hl ks od, H0 p = none → G0 p = none → Ext G0 H0 Gl Hl → Gl p = some (.frz od (.dK ks)) → rep K Gl (.ref p) (FZ.mk d) →
      t ⟨fun σ' H' => H' p = some (.frz od (.dK ks)) ∧ D.nx σ' (upd H' p (.dK ks)), fun v H' => H' p = some (.frz od (.dK ks)) ∧ D.rt v (upd H' p (.dK ks)), fun σ' H' => H' p = some (.frz od (.dK ks)) ∧ D.bk σ' (upd H' p (.dK ks)), fun σ' H' => H' p = some (.frz od (.dK ks)) ∧ D.ct σ' (upd H' p (.dK ks))⟩ σ Hl) : tLock t D σ H := by
  obtain ⟨ks, h, r⟩ := o.h
  have g := e.g.free o.g
  exact ⟨p, .dK ks, h, trivial, fun od => k _ _ ks od o.z g (ext_at e o.z g h pn_dK) upd_same ⟨p, od, ks, rfl, upd_same, reps_at (ks := []) r⟩⟩
theorem lock_nx {P : Prop} (z : H0 p = none) (g : G0 p = none) (zl : Gl p = some (.frz od (.dK ks))) (e : Ext G0 H0 G H) (sl : Same Gl G) (k : Ext G0 H0 (upd G p (.dK ks)) (upd H p (.dK ks)) → P) : H p = some (.frz od (.dK ks)) ∧ P :=
  ⟨e.s _ _ (sl _ _ zl), k (ext_at e z g (e.s _ _ (sl _ _ zl)) pn_frz)⟩
theorem st_retLZ [ScV ρ] {m : Option ρ} {f : Fl S ρ} {Q : VK} (z : H0 p = none) (g : G0 p = none) (zl : Gl p = some (.frz od (.dK ks))) (e : Ext G0 H0 G H) (sl : Same Gl G) (se : SE K te σ G H m) (hm : (m.bind fun x => some (Fl.rt x : Fl S ρ)) = some f)
    (q : ∀ x, f = .rt x → ∀ u G' H', Ext G0 H0 G' H' → RV K H0 G' H' u x → Q u H') (hD : ∀ v H', (H' p = some (.frz od (.dK ks)) ∧ Q v (upd H' p (.dK ks))) → D.rt v H') : tRet te D σ H := by
  obtain ⟨x, hx, hf⟩ := bind_some hm
  cases hf
  exact se G H (Ext.refl e.s) x hx _ fun u G1 H1 e1 hu => hD _ _ ⟨e1.s _ _ (e1.g _ _ (sl _ _ zl)), q x rfl u _ _ (ext_at (e.trans e1) z g (e1.s _ _ (e1.g _ _ (sl _ _ zl))) pn_frz) (ScV.any hu)⟩
/-! ### reading -/
theorem repsD_at : ∀ {ks : List (Key × V)} {l : List (Int × β)} {i : Nat} {k : Int}, RepsD K G ks l → (l.map (·.1))[i]? = some k → ∃ v, ks[i]? = some (Sum.inl k, v)
  | _, _, _, _, .nil, h => by simp at h
  | _, _, 0, k, .cons (a := a) ⟨h1, _⟩ _, h => by
    simp at h
    refine ⟨a.2, ?_⟩
    rw [← h, ← h1]
    rfl
  | _, _, i + 1, k, .cons _ t, h => by
    obtain ⟨v, hv⟩ := repsD_at (i := i) t (by simpa using h)
    exact ⟨v, by simpa using hv⟩
/-- its keys, walked -/
theorem ie_keysZ {m : Option (FZ β)} (h : SE K td σ G H m) : IE K (iKeys td) σ G H (m.bind fun x => dkeysO x.d) := fun G1 H1 e xs hm R q => by
  obtain ⟨x, hx, hm⟩ := bind_some hm
  unfold dkeysO at hm
  split at hm
  · cases hm
    refine h G1 H1 e x hx _ fun v G2 H2 e2 ⟨a, o, ks, ev, hg, rs⟩ => ?_
    have len := repsD_len rs
    refine ⟨a, o, ev, .inl ⟨ks, e2.s _ _ hg, q _ G2 H2 e2 ⟨fun i G H s1 s2 hi => ⟨s2 _ _ (s1 _ _ hg), ?_⟩, fun i k G H s1 s2 hi => ?_⟩⟩⟩
    · rw [List.length_map] at hi
      omega
    · obtain ⟨w, hw⟩ := repsD_at rs hi
      refine ⟨⟨s2 _ _ (s1 _ _ hg), (List.getElem?_eq_some_iff.mp hw).1⟩, fun u H' ⟨eH, k2, v2, hk, eu⟩ => ?_⟩
      rw [hw] at hk
      cases hk
      subst eH
      exact ⟨G, Ext.refl s2, eu⟩
  · cases hm
theorem ie_keysZp {x : DI β} (h : SE K td σ G H (some (FZ.mk x))) : IE K (iKeys td) σ G H (dkeysO x) := ie_keysZ h
theorem se_zget {x : DI β} {n : Option Int} (hd : SE K td σ G H (some (FZ.mk x))) (hk : SE K ty σ G H n) : SE K (tDGet td ty) σ G H (n.bind fun y => dgetO x y) := fun G1 H1 e r hm Q q => by
  obtain ⟨k, hk1, hm⟩ := bind_some hm
  refine hd G1 H1 e _ rfl _ fun v G2 H2 e2 ⟨a, o, ks, ev, hg, rs⟩ => ?_
  refine hk G2 H2 (e.trans e2) k hk1 _ fun w G3 H3 e3 hw => ?_
  obtain ⟨u, hu, ru⟩ := (repsD_find (k := k) rs).2 r hm
  refine ⟨a, u, ev, ?_, q u G3 H3 (e2.trans e3) (Rp.mono e3.g ru)⟩
  rw [show w = kV (Sum.inl k) from hw, ← hu]
  exact .inl ⟨ks, Sum.inl k, .inr ⟨o, (e2.trans e3).s _ _ (e3.g _ _ hg)⟩, rfl, rfl⟩
theorem se_zgetp {x : DI β} {y : Int} (hd : SE K td σ G H (some (FZ.mk x))) (hk : SE K ty σ G H (some y)) : SE K (tDGet td ty) σ G H (dgetO x y) := se_zget hd hk
theorem se_zin {x : DI β} {n : Option Int} (hk : SE K ty σ G H n) (hd : SE K td σ G H (some (FZ.mk x))) : SE K (tDIn ty td) σ G H (n.bind fun y => some (dhas x y)) := fun G1 H1 e r hm Q q => by
  obtain ⟨k, hk1, hm⟩ := bind_some hm
  cases hm
  refine hk G1 H1 e k hk1 _ fun w G2 H2 e2 hw => ?_
  refine hd G2 H2 (e.trans e2) _ rfl _ fun v G3 H3 e3 ⟨a, o, ks, ev, hg, rs⟩ => ?_
  refine ⟨a, valV ks (Sum.inl k), ev, ?_, ?_⟩
  · rw [show w = kV (Sum.inl k) from hw]
    exact .inl ⟨ks, Sum.inl k, .inr ⟨o, e3.s _ _ hg⟩, rfl, rfl⟩
  · rw [isSome_find rs]
    exact q _ G3 H3 (e2.trans e3) rfl
theorem se_zinp {x : DI β} {y : Int} (hk : SE K ty σ G H (some y)) (hd : SE K td σ G H (some (FZ.mk x))) : SE K (tDIn ty td) σ G H (some (dhas x y)) := se_zin hk hd
end
end Mi

/-! MiR: a list times a number, a tuple of one, two tuples one behind the other. -/
namespace Mi
variable [Tbs]
open PySem L2
open Rp (rep)
def repO {α : Type} (xs : List α) (k : Int) : Option (List α) := if -1000000 ≤ k ∧ k ≤ 1000000 ∧ xs.length ≤ 16 then some (List.replicate k.toNat xs).flatten else none
def catT {α : Type} (x y : TL α) : Option (TL α) := if x.l ≠ [] ∧ y.l ≠ [] ∧ x.l.length + y.l.length ≤ 16000000 then some ⟨x.l ++ y.l⟩ else none
section
variable {α β ρ S : Type} [Rp α] [Rp β] [Rp ρ]
variable {K : PySem.W.Frag} {σ : St} {G0 H0 G H G1 H1 Gl Hl : Hp} {te ta tb td : TE} {D : Ends} {i : Nat} {w : V} {out : ρ}
theorem reps_rep {vs : List V} {xs : List α} (h : Reps K G vs xs) : ∀ n : Nat, Reps K G (List.replicate n vs).flatten (List.replicate n xs).flatten
  | 0 => .nil
  | n + 1 => by
    rw [List.replicate_succ, List.flatten_cons, List.replicate_succ, List.flatten_cons]
    exact h.app (reps_rep h n)
theorem flat_len {τ : Type} (xs : List τ) : ∀ n : Nat, ((List.replicate n xs).flatten).length = xs.length * n
  | 0 => rfl
  | n + 1 => by rw [List.replicate_succ, List.flatten_cons, List.length_append, flat_len xs n, Nat.mul_succ, Nat.add_comm]
theorem fe_rep {m : Option (List α)} {k : Option Int} (h : SE K ta σ G H m) (h2 : SE K tb σ G H k) : FE K (tOp rRep ta tb) σ G H (m.bind fun x => k.bind fun y => repO x y) := fun G1 H1 e r hm Q q => by
  obtain ⟨x, hx, hm⟩ := bind_some hm
  obtain ⟨y, hy, hm⟩ := bind_some hm
  unfold repO at hm
  split at hm
  · rename_i hl
    obtain ⟨l1, l2, l3⟩ := hl
    cases hm
    refine h G1 H1 e x hx _ fun v G2 H2 e2 hv => ?_
    refine h2 G2 H2 (e.trans e2) y hy _ fun w G3 H3 e3 hw => ?_
    obtain ⟨a, vs, ea, ha, la, ra⟩ := Rp.mono e3.g hv
    have ew : w = .int y := hw
    have ll : vs.length * y.toNat ≤ sizeLine := by
      have x1 := ra.len
      rw [x1]
      exact Nat.le_trans (Nat.mul_le_mul l3 (show y.toNat ≤ 1000000 by omega)) (by decide)
    refine ⟨a, y, vs, ea, ew, e3.s _ _ ha, by omega, by omega, ll, fun p np => ?_⟩
    have o := own_new (K := K) e3.s np (vs := (List.replicate y.toNat vs).flatten) (by rw [flat_len]; exact ll) (reps_rep ra y.toNat)
    exact q p G3 _ ((e2.trans e3).trans (Ext.own e3.s np)) ⟨(e2.trans e3).h.free np, o.g, o.h⟩
  · cases hm
theorem fe_repp {xs : List α} {k : Int} (h : SE K ta σ G H (some xs)) (h2 : SE K tb σ G H (some k)) : FE K (tOp rRep ta tb) σ G H (repO xs k) := fe_rep h h2
theorem se_tup1 {m : Option α} (h0 : SE K te σ G H m) : SE K (tTup (tCons te tNil)) σ G H (m.bind fun x => some (TL.mk [x])) := fun G1 H1 e z hm Q q => by
  obtain ⟨x0, hx0, hm⟩ := bind_some hm
  cases hm
  refine h0 _ _ e x0 hx0 _ fun v0 G2 H2 e0 r0 => ?_
  refine ⟨by show 1 ≤ sizeLine; decide, fun p np => ?_⟩
  exact q (.ref p) _ _ (e0.trans (Ext.new (o := .tup [v0]) e0.s np)) ⟨p, [v0], rfl, SqT.of upd_same, by show 1 ≤ sizeLine; decide, .cons (Rp.mono (same_new (e0.s.free np)) r0) .nil⟩
theorem se_tup1p {x : α} (h0 : SE K te σ G H (some x)) : SE K (tTup (tCons te tNil)) σ G H (some (TL.mk [x])) := se_tup1 h0
theorem ro_catT : RO K (rCatT K) (fun (x y : TL α) => catT x y) := fun {G H v w x y z} s ⟨a, vs, ea, ha, la, ra⟩ ⟨b, ws, eb, hb, lb, rb⟩ hz Q q => by
  replace hz : catT x y = some z := hz
  unfold catT at hz
  split at hz
  · rename_i hl
    obtain ⟨l1, l2, l3⟩ := hl
    cases hz
    have x1 := ra.len
    have x2 := rb.len
    have ll : vs.length + ws.length ≤ sizeLine := by
      rw [x1, x2]
      exact Nat.le_trans l3 (by decide)
    have nv : vs ≠ [] := fun h => l1 (List.eq_nil_of_length_eq_zero (by rw [← x1, h]; rfl))
    have nw : ws ≠ [] := fun h => l2 (List.eq_nil_of_length_eq_zero (by rw [← x2, h]; rfl))
    refine ⟨a, b, vs, ws, ea, eb, same_tup s ha, same_tup s hb, nv, ll, fun h => absurd h nw, fun _ p np => ?_⟩
    have sm := same_new (o := .tup (vs ++ ws)) (s.free np)
    exact q (.ref p) _ _ (Ext.new (o := .tup (vs ++ ws)) s np) ⟨p, vs ++ ws, rfl, SqT.of upd_same, by rw [List.length_append]; exact ll, (ra.mono sm).app (rb.mono sm)⟩
  · cases hz
theorem se_catT {m n : Option (TL α)} (ha : SE K ta σ G H m) (hb : SE K tb σ G H n) : SE K (tOp (rCatT K) ta tb) σ G H (m.bind fun x => n.bind fun y => catT x y) := se_op (f := fun x y => catT x y) ha hb ro_catT
theorem se_catTp {x y : TL α} (ha : SE K ta σ G H (some x)) (hb : SE K tb σ G H (some y)) : SE K (tOp (rCatT K) ta tb) σ G H (catT x y) := se_opp (f := fun x y => catT x y) ha hb ro_catT
/-! ### a dict of the module, whole numbers at whole numbers -/
inductive EntI : List DictEntry → List (Int × Int) → Prop
  | nil : EntI [] []
  | cons {h k v : Int} {t u : Tok} {es : List DictEntry} {xs : List (Int × Int)} : h = hashInt k → EntI es xs → EntI (⟨h, .int k t, .int v u⟩ :: es) ((k, v) :: xs)
def KI (K : PySem.W.Frag) (a : Addr) (xs : List (Int × Int)) : Prop := ∃ (es : List DictEntry) (n : Nat), K.lookup a = some ⟨.type "dict", none, .dict es.toArray n, #[]⟩ ∧ EntI es xs
theorem EntI.keys {P : Program} {w : World} : ∀ {es : List DictEntry} {xs : List (Int × Int)}, EntI es xs → ∀ e ∈ es, ∃ k, (mixKind P w).is k e.key = true ∧ e.hash = (mixKind P w).hash k
  | _, _, .nil, e, he => nomatch he
  | _, _, .cons (k := k) (t := t) hh r, e, he => by
    rcases List.mem_cons.mp he with h | h
    · rw [h]
      exact ⟨.inl k, keyIs_int k t, hh⟩
    · exact r.keys e h
theorem EntI.find (P : Program) (wd : World) : ∀ {es : List DictEntry} {xs : List (Int × Int)} {k v : Int}, EntI es xs → xs.lookup k = some v → ∃ t, (es.find? fun e => keyIs (.inl k) e.key).map (·.val) = some (.int v t)
  | _, _, _, _, .nil, h => nomatch h
  | _, _, k, v, .cons (k := k') (v := v') (t := t) (u := u) _ r, h => by
    rw [List.find?_cons]
    rw [List.lookup_cons] at h
    by_cases hk : k = k'
    · subst hk
      rw [keyIs_int]
      rw [beq_self_eq_true] at h
      cases h
      exact ⟨u, rfl⟩
    · rw [beq_eq_false_iff_ne.mpr hk] at h
      have : keyIs (.inl k) (.int k' t) = false := by
        cases hb : keyIs (.inl k) (.int k' t) with
        | false => rfl
        | true => exact absurd ((Sum.inl.inj ((mixKind P wd).inj (.int k' t) (.inl k) (.inl k') hb (keyIs_int k' t)))) hk
      rw [this]
      exact r.find P wd h
def rIxI (K : PySem.W.Frag) : R2 := fun x y H Q => ∃ p k v xs, x = .ref p ∧ y = .int k ∧ KI K p xs ∧ xs.lookup k = some v ∧ Q (.int v) H
theorem ix_kdI {X : Cx} : IxR X (rIxI X.K) := by
  intro value slice pins s σ H x y v u Q I rx ry h hs
  obtain ⟨p, k, r, xs, rfl, rfl, ⟨es, n, hl, hk⟩, e, q⟩ := h
  obtain rfl : v = Value.ref p := rx
  obtain ⟨t, rfl⟩ := ry
  have hm : s.heap.MapOf (mixKind X.prog X.w) p (fun k => findBy keyIs es.toArray k) :=
    ⟨_, _, n, I.kIn _ _ hl, ⟨rfl, rfl, rfl⟩, rfl, fun e he => hk.keys e (by simpa using he), fun _ => rfl⟩
  obtain ⟨t2, hf⟩ := hk.find X.prog X.w e
  exact PyProof.Rows.tail_any hm.typeIs slot_dict_getitem.lookup (wpAny_getItem_of (mixKind_int X.prog X.w k t) hm (by unfold findBy; rw [List.find?_toArray]; exact hf) ⟨.int r, H, I.tok _, ⟨_, rfl⟩, q⟩) hs
theorem ix_kdIK {X : Cx} (h : X.K = K) : IxR X (rIxI K) := h ▸ ix_kdI
theorem se_kdI {b : Addr} {xs : List (Int × Int)} {m : Option Int} (hk : KI K b xs) (h : SE K te σ G H m) : SE K (tOp (rIxI K) (tC (.ref b)) te) σ G H (m.bind fun k => xs.lookup k) := fun G1 H1 e z hm Q q => by
  obtain ⟨k, hk2, hm⟩ := bind_some hm
  refine h G1 H1 e k hk2 _ fun v G2 H2 e2 hv => ?_
  exact ⟨b, k, z, xs, rfl, hv, hk, hm, q _ G2 H2 e2 rfl⟩
theorem se_kdIp {b : Addr} {xs : List (Int × Int)} {k : Int} (hk : KI K b xs) (h : SE K te σ G H (some k)) : SE K (tOp (rIxI K) (tC (.ref b)) te) σ G H (xs.lookup k) := se_kdI hk h
theorem st_appN {τ : Type} {out : τ} {d : Option (List α)} {ma : Option α} {k : List α → Option τ} (hs : Vw G H) (hv : σ[i]? = some (some w)) (o : OwnV K H0 G H w d) (se : SE K te σ G H ma) (hm : (d.bind fun ds => ma.bind fun x => (appO ds x).bind k) = some out)
    (kont : ∀ es p h G1 H1, Ext G H G1 H1 → w = .ref p → Own K H0 G1 (upd H1 p h) p es → G1 p = none → k es = some out → D.nx σ (upd H1 p h)) : tDrop (tBM K "list" rAppend (tVar i) (tCons te tNil)) D σ H := by
  cases d with
  | none => cases hm
  | some d =>
    obtain ⟨p, ew, o⟩ := o
    subst ew
    exact st_app hs hv o se hm fun es h G1 H1 e o g hk => kont es p h G1 H1 e rfl o g hk
end
end Mi

/-! MiQ: texts as data; a tuple of texts, or a text and a number. -/
namespace Mi
variable [Tbs]
open PySem L2
open Rp (rep)
/-- a written text -/
structure Tg where
  s : Str
  ok : (PyData.str s).canLay0 = true
theorem tg_eq {a b : Tg} : a = b ↔ a.s = b.s := ⟨fun h => by rw [h], fun h => by cases a; cases b; cases h; rfl⟩
instance : DecidableEq Tg := fun _ _ => decidable_of_iff _ tg_eq.symm
instance : Rp Tg := ⟨fun _ _ v d => v = .str d.s, fun _ h => h⟩
instance : RpD Tg := ⟨fun d => .str d.s, fun _ h => by rw [show _ = V.str _ from h]; exact .str _, fun x y => by
  show (x.s == y.s) = _
  rw [Bool.eq_iff_iff]
  simp [tg_eq], fun d => d.ok, 0, fun _ => Nat.le_refl 0⟩
theorem none_str (s : Str) : PyData.eqv .none (.str s) = false := by rfl
theorem str_none (s : Str) : PyData.eqv (.str s) .none = false := by rfl
instance : RpDN Tg := ⟨fun _ => none_str _, fun _ => str_none _⟩
instance {α : Type} [Rp α] [DecidableEq α] [RpD α] : RpDN (TL α) := ⟨fun _ => rfl, fun _ => rfl⟩
theorem str_int (s : Str) (k : Int) : PyData.eqv (.str s) (.int k) = false := by rfl
theorem int_str (s : Str) (k : Int) : PyData.eqv (.int k) (.str s) = false := by rfl
def tgs (x : Tg) : PyData := .str x.s
theorem eqv_sx : ∀ (xs : List Tg) (a : Str) (b : Int), PyData.eqv (.tuple (xs.map tgs)) (.tuple [.str a, .int b]) = false
  | [], _, _ => by rfl
  | [x], a, b => by
    show (PyData.eqv (.str x.s) (.str a) && false) = false
    rw [Bool.and_false]
  | x :: y :: r, a, b => by
    show (PyData.eqv (.str x.s) (.str a) && (PyData.eqv (.str y.s) (.int b) && PyData.eqvAll (r.map tgs) [])) = false
    rw [str_int, Bool.false_and, Bool.and_false]
theorem eqv_xs : ∀ (xs : List Tg) (a : Str) (b : Int), PyData.eqv (.tuple [.str a, .int b]) (.tuple (xs.map tgs)) = false
  | [], _, _ => by rfl
  | [x], a, b => by
    show (PyData.eqv (.str a) (.str x.s) && false) = false
    rw [Bool.and_false]
  | x :: y :: r, a, b => by
    show (PyData.eqv (.str a) (.str x.s) && (PyData.eqv (.int b) (.str y.s) && PyData.eqvAll [] (r.map tgs))) = false
    rw [int_str, Bool.false_and, Bool.and_false]
instance : RpDX (TL Tg) (Tg × Int) := ⟨fun x y => eqv_sx x.l y.1.s y.2, fun x y => eqv_xs x.l y.1.s y.2⟩
instance : RpTy (Sum (TL Tg) (Tg × Int)) := ⟨"tuple", fun {_ _ _ _ d} s h => by
  cases d with
  | inl x =>
    obtain ⟨a, vs, e, h, _⟩ := h
    rw [e]
    exact ty_tup (same_tup s h)
  | inr x =>
    obtain ⟨a, _, _, e, h, _⟩ := h
    rw [e]
    exact ty_tup (same_tup s h)⟩
instance {α : Type} [Rp α] : RpN (TL α) := ⟨fun ⟨_, _, h, _⟩ => by rw [h]; intro z; cases z⟩
instance {α β : Type} [Rp α] [Rp β] [RpN α] [RpN β] : RpN (Sum α β) := ⟨fun {_ _ _ d} h => by
  cases d with
  | inl x => exact RpN.nn (show rep _ _ _ x from h)
  | inr x => exact RpN.nn (show rep _ _ _ x from h)⟩
theorem se_tag {K : PySem.W.Frag} {σ : St} {G H : Hp} {b : Str} {ok : (PyData.str b).canLay0 = true} : SE K (tC (.str b)) σ G H (some (Tg.mk b ok)) := se_c fun _ => rfl
end Mi

/-! MiE: what is raised, and caught. -/
namespace Mi
variable [Tbs]
open PySem L2
open Rp (rep)
/-- the classes that are raised; those that are asked for -/
inductive Err where
  | tooGreat | noText | noRow | noStep
deriving DecidableEq
inductive XCl where
  | tooGreat | noText | noRow | noStep | formError | valueError
deriving DecidableEq
def Err.isa : Err → XCl → Bool
  | .tooGreat, .tooGreat => true
  | .noText, .noText => true
  | .noRow, .noRow => true
  | .noStep, .noStep => true
  | _, .formError => true
  | _, .valueError => true
  | _, _ => false
/-- a value, or what is raised -/
inductive Rz (α : Type) where
  | ok (a : α) | er (k : Err)
def Rz.val {α : Type} : Rz α → Option α
  | .ok a => some a
  | .er _ => none
def Rz.err {α : Type} : Rz α → Option Err
  | .ok _ => none
  | .er k => some k
def valE {α : Type} (m : Option (Rz α)) : Option α := m.bind Rz.val
def errE {α : Type} (m : Option (Rz α)) : Option (Option Err) := m.bind fun r => some r.err
/-- the end of a try's body: on, out, or raised -/
inductive Fx (S R : Type) where
  | nx (s : S) | rt (r : R) | er (k : Err)
def tryE {S R : Type} (h : Err → Option (Fl S R)) : Fx S R → Option (Fl S R)
  | .nx s => some (.nx s)
  | .rt r => some (.rt r)
  | .er k => h k
section
variable {S R α β ρ : Type}
theorem tryE_nx {h : Err → Option (Fl S R)} {s : S} {f : Fl S R} (e : tryE h (.nx s) = some f) : f = .nx s := (Option.some.inj e).symm
theorem tryE_rt {h : Err → Option (Fl S R)} {s : R} {f : Fl S R} (e : tryE h (.rt s) = some f) : f = .rt s := (Option.some.inj e).symm
theorem tryE_er {h : Err → Option (Fl S R)} {k : Err} {f : Fl S R} (e : tryE h (.er k) = some f) : h k = some f := e
theorem valE_ok {a : α} : valE (some (Rz.ok a)) = some a := by rfl
theorem errE_ok {a : α} : errE (some (Rz.ok a)) = some none := by rfl
theorem errE_er {k : Err} : errE (some (Rz.er k : Rz α)) = some (some k) := by rfl
theorem valE_some {m : Option (Rz α)} {a : α} (h : valE m = some a) : m = some (.ok a) := by
  unfold valE at h
  obtain ⟨r, hr, h⟩ := bind_some h
  cases r with
  | ok b =>
    cases h
    exact hr
  | er k => cases h
theorem errE_some {m : Option (Rz α)} {k : Err} (h : errE m = some (some k)) : m = some (.er k) := by
  unfold errE at h
  obtain ⟨r, hr, h⟩ := bind_some h
  cases r with
  | ok b => cases h
  | er j =>
    cases h
    exact hr
end
section
variable {ρ α β S : Type} [Rp α] [Rp β] {K : PySem.W.Frag} {σ : St} {G H G0 H0 : Hp} {te ta tb : TE} {i : Nat} {t u : TS} {D : Ends} {out : ρ}
/-- what a def that may raise hands back: a value, or the class -/
def RX (RR : Hp → Hp → Hp → V → ρ → Prop) (H G' H' : Hp) : V ⊕ Err → Rz ρ → Prop
  | .inl u, .ok x => RR H G' H' u x
  | .inr k, .er j => k = j
  | _, _ => False
def QX (adr : Err → Addr) (Q : VK) (E : XK) : V ⊕ Err → Hp → Prop
  | .inl u, H => Q u H
  | .inr k, H => E (.ref (adr k)) none H
/-- an expression that raises -/
def SER (adr : Err → Addr) (W : WX) (te : TE) (σ : St) (G H : Hp) (m : Option (Option Err)) : Prop :=
  ∀ G1 H1, Ext G H G1 H1 → ∀ k, m = some (some k) → (∀ G2 H2, Ext G1 H1 G2 H2 → W (.ref (adr k)) none σ H2) → ∀ Q, te σ H1 Q
theorem st_err {adr : Err → Addr} {W : WX} {P : Prop} {Q : VK} {eo : Option (Option Err)} {k : Option ρ} {er : Err → Option ρ} (hs : Vw G H) (sr : SER adr W te σ G H eo)
    (pi : te σ H Q → P) (hm : (eo.bind fun o => Option.elim o k er) = some out) (kok : k = some out → P)
    (kerr : ∀ j, er j = some out → ∀ G2 H2, Ext G H G2 H2 → W (.ref (adr j)) none σ H2) : P := by
  obtain ⟨o, ho, hm⟩ := bind_some hm
  cases o with
  | none => exact kok hm
  | some j => exact pi (sr G H (Ext.refl hs) j ho (fun G2 H2 e => kerr j hm G2 H2 e) Q)
/-- return of a value, where something may be raised -/
theorem st_retX {adr : Err → Addr} {E : XK} (e : Ext G0 H0 G H) {m : Option ρ} {RR : Hp → Hp → Hp → V → ρ → Prop} {r : Rz ρ} (RRm : ∀ H1 H2, HK H1 H2 → ∀ G' H' u r, RR H2 G' H' u r → RR H1 G' H' u r) (se : XE RR te σ G H m)
    (hm : (m.bind fun x => some (Rz.ok x)) = some r) (q : ∀ u G' H', Ext G0 H0 G' H' → RX RR H0 G' H' u r → QX adr D.rt E u H') : tRet te D σ H := by
  obtain ⟨x, hx, hr⟩ := bind_some hm
  cases hr
  exact se G H (Ext.refl e.s) x hx _ fun u G1 H1 e1 hu => q (.inl u) G1 H1 (e.trans e1) (RRm _ _ e.h _ _ _ _ hu)
theorem st_retXL {adr : Err → Addr} {E : XK} (e : Ext G0 H0 G H) {m : Option ρ} {RR : Hp → Hp → Hp → V → ρ → Prop} {f : Fl S (Rz ρ)} (RRm : ∀ H1 H2, HK H1 H2 → ∀ G' H' u r, RR H2 G' H' u r → RR H1 G' H' u r) (se : XE RR te σ G H m)
    (hm : (m.bind fun x => some (Fl.rt (Rz.ok x) : Fl S (Rz ρ))) = some f) (q : ∀ x, f = .rt x → ∀ u G' H', Ext G0 H0 G' H' → RX RR H0 G' H' u x → QX adr D.rt E u H') : tRet te D σ H := by
  obtain ⟨x, hx, hr⟩ := bind_some hm
  cases hr
  exact se G H (Ext.refl e.s) x hx _ fun u G1 H1 e1 hu => q _ rfl (.inl u) G1 H1 (e.trans e1) (RRm _ _ e.h _ _ _ _ hu)
theorem st_retXT {adr : Err → Addr} {E : XK} (e : Ext G0 H0 G H) {m : Option ρ} {RR : Hp → Hp → Hp → V → ρ → Prop} {f : Fx S (Rz ρ)} (RRm : ∀ H1 H2, HK H1 H2 → ∀ G' H' u r, RR H2 G' H' u r → RR H1 G' H' u r) (se : XE RR te σ G H m)
    (hm : (m.bind fun x => some (Fx.rt (Rz.ok x) : Fx S (Rz ρ))) = some f) (q : ∀ x, f = .rt x → ∀ u G' H', Ext G0 H0 G' H' → RX RR H0 G' H' u x → QX adr D.rt E u H') : tRet te D σ H := by
  obtain ⟨x, hx, hr⟩ := bind_some hm
  cases hr
  exact se G H (Ext.refl e.s) x hx _ fun u G1 H1 e1 hu => q _ rfl (.inl u) G1 H1 (e.trans e1) (RRm _ _ e.h _ _ _ _ hu)
/-- return within a try's body -/
theorem st_retT (e : Ext G0 H0 G H) {m : Option ρ} {RR : Hp → Hp → Hp → V → ρ → Prop} {f : Fx S ρ} (RRm : ∀ H1 H2, HK H1 H2 → ∀ G' H' u r, RR H2 G' H' u r → RR H1 G' H' u r) (se : XE RR te σ G H m) (hm : (m.bind fun x => some (Fx.rt x : Fx S ρ)) = some f)
    (q : ∀ x, f = .rt x → ∀ u G' H', Ext G0 H0 G' H' → RR H0 G' H' u x → D.rt u H') : tRet te D σ H := by
  obtain ⟨x, hx, hf⟩ := bind_some hm
  cases hf
  exact se G H (Ext.refl e.s) x hx _ fun u G1 H1 e1 hu => q x rfl u G1 H1 (e.trans e1) (RRm _ _ e.h _ _ _ _ hu)
/-- a list of one's own, handed back by a def that may raise -/
theorem st_retOX {adr : Err → Addr} {E : XK} {p : Addr} {ds : List α} {r : Rz (List α)} (hv : σ[i]? = some (some (.ref p))) (e : Ext G0 H0 G H) (o : Own K H0 G H p ds) (hm : some (Rz.ok ds) = some r)
    (q : ∀ u G' H', Ext G0 H0 G' H' → RX (RF K) H0 G' H' u r → QX adr D.rt E u H') : tRet (tVar i) D σ H := by
  cases hm
  exact ⟨_, hv, q (.inl _) G H e ⟨p, rfl, o⟩⟩
theorem st_retO2X {adr : Err → Addr} {E : XK} {p : Addr} {qs : List Nat} {ds : List (List α)} {r : Rz (List (List α))} (hv : σ[i]? = some (some (.ref p))) (e : Ext G0 H0 G H) (o : Own2 K H0 G H p qs ds) (hm : some (Rz.ok ds) = some r)
    (q : ∀ u G' H', Ext G0 H0 G' H' → RX (RF2 K) H0 G' H' u r → QX adr D.rt E u H') : tRet (tVar i) D σ H := by
  cases hm
  exact ⟨_, hv, q (.inl _) G H e ⟨p, qs, rfl, o⟩⟩
end
/-! ### try -/
def tTry (tb : WX → TS) (w : Ends → WX) : TS := fun D σ H => tb (w D) D σ H
section
variable {X : Cx} {x n : Str} {c : Value} {i : Nat} {body suite : List Stmt} {b₀ : Stmt} {np pos pos' : Pos} {tb : WX → TS} {ts : Addr → Value → Option Addr → TS} {Wout : WX}
theorem ps_tryO (hs : X.stack = X.env :: X.outer) (hf : X.env.frame = some X.env.locals) (hc : Names X x c) (tk : Takes X Wout)
    (hb : ∀ (W : WX) (pn : List (Addr × Obj)) (xe : Value → Shared → Prop), Takes (X.tr pn xe) W → PassesOwn (model X.prog X.w) X.A X.env xe → PSs (X.tr pn xe) body (tb W))
    (hsu : ∀ (a : Addr) (oe : Obj) (cls : Value) (d : Option Addr) (pn : List (Addr × Obj)), Zc cls d oe → (∃ vs, oe.data = .fields vs) → PSs (X.suite a ((a, oe) :: pn)) (b₀ :: suite) (ts a cls d)) :
    PS X (.Try body [.ExceptHandler (some (.Name x np)) none (b₀ :: suite) pos'] [] [] pos) (tTry tb fun D => wOnly X.K c ts Wout D) := ps_try_only hs hf hc tk hb hsu
theorem ps_tryA (hs : X.stack = X.env :: X.outer) (hf : X.env.frame = some X.env.locals) (hN : X.N.Nodup) (hi : X.N[i]? = some n) (hln : X.env.kindOf n = some .local) (hc : Names X x c) (tk : Takes X Wout)
    (hb : ∀ (W : WX) (pn : List (Addr × Obj)) (xe : Value → Shared → Prop), Takes (X.tr pn xe) W → PassesOwn (model X.prog X.w) X.A X.env xe → PSs (X.tr pn xe) body (tb W))
    (hsu : ∀ (a : Addr) (oe : Obj) (cls : Value) (d : Option Addr) (pn : List (Addr × Obj)), Zc cls d oe → (∃ vs, oe.data = .fields vs) → PSs (X.suite a ((a, oe) :: pn)) (b₀ :: suite) (ts a cls d)) :
    PS X (.Try body [.ExceptHandler (some (.Name x np)) (some n) (b₀ :: suite) pos'] [] [] pos) (tTry tb fun D => wAs X.K c i ts Wout D) := ps_try_as hs hf hN hi hln hc tk hb hsu
theorem pass_none {X : Cx} (σ : St) : PassesAt (L2.CX X.prog X.w) X σ (fun _ _ _ => False) := fun _ _ _ _ _ _ c => by
  obtain ⟨_, _, _, _, _, _, _, _, _, _, _, _, h⟩ := c
  exact h.elim
end
section
variable {K : PySem.W.Frag} {c : Value} {ts : Addr → Value → Option Addr → TS} {Wout : WX} {D : Ends} {σ : St} {H : Hp} {cls : Value} {i : Nat} {d : Option Addr} {b : Bool}
theorem st_tryX {S R : Type} {adr : Err → Addr} {G : Hp} {t : Fx S R} {tb : WX → TS} {w : Ends → WX} (hs : Vw G H) (hx : ∀ j, t = .er j → ∀ G' H', Ext G H G' H' → w D (.ref (adr j)) none σ H')
    (hb : ∀ W : WX, (∀ j, t = .er j → ∀ G' H', Ext G H G' H' → W (.ref (adr j)) none σ H') → Ext G H G H → tb W D σ H) : tTry tb w D σ H := hb _ hx (Ext.refl hs)
theorem cond_yes {α : Type} {b : Bool} {m n : Option α} {r : α} (h : cond b m n = some r) (y : b = true) : m = some r := by
  rw [y] at h
  exact h
theorem cond_no {α : Type} {b : Bool} {m n : Option α} {r : α} (h : cond b m n = some r) (y : b = false) : n = some r := by
  rw [y] at h
  exact h
theorem st_try {tb : WX → TS} {w : Ends → WX} {J : WX → Prop} (hx : J (w D)) (hb : ∀ W, J W → tb W D σ H) : tTry tb w D σ H := hb _ hx
theorem w_only (h : PySem.W.exmOne K cls c = some b) (y : b = true → ∀ a, ts a cls d D σ H) (z : b = false → Wout cls d σ H) : wOnly K c ts Wout D cls d σ H := ⟨b, h, fun hb a _ => y hb a, z⟩
theorem w_as (h : PySem.W.exmOne K cls c = some b) (y : b = true → ∀ a, ts a cls d { nx := fun σ' H' => D.nx (σ'.set i none) H', rt := D.rt, bk := fun σ' H' => D.bk (σ'.set i none) H', ct := fun σ' H' => D.ct (σ'.set i none) H' } (σ.set i (some (.ref a))) H)
    (z : b = false → Wout cls d σ H) : wAs K c i ts Wout D cls d σ H := ⟨b, h, fun hb a _ => y hb a, z⟩
end
/-! ### isinstance of what is caught -/
def rIsX (K : PySem.W.Frag) (cls : Value) (d : Option Addr) (a : Addr) : List V → Hp → VK → Prop := fun xs H Q => ∃ (D : Addr) (c : V) (cv : Value) (b : Bool), cls = .ref D ∧ d = none ∧ ExcC K D ∧ xs = [.ref a, c] ∧ (∀ u, RelV c u → u = cv) ∧ PySem.W.kitOne K (.ref D) cv = some b ∧ Q (.bl b) H
theorem call_isX {X : Cx} {a : Addr} {oe : Obj} {cls : Value} {d : Option Addr} {pn : List (Addr × Obj)} (hz : Zc cls d oe) (hf : ∃ vs, oe.data = .fields vs) : CallR (X.suite a ((a, oe) :: pn)) (.builtin "isinstance") (rIsX X.K cls d a) := by
  intro pins s σ H xs us Q I r h
  obtain ⟨D, c, cv, b, rfl, rfl, hC, rfl, hcv, e, q⟩ := h
  exact call_isE hC hz hf pins s σ H _ us Q I r ⟨c, cv, b, rfl, hcv, e, q⟩
section
variable {K : PySem.W.Frag} {σ : St} {G H : Hp} {i : Nat} {a D : Addr} {b : Bool}
theorem se_isX {c : Addr} (hv : σ[i]? = some (some (.ref a))) (hC : ExcC K D) (hk : PySem.W.kitOne K (.ref D) (.ref c) = some b) : SE K (tCB (rIsX K (.ref D) none a) (tCons (tVar i) (tCons (tC (.ref c)) tNil))) σ G H (some b) := fun G1 H1 e z hm Q q => by
  cases hm
  refine ⟨_, hv, D, _, _, b, rfl, rfl, hC, rfl, fun u hu => ?_, hk, q _ G1 H1 (Ext.refl e.s) rfl⟩
  cases hu
  rfl
theorem se_isXT {c : String} (hv : σ[i]? = some (some (.ref a))) (hC : ExcC K D) (hk : PySem.W.kitOne K (.ref D) (.type c) = some b) : SE K (tCB (rIsX K (.ref D) none a) (tCons (tVar i) (tCons (tC (.ty c)) tNil))) σ G H (some b) := fun G1 H1 e z hm Q q => by
  cases hm
  refine ⟨_, hv, D, _, _, b, rfl, rfl, hC, rfl, fun u hu => ?_, hk, q _ G1 H1 (Ext.refl e.s) rfl⟩
  cases hu
  rfl
end
theorem kit_sub {K : PySem.W.Frag} {C D : Addr} {b : Bool} (h1 : PySem.W.hasDictIn K C = true) (h2 : PySem.W.typeIn K (.ref C) = some (.type "type")) (hs : PySem.W.subIn K (.ref C) (.ref C) = some true) (h3 : PySem.W.subIn K (.ref D) (.ref C) = some b) : PySem.W.kitOne K (.ref D) (.ref C) = some b := by
  unfold PySem.W.kitOne
  split
  · rename_i q
    have e : D = C := Value.ref.inj (beq_iff_eq.mp q)
    rw [e, hs] at h3
    exact h3
  · obtain ⟨cd, hc, _⟩ := PySem.W.any_some h1
    show (if ((PySem.W.clsIn K C).isSome && PySem.W.typeIn K (.ref C) == some (.type "type")) = true then PySem.W.subIn K (.ref D) (.ref C) else none) = some b
    rw [if_pos (by rw [hc, h2] <;> rfl)]
    exact h3
theorem kit_subT {K : PySem.W.Frag} {D : Addr} {T : String} {b : Bool} (hm : PySem.W.kitMeta T = true) (h3 : PySem.W.subIn K (.ref D) (.type T) = some b) : PySem.W.kitOne K (.ref D) (.type T) = some b := by
  unfold PySem.W.kitOne
  rw [if_neg (by intro z; cases beq_iff_eq.mp z)]
  show (if PySem.W.kitMeta T = true then PySem.W.subIn K (.ref D) (.type T) else none) = some b
  rw [if_pos hm]
  exact h3
/-! ### calls of what may raise -/
def SpX1 {α0 : Type} [Rp α0] {ρ : Type} (K : PySem.W.Frag) (adr : Err → Addr) (RR : Hp → Hp → Hp → V → ρ → Prop) (f : α0 → Option (Rz ρ)) : Sp := fun vs H Q E => ∃ (G : Hp) (v0 : V) (x0 : α0) (r : Rz ρ), vs = [v0] ∧ Vw G H ∧ rep K G v0 x0 ∧ f x0 = some r ∧ ∀ u G' H', Ext G H G' H' → RX RR H G' H' u r → QX adr Q E u H'
theorem SpX1.len {α0 : Type} [Rp α0] {ρ : Type} {K : PySem.W.Frag} {adr : Err → Addr} {RR : Hp → Hp → Hp → V → ρ → Prop} {f : α0 → Option (Rz ρ)} {ps : List Str} (hp : ps.length = 1) : ∀ vs H Q E, SpX1 K adr RR f vs H Q E → vs.length = ps.length := by
  intro vs H Q E ⟨_, _, _, _, e, _⟩
  rw [e, hp]
  rfl
theorem xe_callX1 {α0 : Type} [Rp α0] {ρ : Type} {K : PySem.W.Frag} {adr : Err → Addr} {RR : Hp → Hp → Hp → V → ρ → Prop} (RRm : ∀ H1 H2, HK H1 H2 → ∀ G' H' u r, RR H2 G' H' u r → RR H1 G' H' u r) {σ : St} {G H : Hp} {t0 : TE} {m0 : Option α0} {f : α0 → Option (Rz ρ)} {E : St → XK} (h0 : SE K t0 σ G H m0) : XE RR (tCallS (SpX1 K adr RR f) E (tCons t0 tNil)) σ G H ((m0.bind fun x0 => valE (f x0))) := fun G1 H1 e z hm Q q => by
  obtain ⟨x0, hx0, hm⟩ := bind_some hm
  have hm := valE_some hm
  refine h0 _ _ e x0 hx0 _ fun v0 G2 H2 e0 r0 => ?_
  refine ⟨_, v0, x0, .ok z, rfl, e0.s, r0, hm, fun u G' H' eu hu => ?_⟩
  cases u with
  | inl u => exact q u G' H' (e0.trans eu) (RRm _ _ e0.h _ _ _ _ hu)
  | inr k => exact False.elim hu
theorem xe_callX1p {α0 : Type} [Rp α0] {ρ : Type} {K : PySem.W.Frag} {adr : Err → Addr} {RR : Hp → Hp → Hp → V → ρ → Prop} (RRm : ∀ H1 H2, HK H1 H2 → ∀ G' H' u r, RR H2 G' H' u r → RR H1 G' H' u r) {σ : St} {G H : Hp} {t0 : TE} {x0 : α0} {f : α0 → Option (Rz ρ)} {E : St → XK} (h0 : SE K t0 σ G H (some x0)) : XE RR (tCallS (SpX1 K adr RR f) E (tCons t0 tNil)) σ G H (valE (f x0)) := xe_callX1 RRm h0
theorem sr_callX1 {α0 : Type} [Rp α0] {ρ : Type} {K : PySem.W.Frag} {adr : Err → Addr} {RR : Hp → Hp → Hp → V → ρ → Prop} {σ : St} {G H : Hp} {t0 : TE} {m0 : Option α0} {f : α0 → Option (Rz ρ)} {W : WX} (h0 : SE K t0 σ G H m0) : SER adr W (tCallS (SpX1 K adr RR f) (fun σ => WE W σ) (tCons t0 tNil)) σ G H ((m0.bind fun x0 => errE (f x0))) := fun G1 H1 e k hm w Q => by
  obtain ⟨x0, hx0, hm⟩ := bind_some hm
  have hm := errE_some hm
  refine h0 _ _ e x0 hx0 _ fun v0 G2 H2 e0 r0 => ?_
  refine ⟨_, v0, x0, .er k, rfl, e0.s, r0, hm, fun u G' H' eu hu => ?_⟩
  cases u with
  | inl u => exact False.elim hu
  | inr j =>
    cases (show j = k from hu)
    exact w G' H' (e0.trans eu)
theorem sr_callX1p {α0 : Type} [Rp α0] {ρ : Type} {K : PySem.W.Frag} {adr : Err → Addr} {RR : Hp → Hp → Hp → V → ρ → Prop} {σ : St} {G H : Hp} {t0 : TE} {x0 : α0} {f : α0 → Option (Rz ρ)} {W : WX} (h0 : SE K t0 σ G H (some x0)) : SER adr W (tCallS (SpX1 K adr RR f) (fun σ => WE W σ) (tCons t0 tNil)) σ G H (errE (f x0)) := sr_callX1 h0
def SpX2 {α0 : Type} [Rp α0] {α1 : Type} [Rp α1] {ρ : Type} (K : PySem.W.Frag) (adr : Err → Addr) (RR : Hp → Hp → Hp → V → ρ → Prop) (f : α0 → α1 → Option (Rz ρ)) : Sp := fun vs H Q E => ∃ (G : Hp) (v0 v1 : V) (x0 : α0) (x1 : α1) (r : Rz ρ), vs = [v0, v1] ∧ Vw G H ∧ rep K G v0 x0 ∧ rep K G v1 x1 ∧ f x0 x1 = some r ∧ ∀ u G' H', Ext G H G' H' → RX RR H G' H' u r → QX adr Q E u H'
theorem SpX2.len {α0 : Type} [Rp α0] {α1 : Type} [Rp α1] {ρ : Type} {K : PySem.W.Frag} {adr : Err → Addr} {RR : Hp → Hp → Hp → V → ρ → Prop} {f : α0 → α1 → Option (Rz ρ)} {ps : List Str} (hp : ps.length = 2) : ∀ vs H Q E, SpX2 K adr RR f vs H Q E → vs.length = ps.length := by
  intro vs H Q E ⟨_, _, _, _, _, _, e, _⟩
  rw [e, hp]
  rfl
theorem xe_callX2 {α0 : Type} [Rp α0] {α1 : Type} [Rp α1] {ρ : Type} {K : PySem.W.Frag} {adr : Err → Addr} {RR : Hp → Hp → Hp → V → ρ → Prop} (RRm : ∀ H1 H2, HK H1 H2 → ∀ G' H' u r, RR H2 G' H' u r → RR H1 G' H' u r) {σ : St} {G H : Hp} {t0 t1 : TE} {m0 : Option α0} {m1 : Option α1} {f : α0 → α1 → Option (Rz ρ)} {E : St → XK} (h0 : SE K t0 σ G H m0) (h1 : SE K t1 σ G H m1) : XE RR (tCallS (SpX2 K adr RR f) E (tCons t0 (tCons t1 tNil))) σ G H ((m0.bind fun x0 => (m1.bind fun x1 => valE (f x0 x1)))) := fun G1 H1 e z hm Q q => by
  obtain ⟨x0, hx0, hm⟩ := bind_some hm
  obtain ⟨x1, hx1, hm⟩ := bind_some hm
  have hm := valE_some hm
  refine h0 _ _ e x0 hx0 _ fun v0 G2 H2 e0 r0 => ?_
  refine h1 _ _ (e.trans e0) x1 hx1 _ fun v1 G3 H3 e1 r1 => ?_
  refine ⟨_, v0, v1, x0, x1, .ok z, rfl, e1.s, (Rp.mono e1.g r0), r1, hm, fun u G' H' eu hu => ?_⟩
  cases u with
  | inl u => exact q u G' H' ((e0.trans e1).trans eu) (RRm _ _ (e0.trans e1).h _ _ _ _ hu)
  | inr k => exact False.elim hu
theorem xe_callX2p {α0 : Type} [Rp α0] {α1 : Type} [Rp α1] {ρ : Type} {K : PySem.W.Frag} {adr : Err → Addr} {RR : Hp → Hp → Hp → V → ρ → Prop} (RRm : ∀ H1 H2, HK H1 H2 → ∀ G' H' u r, RR H2 G' H' u r → RR H1 G' H' u r) {σ : St} {G H : Hp} {t0 t1 : TE} {x0 : α0} {x1 : α1} {f : α0 → α1 → Option (Rz ρ)} {E : St → XK} (h0 : SE K t0 σ G H (some x0)) (h1 : SE K t1 σ G H (some x1)) : XE RR (tCallS (SpX2 K adr RR f) E (tCons t0 (tCons t1 tNil))) σ G H (valE (f x0 x1)) := xe_callX2 RRm h0 h1
theorem sr_callX2 {α0 : Type} [Rp α0] {α1 : Type} [Rp α1] {ρ : Type} {K : PySem.W.Frag} {adr : Err → Addr} {RR : Hp → Hp → Hp → V → ρ → Prop} {σ : St} {G H : Hp} {t0 t1 : TE} {m0 : Option α0} {m1 : Option α1} {f : α0 → α1 → Option (Rz ρ)} {W : WX} (h0 : SE K t0 σ G H m0) (h1 : SE K t1 σ G H m1) : SER adr W (tCallS (SpX2 K adr RR f) (fun σ => WE W σ) (tCons t0 (tCons t1 tNil))) σ G H ((m0.bind fun x0 => (m1.bind fun x1 => errE (f x0 x1)))) := fun G1 H1 e k hm w Q => by
  obtain ⟨x0, hx0, hm⟩ := bind_some hm
  obtain ⟨x1, hx1, hm⟩ := bind_some hm
  have hm := errE_some hm
  refine h0 _ _ e x0 hx0 _ fun v0 G2 H2 e0 r0 => ?_
  refine h1 _ _ (e.trans e0) x1 hx1 _ fun v1 G3 H3 e1 r1 => ?_
  refine ⟨_, v0, v1, x0, x1, .er k, rfl, e1.s, (Rp.mono e1.g r0), r1, hm, fun u G' H' eu hu => ?_⟩
  cases u with
  | inl u => exact False.elim hu
  | inr j =>
    cases (show j = k from hu)
    exact w G' H' ((e0.trans e1).trans eu)
theorem sr_callX2p {α0 : Type} [Rp α0] {α1 : Type} [Rp α1] {ρ : Type} {K : PySem.W.Frag} {adr : Err → Addr} {RR : Hp → Hp → Hp → V → ρ → Prop} {σ : St} {G H : Hp} {t0 t1 : TE} {x0 : α0} {x1 : α1} {f : α0 → α1 → Option (Rz ρ)} {W : WX} (h0 : SE K t0 σ G H (some x0)) (h1 : SE K t1 σ G H (some x1)) : SER adr W (tCallS (SpX2 K adr RR f) (fun σ => WE W σ) (tCons t0 (tCons t1 tNil))) σ G H (errE (f x0 x1)) := sr_callX2 h0 h1
def SpX3 {α0 : Type} [Rp α0] {α1 : Type} [Rp α1] {α2 : Type} [Rp α2] {ρ : Type} (K : PySem.W.Frag) (adr : Err → Addr) (RR : Hp → Hp → Hp → V → ρ → Prop) (f : α0 → α1 → α2 → Option (Rz ρ)) : Sp := fun vs H Q E => ∃ (G : Hp) (v0 v1 v2 : V) (x0 : α0) (x1 : α1) (x2 : α2) (r : Rz ρ), vs = [v0, v1, v2] ∧ Vw G H ∧ rep K G v0 x0 ∧ rep K G v1 x1 ∧ rep K G v2 x2 ∧ f x0 x1 x2 = some r ∧ ∀ u G' H', Ext G H G' H' → RX RR H G' H' u r → QX adr Q E u H'
theorem SpX3.len {α0 : Type} [Rp α0] {α1 : Type} [Rp α1] {α2 : Type} [Rp α2] {ρ : Type} {K : PySem.W.Frag} {adr : Err → Addr} {RR : Hp → Hp → Hp → V → ρ → Prop} {f : α0 → α1 → α2 → Option (Rz ρ)} {ps : List Str} (hp : ps.length = 3) : ∀ vs H Q E, SpX3 K adr RR f vs H Q E → vs.length = ps.length := by
  intro vs H Q E ⟨_, _, _, _, _, _, _, _, e, _⟩
  rw [e, hp]
  rfl
theorem xe_callX3 {α0 : Type} [Rp α0] {α1 : Type} [Rp α1] {α2 : Type} [Rp α2] {ρ : Type} {K : PySem.W.Frag} {adr : Err → Addr} {RR : Hp → Hp → Hp → V → ρ → Prop} (RRm : ∀ H1 H2, HK H1 H2 → ∀ G' H' u r, RR H2 G' H' u r → RR H1 G' H' u r) {σ : St} {G H : Hp} {t0 t1 t2 : TE} {m0 : Option α0} {m1 : Option α1} {m2 : Option α2} {f : α0 → α1 → α2 → Option (Rz ρ)} {E : St → XK} (h0 : SE K t0 σ G H m0) (h1 : SE K t1 σ G H m1) (h2 : SE K t2 σ G H m2) : XE RR (tCallS (SpX3 K adr RR f) E (tCons t0 (tCons t1 (tCons t2 tNil)))) σ G H ((m0.bind fun x0 => (m1.bind fun x1 => (m2.bind fun x2 => valE (f x0 x1 x2))))) := fun G1 H1 e z hm Q q => by
  obtain ⟨x0, hx0, hm⟩ := bind_some hm
  obtain ⟨x1, hx1, hm⟩ := bind_some hm
  obtain ⟨x2, hx2, hm⟩ := bind_some hm
  have hm := valE_some hm
  refine h0 _ _ e x0 hx0 _ fun v0 G2 H2 e0 r0 => ?_
  refine h1 _ _ (e.trans e0) x1 hx1 _ fun v1 G3 H3 e1 r1 => ?_
  refine h2 _ _ ((e.trans e0).trans e1) x2 hx2 _ fun v2 G4 H4 e2 r2 => ?_
  refine ⟨_, v0, v1, v2, x0, x1, x2, .ok z, rfl, e2.s, (Rp.mono e2.g (Rp.mono e1.g r0)), (Rp.mono e2.g r1), r2, hm, fun u G' H' eu hu => ?_⟩
  cases u with
  | inl u => exact q u G' H' (((e0.trans e1).trans e2).trans eu) (RRm _ _ ((e0.trans e1).trans e2).h _ _ _ _ hu)
  | inr k => exact False.elim hu
theorem xe_callX3p {α0 : Type} [Rp α0] {α1 : Type} [Rp α1] {α2 : Type} [Rp α2] {ρ : Type} {K : PySem.W.Frag} {adr : Err → Addr} {RR : Hp → Hp → Hp → V → ρ → Prop} (RRm : ∀ H1 H2, HK H1 H2 → ∀ G' H' u r, RR H2 G' H' u r → RR H1 G' H' u r) {σ : St} {G H : Hp} {t0 t1 t2 : TE} {x0 : α0} {x1 : α1} {x2 : α2} {f : α0 → α1 → α2 → Option (Rz ρ)} {E : St → XK} (h0 : SE K t0 σ G H (some x0)) (h1 : SE K t1 σ G H (some x1)) (h2 : SE K t2 σ G H (some x2)) : XE RR (tCallS (SpX3 K adr RR f) E (tCons t0 (tCons t1 (tCons t2 tNil)))) σ G H (valE (f x0 x1 x2)) := xe_callX3 RRm h0 h1 h2
theorem sr_callX3 {α0 : Type} [Rp α0] {α1 : Type} [Rp α1] {α2 : Type} [Rp α2] {ρ : Type} {K : PySem.W.Frag} {adr : Err → Addr} {RR : Hp → Hp → Hp → V → ρ → Prop} {σ : St} {G H : Hp} {t0 t1 t2 : TE} {m0 : Option α0} {m1 : Option α1} {m2 : Option α2} {f : α0 → α1 → α2 → Option (Rz ρ)} {W : WX} (h0 : SE K t0 σ G H m0) (h1 : SE K t1 σ G H m1) (h2 : SE K t2 σ G H m2) : SER adr W (tCallS (SpX3 K adr RR f) (fun σ => WE W σ) (tCons t0 (tCons t1 (tCons t2 tNil)))) σ G H ((m0.bind fun x0 => (m1.bind fun x1 => (m2.bind fun x2 => errE (f x0 x1 x2))))) := fun G1 H1 e k hm w Q => by
  obtain ⟨x0, hx0, hm⟩ := bind_some hm
  obtain ⟨x1, hx1, hm⟩ := bind_some hm
  obtain ⟨x2, hx2, hm⟩ := bind_some hm
  have hm := errE_some hm
  refine h0 _ _ e x0 hx0 _ fun v0 G2 H2 e0 r0 => ?_
  refine h1 _ _ (e.trans e0) x1 hx1 _ fun v1 G3 H3 e1 r1 => ?_
  refine h2 _ _ ((e.trans e0).trans e1) x2 hx2 _ fun v2 G4 H4 e2 r2 => ?_
  refine ⟨_, v0, v1, v2, x0, x1, x2, .er k, rfl, e2.s, (Rp.mono e2.g (Rp.mono e1.g r0)), (Rp.mono e2.g r1), r2, hm, fun u G' H' eu hu => ?_⟩
  cases u with
  | inl u => exact False.elim hu
  | inr j =>
    cases (show j = k from hu)
    exact w G' H' (((e0.trans e1).trans e2).trans eu)
theorem sr_callX3p {α0 : Type} [Rp α0] {α1 : Type} [Rp α1] {α2 : Type} [Rp α2] {ρ : Type} {K : PySem.W.Frag} {adr : Err → Addr} {RR : Hp → Hp → Hp → V → ρ → Prop} {σ : St} {G H : Hp} {t0 t1 t2 : TE} {x0 : α0} {x1 : α1} {x2 : α2} {f : α0 → α1 → α2 → Option (Rz ρ)} {W : WX} (h0 : SE K t0 σ G H (some x0)) (h1 : SE K t1 σ G H (some x1)) (h2 : SE K t2 σ G H (some x2)) : SER adr W (tCallS (SpX3 K adr RR f) (fun σ => WE W σ) (tCons t0 (tCons t1 (tCons t2 tNil)))) σ G H (errE (f x0 x1 x2)) := sr_callX3 h0 h1 h2
def SpX4 {α0 : Type} [Rp α0] {α1 : Type} [Rp α1] {α2 : Type} [Rp α2] {α3 : Type} [Rp α3] {ρ : Type} (K : PySem.W.Frag) (adr : Err → Addr) (RR : Hp → Hp → Hp → V → ρ → Prop) (f : α0 → α1 → α2 → α3 → Option (Rz ρ)) : Sp := fun vs H Q E => ∃ (G : Hp) (v0 v1 v2 v3 : V) (x0 : α0) (x1 : α1) (x2 : α2) (x3 : α3) (r : Rz ρ), vs = [v0, v1, v2, v3] ∧ Vw G H ∧ rep K G v0 x0 ∧ rep K G v1 x1 ∧ rep K G v2 x2 ∧ rep K G v3 x3 ∧ f x0 x1 x2 x3 = some r ∧ ∀ u G' H', Ext G H G' H' → RX RR H G' H' u r → QX adr Q E u H'
theorem SpX4.len {α0 : Type} [Rp α0] {α1 : Type} [Rp α1] {α2 : Type} [Rp α2] {α3 : Type} [Rp α3] {ρ : Type} {K : PySem.W.Frag} {adr : Err → Addr} {RR : Hp → Hp → Hp → V → ρ → Prop} {f : α0 → α1 → α2 → α3 → Option (Rz ρ)} {ps : List Str} (hp : ps.length = 4) : ∀ vs H Q E, SpX4 K adr RR f vs H Q E → vs.length = ps.length := by
  intro vs H Q E ⟨_, _, _, _, _, _, _, _, _, _, e, _⟩
  rw [e, hp]
  rfl
theorem xe_callX4 {α0 : Type} [Rp α0] {α1 : Type} [Rp α1] {α2 : Type} [Rp α2] {α3 : Type} [Rp α3] {ρ : Type} {K : PySem.W.Frag} {adr : Err → Addr} {RR : Hp → Hp → Hp → V → ρ → Prop} (RRm : ∀ H1 H2, HK H1 H2 → ∀ G' H' u r, RR H2 G' H' u r → RR H1 G' H' u r) {σ : St} {G H : Hp} {t0 t1 t2 t3 : TE} {m0 : Option α0} {m1 : Option α1} {m2 : Option α2} {m3 : Option α3} {f : α0 → α1 → α2 → α3 → Option (Rz ρ)} {E : St → XK} (h0 : SE K t0 σ G H m0) (h1 : SE K t1 σ G H m1) (h2 : SE K t2 σ G H m2) (h3 : SE K t3 σ G H m3) : XE RR (tCallS (SpX4 K adr RR f) E (tCons t0 (tCons t1 (tCons t2 (tCons t3 tNil))))) σ G H ((m0.bind fun x0 => (m1.bind fun x1 => (m2.bind fun x2 => (m3.bind fun x3 => valE (f x0 x1 x2 x3)))))) := fun G1 H1 e z hm Q q => by
  obtain ⟨x0, hx0, hm⟩ := bind_some hm
  obtain ⟨x1, hx1, hm⟩ := bind_some hm
  obtain ⟨x2, hx2, hm⟩ := bind_some hm
  obtain ⟨x3, hx3, hm⟩ := bind_some hm
  have hm := valE_some hm
  refine h0 _ _ e x0 hx0 _ fun v0 G2 H2 e0 r0 => ?_
  refine h1 _ _ (e.trans e0) x1 hx1 _ fun v1 G3 H3 e1 r1 => ?_
  refine h2 _ _ ((e.trans e0).trans e1) x2 hx2 _ fun v2 G4 H4 e2 r2 => ?_
  refine h3 _ _ (((e.trans e0).trans e1).trans e2) x3 hx3 _ fun v3 G5 H5 e3 r3 => ?_
  refine ⟨_, v0, v1, v2, v3, x0, x1, x2, x3, .ok z, rfl, e3.s, (Rp.mono e3.g (Rp.mono e2.g (Rp.mono e1.g r0))), (Rp.mono e3.g (Rp.mono e2.g r1)), (Rp.mono e3.g r2), r3, hm, fun u G' H' eu hu => ?_⟩
  cases u with
  | inl u => exact q u G' H' ((((e0.trans e1).trans e2).trans e3).trans eu) (RRm _ _ (((e0.trans e1).trans e2).trans e3).h _ _ _ _ hu)
  | inr k => exact False.elim hu
theorem xe_callX4p {α0 : Type} [Rp α0] {α1 : Type} [Rp α1] {α2 : Type} [Rp α2] {α3 : Type} [Rp α3] {ρ : Type} {K : PySem.W.Frag} {adr : Err → Addr} {RR : Hp → Hp → Hp → V → ρ → Prop} (RRm : ∀ H1 H2, HK H1 H2 → ∀ G' H' u r, RR H2 G' H' u r → RR H1 G' H' u r) {σ : St} {G H : Hp} {t0 t1 t2 t3 : TE} {x0 : α0} {x1 : α1} {x2 : α2} {x3 : α3} {f : α0 → α1 → α2 → α3 → Option (Rz ρ)} {E : St → XK} (h0 : SE K t0 σ G H (some x0)) (h1 : SE K t1 σ G H (some x1)) (h2 : SE K t2 σ G H (some x2)) (h3 : SE K t3 σ G H (some x3)) : XE RR (tCallS (SpX4 K adr RR f) E (tCons t0 (tCons t1 (tCons t2 (tCons t3 tNil))))) σ G H (valE (f x0 x1 x2 x3)) := xe_callX4 RRm h0 h1 h2 h3
theorem sr_callX4 {α0 : Type} [Rp α0] {α1 : Type} [Rp α1] {α2 : Type} [Rp α2] {α3 : Type} [Rp α3] {ρ : Type} {K : PySem.W.Frag} {adr : Err → Addr} {RR : Hp → Hp → Hp → V → ρ → Prop} {σ : St} {G H : Hp} {t0 t1 t2 t3 : TE} {m0 : Option α0} {m1 : Option α1} {m2 : Option α2} {m3 : Option α3} {f : α0 → α1 → α2 → α3 → Option (Rz ρ)} {W : WX} (h0 : SE K t0 σ G H m0) (h1 : SE K t1 σ G H m1) (h2 : SE K t2 σ G H m2) (h3 : SE K t3 σ G H m3) : SER adr W (tCallS (SpX4 K adr RR f) (fun σ => WE W σ) (tCons t0 (tCons t1 (tCons t2 (tCons t3 tNil))))) σ G H ((m0.bind fun x0 => (m1.bind fun x1 => (m2.bind fun x2 => (m3.bind fun x3 => errE (f x0 x1 x2 x3)))))) := fun G1 H1 e k hm w Q => by
  obtain ⟨x0, hx0, hm⟩ := bind_some hm
  obtain ⟨x1, hx1, hm⟩ := bind_some hm
  obtain ⟨x2, hx2, hm⟩ := bind_some hm
  obtain ⟨x3, hx3, hm⟩ := bind_some hm
  have hm := errE_some hm
  refine h0 _ _ e x0 hx0 _ fun v0 G2 H2 e0 r0 => ?_
  refine h1 _ _ (e.trans e0) x1 hx1 _ fun v1 G3 H3 e1 r1 => ?_
  refine h2 _ _ ((e.trans e0).trans e1) x2 hx2 _ fun v2 G4 H4 e2 r2 => ?_
  refine h3 _ _ (((e.trans e0).trans e1).trans e2) x3 hx3 _ fun v3 G5 H5 e3 r3 => ?_
  refine ⟨_, v0, v1, v2, v3, x0, x1, x2, x3, .er k, rfl, e3.s, (Rp.mono e3.g (Rp.mono e2.g (Rp.mono e1.g r0))), (Rp.mono e3.g (Rp.mono e2.g r1)), (Rp.mono e3.g r2), r3, hm, fun u G' H' eu hu => ?_⟩
  cases u with
  | inl u => exact False.elim hu
  | inr j =>
    cases (show j = k from hu)
    exact w G' H' ((((e0.trans e1).trans e2).trans e3).trans eu)
theorem sr_callX4p {α0 : Type} [Rp α0] {α1 : Type} [Rp α1] {α2 : Type} [Rp α2] {α3 : Type} [Rp α3] {ρ : Type} {K : PySem.W.Frag} {adr : Err → Addr} {RR : Hp → Hp → Hp → V → ρ → Prop} {σ : St} {G H : Hp} {t0 t1 t2 t3 : TE} {x0 : α0} {x1 : α1} {x2 : α2} {x3 : α3} {f : α0 → α1 → α2 → α3 → Option (Rz ρ)} {W : WX} (h0 : SE K t0 σ G H (some x0)) (h1 : SE K t1 σ G H (some x1)) (h2 : SE K t2 σ G H (some x2)) (h3 : SE K t3 σ G H (some x3)) : SER adr W (tCallS (SpX4 K adr RR f) (fun σ => WE W σ) (tCons t0 (tCons t1 (tCons t2 (tCons t3 tNil))))) σ G H (errE (f x0 x1 x2 x3)) := sr_callX4 h0 h1 h2 h3
def SpX5 {α0 : Type} [Rp α0] {α1 : Type} [Rp α1] {α2 : Type} [Rp α2] {α3 : Type} [Rp α3] {α4 : Type} [Rp α4] {ρ : Type} (K : PySem.W.Frag) (adr : Err → Addr) (RR : Hp → Hp → Hp → V → ρ → Prop) (f : α0 → α1 → α2 → α3 → α4 → Option (Rz ρ)) : Sp := fun vs H Q E => ∃ (G : Hp) (v0 v1 v2 v3 v4 : V) (x0 : α0) (x1 : α1) (x2 : α2) (x3 : α3) (x4 : α4) (r : Rz ρ), vs = [v0, v1, v2, v3, v4] ∧ Vw G H ∧ rep K G v0 x0 ∧ rep K G v1 x1 ∧ rep K G v2 x2 ∧ rep K G v3 x3 ∧ rep K G v4 x4 ∧ f x0 x1 x2 x3 x4 = some r ∧ ∀ u G' H', Ext G H G' H' → RX RR H G' H' u r → QX adr Q E u H'
theorem SpX5.len {α0 : Type} [Rp α0] {α1 : Type} [Rp α1] {α2 : Type} [Rp α2] {α3 : Type} [Rp α3] {α4 : Type} [Rp α4] {ρ : Type} {K : PySem.W.Frag} {adr : Err → Addr} {RR : Hp → Hp → Hp → V → ρ → Prop} {f : α0 → α1 → α2 → α3 → α4 → Option (Rz ρ)} {ps : List Str} (hp : ps.length = 5) : ∀ vs H Q E, SpX5 K adr RR f vs H Q E → vs.length = ps.length := by
  intro vs H Q E ⟨_, _, _, _, _, _, _, _, _, _, _, _, e, _⟩
  rw [e, hp]
  rfl
theorem xe_callX5 {α0 : Type} [Rp α0] {α1 : Type} [Rp α1] {α2 : Type} [Rp α2] {α3 : Type} [Rp α3] {α4 : Type} [Rp α4] {ρ : Type} {K : PySem.W.Frag} {adr : Err → Addr} {RR : Hp → Hp → Hp → V → ρ → Prop} (RRm : ∀ H1 H2, HK H1 H2 → ∀ G' H' u r, RR H2 G' H' u r → RR H1 G' H' u r) {σ : St} {G H : Hp} {t0 t1 t2 t3 t4 : TE} {m0 : Option α0} {m1 : Option α1} {m2 : Option α2} {m3 : Option α3} {m4 : Option α4} {f : α0 → α1 → α2 → α3 → α4 → Option (Rz ρ)} {E : St → XK} (h0 : SE K t0 σ G H m0) (h1 : SE K t1 σ G H m1) (h2 : SE K t2 σ G H m2) (h3 : SE K t3 σ G H m3) (h4 : SE K t4 σ G H m4) : XE RR (tCallS (SpX5 K adr RR f) E (tCons t0 (tCons t1 (tCons t2 (tCons t3 (tCons t4 tNil)))))) σ G H ((m0.bind fun x0 => (m1.bind fun x1 => (m2.bind fun x2 => (m3.bind fun x3 => (m4.bind fun x4 => valE (f x0 x1 x2 x3 x4))))))) := fun G1 H1 e z hm Q q => by
  obtain ⟨x0, hx0, hm⟩ := bind_some hm
  obtain ⟨x1, hx1, hm⟩ := bind_some hm
  obtain ⟨x2, hx2, hm⟩ := bind_some hm
  obtain ⟨x3, hx3, hm⟩ := bind_some hm
  obtain ⟨x4, hx4, hm⟩ := bind_some hm
  have hm := valE_some hm
  refine h0 _ _ e x0 hx0 _ fun v0 G2 H2 e0 r0 => ?_
  refine h1 _ _ (e.trans e0) x1 hx1 _ fun v1 G3 H3 e1 r1 => ?_
  refine h2 _ _ ((e.trans e0).trans e1) x2 hx2 _ fun v2 G4 H4 e2 r2 => ?_
  refine h3 _ _ (((e.trans e0).trans e1).trans e2) x3 hx3 _ fun v3 G5 H5 e3 r3 => ?_
  refine h4 _ _ ((((e.trans e0).trans e1).trans e2).trans e3) x4 hx4 _ fun v4 G6 H6 e4 r4 => ?_
  refine ⟨_, v0, v1, v2, v3, v4, x0, x1, x2, x3, x4, .ok z, rfl, e4.s, (Rp.mono e4.g (Rp.mono e3.g (Rp.mono e2.g (Rp.mono e1.g r0)))), (Rp.mono e4.g (Rp.mono e3.g (Rp.mono e2.g r1))), (Rp.mono e4.g (Rp.mono e3.g r2)), (Rp.mono e4.g r3), r4, hm, fun u G' H' eu hu => ?_⟩
  cases u with
  | inl u => exact q u G' H' (((((e0.trans e1).trans e2).trans e3).trans e4).trans eu) (RRm _ _ ((((e0.trans e1).trans e2).trans e3).trans e4).h _ _ _ _ hu)
  | inr k => exact False.elim hu
theorem xe_callX5p {α0 : Type} [Rp α0] {α1 : Type} [Rp α1] {α2 : Type} [Rp α2] {α3 : Type} [Rp α3] {α4 : Type} [Rp α4] {ρ : Type} {K : PySem.W.Frag} {adr : Err → Addr} {RR : Hp → Hp → Hp → V → ρ → Prop} (RRm : ∀ H1 H2, HK H1 H2 → ∀ G' H' u r, RR H2 G' H' u r → RR H1 G' H' u r) {σ : St} {G H : Hp} {t0 t1 t2 t3 t4 : TE} {x0 : α0} {x1 : α1} {x2 : α2} {x3 : α3} {x4 : α4} {f : α0 → α1 → α2 → α3 → α4 → Option (Rz ρ)} {E : St → XK} (h0 : SE K t0 σ G H (some x0)) (h1 : SE K t1 σ G H (some x1)) (h2 : SE K t2 σ G H (some x2)) (h3 : SE K t3 σ G H (some x3)) (h4 : SE K t4 σ G H (some x4)) : XE RR (tCallS (SpX5 K adr RR f) E (tCons t0 (tCons t1 (tCons t2 (tCons t3 (tCons t4 tNil)))))) σ G H (valE (f x0 x1 x2 x3 x4)) := xe_callX5 RRm h0 h1 h2 h3 h4
theorem sr_callX5 {α0 : Type} [Rp α0] {α1 : Type} [Rp α1] {α2 : Type} [Rp α2] {α3 : Type} [Rp α3] {α4 : Type} [Rp α4] {ρ : Type} {K : PySem.W.Frag} {adr : Err → Addr} {RR : Hp → Hp → Hp → V → ρ → Prop} {σ : St} {G H : Hp} {t0 t1 t2 t3 t4 : TE} {m0 : Option α0} {m1 : Option α1} {m2 : Option α2} {m3 : Option α3} {m4 : Option α4} {f : α0 → α1 → α2 → α3 → α4 → Option (Rz ρ)} {W : WX} (h0 : SE K t0 σ G H m0) (h1 : SE K t1 σ G H m1) (h2 : SE K t2 σ G H m2) (h3 : SE K t3 σ G H m3) (h4 : SE K t4 σ G H m4) : SER adr W (tCallS (SpX5 K adr RR f) (fun σ => WE W σ) (tCons t0 (tCons t1 (tCons t2 (tCons t3 (tCons t4 tNil)))))) σ G H ((m0.bind fun x0 => (m1.bind fun x1 => (m2.bind fun x2 => (m3.bind fun x3 => (m4.bind fun x4 => errE (f x0 x1 x2 x3 x4))))))) := fun G1 H1 e k hm w Q => by
  obtain ⟨x0, hx0, hm⟩ := bind_some hm
  obtain ⟨x1, hx1, hm⟩ := bind_some hm
  obtain ⟨x2, hx2, hm⟩ := bind_some hm
  obtain ⟨x3, hx3, hm⟩ := bind_some hm
  obtain ⟨x4, hx4, hm⟩ := bind_some hm
  have hm := errE_some hm
  refine h0 _ _ e x0 hx0 _ fun v0 G2 H2 e0 r0 => ?_
  refine h1 _ _ (e.trans e0) x1 hx1 _ fun v1 G3 H3 e1 r1 => ?_
  refine h2 _ _ ((e.trans e0).trans e1) x2 hx2 _ fun v2 G4 H4 e2 r2 => ?_
  refine h3 _ _ (((e.trans e0).trans e1).trans e2) x3 hx3 _ fun v3 G5 H5 e3 r3 => ?_
  refine h4 _ _ ((((e.trans e0).trans e1).trans e2).trans e3) x4 hx4 _ fun v4 G6 H6 e4 r4 => ?_
  refine ⟨_, v0, v1, v2, v3, v4, x0, x1, x2, x3, x4, .er k, rfl, e4.s, (Rp.mono e4.g (Rp.mono e3.g (Rp.mono e2.g (Rp.mono e1.g r0)))), (Rp.mono e4.g (Rp.mono e3.g (Rp.mono e2.g r1))), (Rp.mono e4.g (Rp.mono e3.g r2)), (Rp.mono e4.g r3), r4, hm, fun u G' H' eu hu => ?_⟩
  cases u with
  | inl u => exact False.elim hu
  | inr j =>
    cases (show j = k from hu)
    exact w G' H' (((((e0.trans e1).trans e2).trans e3).trans e4).trans eu)
theorem sr_callX5p {α0 : Type} [Rp α0] {α1 : Type} [Rp α1] {α2 : Type} [Rp α2] {α3 : Type} [Rp α3] {α4 : Type} [Rp α4] {ρ : Type} {K : PySem.W.Frag} {adr : Err → Addr} {RR : Hp → Hp → Hp → V → ρ → Prop} {σ : St} {G H : Hp} {t0 t1 t2 t3 t4 : TE} {x0 : α0} {x1 : α1} {x2 : α2} {x3 : α3} {x4 : α4} {f : α0 → α1 → α2 → α3 → α4 → Option (Rz ρ)} {W : WX} (h0 : SE K t0 σ G H (some x0)) (h1 : SE K t1 σ G H (some x1)) (h2 : SE K t2 σ G H (some x2)) (h3 : SE K t3 σ G H (some x3)) (h4 : SE K t4 σ G H (some x4)) : SER adr W (tCallS (SpX5 K adr RR f) (fun σ => WE W σ) (tCons t0 (tCons t1 (tCons t2 (tCons t3 (tCons t4 tNil)))))) σ G H (errE (f x0 x1 x2 x3 x4)) := sr_callX5 h0 h1 h2 h3 h4
end Mi

/-! MiV: a < b < c < d; two items that change places; lists read for a time. -/
namespace Mi
variable [Tbs]
open PySem L2
open Rp (rep)
/-! ### a op b op c op d -/
def tChain3 (r r' r'' : R2) (ta tb tc td : TE) : TE := fun σ H Q => ta σ H fun x H1 => tb σ H1 fun y H2 => r x y H2 fun z H3 => ∃ k, z = .bl k ∧
  (if k = true then tc σ H3 fun w H4 => r' y w H4 fun z' H5 => ∃ k', z' = .bl k' ∧ (if k' = true then td σ H5 fun u H6 => r'' w u H6 Q else Q (.bl false) H5) else Q (.bl false) H3)
open PyProof.Rows in
theorem pe_chain3 {X : Cx} {a b c d : Expr} {pos : Pos} {ta tb tc td : TE} {op op' op'' : CmpOp} {r r' r'' : R2} (ho : OpR X (compareOp op) r) (ho' : OpR X (compareOp op') r') (ho'' : OpR X (compareOp op'') r'') (ha : PE X a ta) (hb : PE X b tb) (hc : PE X c tc) (hd : PE X d td)
    (hm : lastMarks [op, op', op''] [b, c, d] = false := by with_unfolding_all rfl) : PE X (.Compare a [op, op', op''] [b, c, d] pos) (tChain3 r r' r'' ta tb tc td) := by
  refine ⟨fun pins s σ H Q I h => ?_⟩
  refine Compare_chain (thn (ha.run pins s σ H _ I h) fun v s1 ⟨x, H1, I1, r1, q1⟩ => chain_link (thn (hb.run pins s1 σ H1 _ I1 q1) fun u s2 ⟨y, H2, I2, r2, q2⟩ =>
    thn (ho pins s2 σ H2 x y v u _ I2 r1 r2 q2) fun d s3 ⟨z, H3, I3, r3, k, e, q3⟩ => ?_)) hm
  subst e
  cases r3
  refine wpAny_truthy_bool ?_
  cases k with
  | false => exact ite_ff ⟨.bl false, H3, I3, rfl, q3⟩
  | true =>
    refine ite_tt (chain_link (thn (hc.run pins s3 σ H3 _ I3 q3) fun w' s4 ⟨z', H4, I4, r4, q4⟩ => thn (ho' pins s4 σ H4 y z' u w' _ I4 r2 r4 q4) fun d2 s5 ⟨z2, H5, I5, r5, k2, e2, q5⟩ => ?_))
    subst e2
    cases r5
    refine wpAny_truthy_bool ?_
    cases k2 with
    | false => exact ite_ff ⟨.bl false, H5, I5, rfl, q5⟩
    | true => exact ite_tt (chain_last (thn (hd.run pins s5 σ H5 _ I5 q5) fun w2 s6 ⟨z3, H6, I6, r6, q6⟩ => ho'' pins s6 σ H6 z' z3 w' w2 Q I6 r4 r6 q6))
open PyProof.Rows in
theorem pt_chain3 {X : Cx} {a b c d : Expr} {pos : Pos} {ta tb tc td : TE} {op op' op'' : CmpOp} {r r' r'' : R2} (ho : OpR X (compareOp op) r) (ho' : OpR X (compareOp op') r') (ho'' : OpR X (compareOp op'') r'') (ha : PE X a ta) (hb : PE X b tb) (hc : PE X c tc) (hd : PE X d td)
    (hm : lastMarks [op, op', op''] [b, c, d] = false := by with_unfolding_all rfl) : PT X (.Compare a [op, op', op''] [b, c, d] pos) (tTest (tChain3 r r' r'' ta tb tc td)) := by
  refine ⟨fun pins s σ H Q I h => ?_⟩
  refine isTrue_chain (thn (ha.run pins s σ H _ I h) fun v s1 ⟨x, H1, I1, r1, q1⟩ => test_link (thn (hb.run pins s1 σ H1 _ I1 q1) fun u s2 ⟨y, H2, I2, r2, q2⟩ =>
    thn (ho pins s2 σ H2 x y v u _ I2 r1 r2 q2) fun d s3 ⟨z, H3, I3, r3, k, e, q3⟩ => ?_)) hm
  subst e
  cases r3
  refine wpAny_truthy_bool ?_
  cases k with
  | false =>
    obtain ⟨k', e', q'⟩ := q3
    cases e'
    exact ite_ff ⟨H3, I3, q'⟩
  | true =>
    refine ite_tt (test_link (thn (hc.run pins s3 σ H3 _ I3 q3) fun w' s4 ⟨z', H4, I4, r4, q4⟩ => thn (ho' pins s4 σ H4 y z' u w' _ I4 r2 r4 q4) fun d2 s5 ⟨z2, H5, I5, r5, k2, e2, q5⟩ => ?_))
    subst e2
    cases r5
    refine wpAny_truthy_bool ?_
    cases k2 with
    | false =>
      obtain ⟨k', e', q'⟩ := q5
      cases e'
      exact ite_ff ⟨H5, I5, q'⟩
    | true =>
      refine ite_tt (test_last (thn (hd.run pins s5 σ H5 _ I5 q5) fun w2 s6 ⟨z3, H6, I6, r6, q6⟩ => thn (ho'' pins s6 σ H6 z' z3 w' w2 _ I6 r4 r6 q6) fun d3 s7 ⟨z4, H7, I7, r7, k3, e3, q7⟩ => ?_))
      subst e3
      cases r7
      exact wpAny_truthy_bool ⟨H7, I7, q7⟩
section
variable {α β γ δ : Type} [Rp α] [Rp β] [Rp γ] [Rp δ] {K : PySem.W.Frag} {σ : St} {G H : Hp} {ta tb tc td te : TE}
theorem se_chain3 {r r' r'' : R2} {ma : Option α} {mb : Option β} {mc : Option γ} {md : Option δ} {f : α → β → Option Bool} {g : β → γ → Option Bool} {h : γ → δ → Option Bool} (ha : SE K ta σ G H ma) (hb : SE K tb σ G H mb) (hc : SE K tc σ G H mc) (hd : SE K td σ G H md)
    (hr : RO K r f) (hr' : RO K r' g) (hr'' : RO K r'' h) :
    SE K (tChain3 r r' r'' ta tb tc td) σ G H (ma.bind fun x => mb.bind fun y => (f x y).bind fun k => cond k (mc.bind fun z => (g y z).bind fun k => cond k (md.bind fun u => h z u) (some false)) (some false)) := fun G1 H1 e z hm Q q => by
  obtain ⟨x, hx, hm⟩ := bind_some hm
  obtain ⟨y, hy, hm⟩ := bind_some hm
  obtain ⟨k, hk, hm⟩ := bind_some hm
  refine ha G1 H1 e x hx _ fun v G2 H2 e2 hv => ?_
  refine hb G2 H2 (e.trans e2) y hy _ fun w G3 H3 e3 hw => ?_
  refine hr e3.s (Rp.mono e3.g hv) hw hk _ fun u G4 H4 e4 hu => ⟨k, hu, ?_⟩
  cases k with
  | false =>
    cases hm
    exact q _ G4 H4 ((e2.trans e3).trans e4) rfl
  | true =>
    obtain ⟨c, hc2, hm⟩ := bind_some hm
    obtain ⟨k, hk, hm⟩ := bind_some hm
    show tc σ H4 _
    refine hc G4 H4 (((e.trans e2).trans e3).trans e4) c hc2 _ fun w' G5 H5 e5 hw' => ?_
    refine hr' e5.s (Rp.mono (e4.trans e5).g hw) hw' hk _ fun u G6 H6 e6 hu => ⟨k, hu, ?_⟩
    cases k with
    | false =>
      cases hm
      exact q _ G6 H6 ((((e2.trans e3).trans e4).trans e5).trans e6) rfl
    | true =>
      obtain ⟨d, hd2, hm⟩ := bind_some hm
      show td σ H6 _
      refine hd G6 H6 (((((e.trans e2).trans e3).trans e4).trans e5).trans e6) d hd2 _ fun w2 G7 H7 e7 hw2 => ?_
      exact hr'' e7.s (Rp.mono (e6.trans e7).g hw') hw2 hm Q fun u G8 H8 e8 hu => q u G8 H8 ((((((e2.trans e3).trans e4).trans e5).trans e6).trans e7).trans e8) hu
theorem se_chain3p {r r' r'' : R2} {x : α} {y : β} {z : γ} {u : δ} {f : α → β → Bool} {g : β → γ → Bool} {h : γ → δ → Bool} (ha : SE K ta σ G H (some x)) (hb : SE K tb σ G H (some y)) (hc : SE K tc σ G H (some z)) (hd : SE K td σ G H (some u))
    (hr : RO K r fun x y => some (f x y)) (hr' : RO K r' fun x y => some (g x y)) (hr'' : RO K r'' fun x y => some (h x y)) :
    SE K (tChain3 r r' r'' ta tb tc td) σ G H (some (f x y && (g y z && h z u))) := (se_chain3 ha hb hc hd hr hr' hr'').is (by
  show cond (f x y) (cond (g y z) (some (h z u)) (some false)) (some false) = _
  cases f x y <;> cases g y z <;> rfl)
end
/-! ### xs[k], xs[i] = xs[i], xs[k], the list one's own -/
section
variable {α ρ : Type} [Rp α] {K : PySem.W.Frag} {σ : St} {G H H0 : Hp} {ti tk : TE} {D : Ends} {out : ρ} {s : Nat}
theorem setO_in {p : Addr} {ds es : List α} {k : Int} {x : α} {v : V} (o : Own K H0 G H p ds) (he : setO ds k x = some es) (hv : rep K G v x) :
    ∃ vs j, H p = some (.lst vs) ∧ ixN vs.length k = some j ∧ Own K H0 G (upd H p (.lst (vs.set j v))) p es := by
  obtain ⟨vs, h1, l1, rs⟩ := o.h
  have hl := rs.len
  unfold setO at he
  split at he
  · rename_i hc
    cases he
    refine ⟨vs, k.toNat, h1, ?_, o.z, o.g, _, upd_same, by rw [List.length_set]; exact l1, rs.set _ hv⟩
    unfold ixN
    rw [if_pos hc.1, if_pos (by omega)]
  · split at he
    · rename_i hc
      cases he
      refine ⟨vs, (k + vs.length).toNat, h1, ?_, ?_⟩
      · unfold ixN
        rw [if_neg (by omega), if_pos (by omega)]
      · rw [show (vs.length : Int) = ds.length by rw [hl]]
        exact ⟨o.z, o.g, _, upd_same, by rw [List.length_set]; exact l1, rs.set _ hv⟩
    · cases he
/-- a name or a number, at any heap -/
def te_ok (te : TE) (σ : St) (H1 : Hp) (i : Int) : Prop := ∀ Q : VK, Q (.int i) H1 → te σ H1 Q
theorem te_var {i : Nat} {d : Int} (h : σ[i]? = some (some (V.int d))) (H1 : Hp) : te_ok (tVar i) σ H1 d := fun _ q => ⟨_, h, q⟩
theorem te_c {d : Int} (H1 : Hp) : te_ok (tC (.int d)) σ H1 d := fun _ q => q
theorem te_se {d : Int} {te : TE} (h : ∀ H1, te_ok te σ H1 d) : SE K te σ G H (some d) := fun G1 H1 e r hm Q q => by
  cases hm
  exact h H1 Q (q _ G1 H1 (Ext.refl e.s) rfl)
theorem te_of {i : Nat} {m : Option Int} {d : Int} (hs : Vw G H) (h : SE K (tVar i) σ G H m) (e : m = some d) (H1 : Hp) : te_ok (tVar i) σ H1 d := by
  obtain ⟨v, h1, h2⟩ := h G H (Ext.refl hs) d e (fun v _ => v = V.int d) fun v G2 H2 _ hv => hv
  intro Q q
  exact ⟨v, h1, by rw [h2]; exact q⟩
theorem te_c1 {c d : Int} (e : some c = some d) (H1 : Hp) : te_ok (tC (.int c)) σ H1 d := fun _ q => by
  cases e
  exact q
theorem st_swap {p : Addr} {ds : List α} {mi mk : Option Int} {kk : List α → Option ρ} (hs : Vw G H) (hv : σ[s]? = some (some (.ref p))) (o : Own K H0 G H p ds) (si : ∀ d, mi = some d → ∀ H1, te_ok ti σ H1 d) (sk : ∀ d, mk = some d → ∀ H1, te_ok tk σ H1 d)
    (hm : (mi.bind fun i => mk.bind fun k => (ixO ds i).bind fun x => (ixO ds k).bind fun y => (setO ds k x).bind fun es => (setO es i y).bind kk) = some out)
    (kont : ∀ es h G1 H1, Ext G H G1 H1 → Own K H0 G1 (upd H1 p h) p es → G1 p = none → kk es = some out → D.nx σ (upd H1 p h)) :
    tAsg (tTup (tCons (tOp (rIxL K) (tVar s) ti) (tCons (tOp (rIxL K) (tVar s) tk) tNil))) (gTup K 2 (gCons (gSub (tVar s) tk L2.rSetL) (gCons (gSub (tVar s) ti L2.rSetL) gNil))) D σ H := by
  obtain ⟨i, hi, hm⟩ := bind_some hm
  obtain ⟨k, hk, hm⟩ := bind_some hm
  have si := si i hi
  have sk := sk k hk
  obtain ⟨x, hx, hm⟩ := bind_some hm
  obtain ⟨y, hy, hm⟩ := bind_some hm
  obtain ⟨es, he, hm⟩ := bind_some hm
  obtain ⟨fs, hf, hm⟩ := bind_some hm
  have s1 : SE K (tOp (rIxL K) (tVar s) ti) σ G H (some x) := (se_own_ixp hv o (te_se si)).is hx
  have s2 : SE K (tOp (rIxL K) (tVar s) tk) σ G H (some y) := (se_own_ixp hv o (te_se sk)).is hy
  refine se_tup2p s1 s2 G H (Ext.refl hs) _ rfl _ fun v G1 H1 e1 hw => ?_
  obtain ⟨a, v1, v2, ea, ha, r1, r2⟩ := hw
  have o1 := o.mono e1
  obtain ⟨vs, j, h1, h2, o2⟩ := setO_in o1 he r1
  refine ⟨a, [v1, v2], ea, same_tup e1.s.s ha, rfl, v1, [v2], rfl, ⟨.ref p, hv, sk _ _ ⟨p, vs, k, j, rfl, rfl, h1, h2, ?_⟩⟩⟩
  obtain ⟨ws, l, h3, h4, o3⟩ := setO_in o2 hf r2
  refine ⟨v2, [], rfl, ⟨.ref p, hv, si _ _ ⟨p, ws, i, l, rfl, rfl, h3, h4, ?_⟩⟩⟩
  rw [upd_upd] at o3 ⊢
  exact ⟨rfl, kont _ _ G1 H1 e1 o3 o1.g hm⟩
end
/-! ### values without a list in them -/
class NL (α : Type) [Rp α] : Prop where
  nl : ∀ {K : PySem.W.Frag} {G : Hp} {p : Addr} {vs : List V} {v : V} {d : α}, rep K (upd G p (.lst vs)) v d → rep K G v d
theorem nl_tup {K : PySem.W.Frag} {G : Hp} {p a : Addr} {vs xs : List V} (h : SqT K (upd G p (.lst vs)) a xs) : SqT K G a xs := by
  rcases h with (h | ⟨o, h⟩) | h
  · by_cases e : a = p
    · subst e
      rw [upd_same] at h
      cases h
    · rw [upd_ne e] at h
      exact .inl (.inl h)
  · by_cases e : a = p
    · subst e
      rw [upd_same] at h
      cases h
    · rw [upd_ne e] at h
      exact .inl (.inr ⟨o, h⟩)
  · exact .inr h
instance : NL Int := ⟨fun h => h⟩
instance : NL Bool := ⟨fun h => h⟩
instance : NL Unit := ⟨fun h => h⟩
instance : NL Str := ⟨fun h => h⟩
instance : NL Tg := ⟨fun h => h⟩
instance {α : Type} [Rp α] [NL α] : NL (Option α) := ⟨fun {_ _ _ _ _ d} h => by
  cases d with
  | none => exact h
  | some x => exact ⟨NL.nl h.1, h.2⟩⟩
instance {α β : Type} [Rp α] [Rp β] [NL α] [NL β] : NL (α × β) := ⟨fun ⟨a, x, y, e, h, h1, h2⟩ => ⟨a, x, y, e, nl_tup h, NL.nl h1, NL.nl h2⟩⟩
instance {α β γ : Type} [Rp α] [Rp β] [Rp γ] [NL α] [NL β] [NL γ] : NL (T3 α β γ) := ⟨fun ⟨a, x, y, z, e, h, h1, h2, h3⟩ => ⟨a, x, y, z, e, nl_tup h, NL.nl h1, NL.nl h2, NL.nl h3⟩⟩
instance {α β γ δ : Type} [Rp α] [Rp β] [Rp γ] [Rp δ] [NL α] [NL β] [NL γ] [NL δ] : NL (T4 α β γ δ) := ⟨fun ⟨a, x, y, z, u, e, h, h1, h2, h3, h4⟩ => ⟨a, x, y, z, u, e, nl_tup h, NL.nl h1, NL.nl h2, NL.nl h3, NL.nl h4⟩⟩
theorem nl_reps {α : Type} [Rp α] [NL α] {K : PySem.W.Frag} {G : Hp} {p : Addr} {us : List V} : ∀ {vs : List V} {ds : List α}, Reps K (upd G p (.lst us)) vs ds → Reps K G vs ds
  | _, _, .nil => .nil
  | _, _, .cons r t => .cons (NL.nl r) (nl_reps t)
section
variable {α β : Type} [Rp α] [Rp β] {K : PySem.W.Frag} {σ : St} {G H H0 : Hp} {te : TE} {p : Addr}
theorem ext_tmp {G1 H1 : Hp} {vs : List V} (e : Ext G H G1 H1) (g : G p = none) (hp : H p = some (.lst vs)) (g1 : G1 p = none) : Ext (upd G p (.lst vs)) H (upd G1 p (.lst vs)) H1 := by
  exact ext_up e (e.h.k _ _ hp)
/-- p is forgotten -/
def hpDel (G : Hp) (p : Addr) : Hp := fun b => if b = p then none else G b
theorem hpDel_same {G : Hp} : hpDel G p p = none := if_pos rfl
theorem hpDel_ne {G : Hp} {b : Addr} (h : b ≠ p) : hpDel G p b = G b := if_neg h
theorem hpDel_upd {G : Hp} {o : HO} (h : G p = some o) : upd (hpDel G p) p o = G := by
  funext b
  by_cases e : b = p
  · subst e
    rw [upd_same, h]
  · rw [upd_ne e, hpDel_ne e]
theorem vw_del {G H : Hp} (s : Vw G H) : Vw (hpDel G p) H := s.less fun b u e => by
  by_cases h : b = p
  · subst h
    rw [hpDel_same] at e
    cases e
  · rw [hpDel_ne h] at e
    exact e
theorem ext_del {G1 H1 G2 H2 : Hp} {vs : List V} (e2 : Ext (upd G1 p (.lst vs)) H1 G2 H2) (g1 : G1 p = none) : G2 p = some (.lst vs) ∧ Ext G1 H1 (hpDel G2 p) H2 := by
  refine ⟨e2.g _ _ upd_same, fun b u eb => ?_, vw_del e2.s, e2.h, fun b hb => ?_⟩
  · have hne : b ≠ p := fun h => by
      subst h
      rw [g1] at eb
      cases eb
    rw [hpDel_ne hne]
    exact e2.g _ _ (by rw [upd_ne hne]; exact eb)
  · by_cases h : b = p
    · subst h
      rw [hpDel_same, g1]
    · rw [hpDel_ne h, e2.a b hb, upd_ne h]
theorem se_tmpL [NL β] {d : List α} {mb : Option β} (o : Own K H0 G H p d) (h : ∀ vs, Same G (upd G p (.lst vs)) → rep K (upd G p (.lst vs)) (.ref p) d → SE K te σ (upd G p (.lst vs)) H mb) : SE K te σ G H mb := fun G1 H1 e r hm Q q => by
  obtain ⟨vs, hp, l, rs⟩ := o.h
  have o1 := o.mono e
  have s0 := h vs (same_new o.g) ⟨p, vs, rfl, upd_same, l, rs.mono (same_new o.g)⟩
  refine s0 _ _ (ext_tmp e o.g hp o1.g) r hm Q fun v G2 H2 e2 x => ?_
  obtain ⟨h2, e3⟩ := ext_del e2 o1.g
  exact q v _ H2 e3 (NL.nl (p := p) (vs := vs) (by rw [hpDel_upd h2]; exact x))
theorem fe_tmpL [NL β] {d : List α} {mb : Option (List β)} (o : Own K H0 G H p d) (h : ∀ vs, Same G (upd G p (.lst vs)) → rep K (upd G p (.lst vs)) (.ref p) d → FE K te σ (upd G p (.lst vs)) H mb) : FE K te σ G H mb := fun G1 H1 e r hm Q q => by
  obtain ⟨vs, hp, l, rs⟩ := o.h
  have o1 := o.mono e
  have hp1 : H1 p = some (.lst vs) := e.h.k _ _ hp
  have s0 := h vs (same_new o.g) ⟨p, vs, rfl, upd_same, l, rs.mono (same_new o.g)⟩
  refine s0 _ _ (ext_tmp e o.g hp o1.g) r hm Q fun p2 G2 H2 e2 x => ?_
  obtain ⟨h2, e3⟩ := ext_del e2 o1.g
  obtain ⟨ws, w1, w2, w3⟩ := x.h
  have hne : p2 ≠ p := fun hh => by
    have z := x.z
    rw [hh, hp1] at z
    cases z
  exact q p2 _ H2 e3 ⟨x.z, by rw [hpDel_ne hne]; exact x.g, ws, w1, w2, nl_reps (p := p) (us := vs) (by rw [hpDel_upd h2]; exact w3)⟩
end
/-! ### a loop over a list of one's own, which is changed later -/
section
variable {α ρ S R : Type} [Rp α] {K : PySem.W.Frag} {σ : St} {G H H0 Gs : Hp} {D : Ends} {out : ρ} {i : Nat} {p : Addr} {vs : List V} {g : TG} {t : TS}
structure ItOkO (K : PySem.W.Frag) (J : It) (Gs : Hp) (p : Addr) (vs : List V) (xs : List α) : Prop where
  stop : ∀ i G H, Same Gs G → Vw G H → H p = some (.lst vs) → xs.length ≤ i → J.stop i H
  go : ∀ i x G H, Same Gs G → Vw G H → H p = some (.lst vs) → xs[i]? = some x → J.go i H ∧ ∀ v H', J.yld i H v H' → ∃ G', Ext G H G' H' ∧ rep K G' v x
theorem st_forO {ds : List α} {k : List α → Option ρ} (hv : σ[i]? = some (some (.ref p))) (hs : Vw G H) (o : Own K H0 G H p ds) (hm : (some ds).bind k = some out)
    (kont : ∀ J vs G1 H1, Ext G H G1 H1 → H1 p = some (.lst vs) → ItOkO K J G1 p vs ds → k ds = some out → LG J g t D σ H1) : tFor (iList K (tVar i)) g t D σ H := by
  obtain ⟨vs, ha, l, rs⟩ := o.h
  refine ⟨.ref p, hv, p, rfl, ⟨vs, SqL.of ha⟩, kont _ vs G H (Ext.refl hs) ha ⟨fun i G H s1 s2 h hi => ⟨vs, SqL.of h, by rw [rs.len]; exact hi⟩, fun i x G H s1 s2 h hi => ?_⟩ hm⟩
  obtain ⟨w, h1, h2⟩ := rs.get hi
  have hS := SqL.of (K := K) h
  refine ⟨⟨vs, w, hS, h1⟩, fun u H' ⟨e1, hy⟩ => ?_⟩
  subst e1
  have eu := hy vs hS
  rw [h1] at eu
  cases eu
  exact ⟨G, Ext.refl s2, Rp.mono s1 h2⟩
theorem lg_NO {J : It} {xs : List α} {b : S → α → Option S} {s s' : S} (Rel : S → St → Hp → Hp → Prop) (it : ItOkO K J Gs p vs xs) (hm : forN b xs s = some s') (h0 : Rel s σ Gs H) (hg : ∀ s σ G H, Rel s σ G H → Same Gs G ∧ Vw G H ∧ H p = some (.lst vs))
    (hb : ∀ s x f v σ G H G1 H1 N, x ∈ xs → Rel s σ G H → Ext G H G1 H1 → rep K G1 v x → b s x = some f → (∀ σ' G' H', Rel f σ' G' H' → N σ' H') → g v σ H1 fun σ2 H2 => t { D with nx := N, ct := N, bk := D.nx } σ2 H2)
    (hd : ∀ σ G H, Rel s' σ G H → D.nx σ H) : LG J g t D σ H := by
  refine ⟨fun i m σ H => ∃ s G, Rel s σ G H ∧ forN b (xs.drop i) s = some s' ∧ m = xs.length - i, ⟨xs.length, s, Gs, h0, hm, rfl⟩, fun i m σ H ⟨s, G, hR, hn, em⟩ => ?_⟩
  obtain ⟨g1, g2, g3⟩ := hg _ _ _ _ hR
  by_cases hi : i < xs.length
  · right
    have hx : xs[i]? = some xs[i] := List.getElem?_eq_getElem hi
    obtain ⟨go, yl⟩ := it.go i _ G H g1 g2 g3 hx
    rw [List.drop_eq_getElem_cons hi] at hn
    obtain ⟨s2, h3, h4⟩ := bind_some (show (b s xs[i]).bind _ = some s' from hn)
    refine ⟨go, fun σ' H' => ∃ G', Rel s2 σ' G' H', fun σ' H' ⟨G', hR'⟩ => ⟨m - 1, by omega, s2, G', hR', h4, by omega⟩, fun v H' hy => ?_⟩
    obtain ⟨G1, e1, hv⟩ := yl v H' hy
    exact hb s xs[i] s2 v σ G H G1 H' _ (List.getElem_mem hi) hR e1 hv h3 fun σ' G' H' hR' => ⟨G', hR'⟩
  · left
    rw [List.drop_eq_nil_of_le (by omega)] at hn
    cases hn
    exact ⟨it.stop i G H g1 g2 g3 (by omega), hd σ G H hR⟩
theorem lg_RO {J : It} {xs : List α} {b : S → α → Option (Fl S R)} {s : S} {o : Sum S R} (Rel : S → St → Hp → Hp → Prop) (it : ItOkO K J Gs p vs xs) (hm : forR b xs s = some o) (h0 : Rel s σ Gs H) (hg : ∀ s σ G H, Rel s σ G H → Same Gs G ∧ Vw G H ∧ H p = some (.lst vs))
    (hb : ∀ s x f v σ G H G1 H1 N, x ∈ xs → Rel s σ G H → Ext G H G1 H1 → rep K G1 v x → b s x = some f → (∀ s' σ' G' H', f = .nx s' → Rel s' σ' G' H' → N σ' H') → (∀ s', f = .ex s' → o = .inl s') → (∀ x, f = .rt x → o = .inr x) → g v σ H1 fun σ2 H2 => t { D with nx := N, ct := N, bk := D.nx } σ2 H2)
    (hd : ∀ s' σ G H, o = .inl s' → Rel s' σ G H → D.nx σ H) : LG J g t D σ H := by
  refine ⟨fun i m σ H => ∃ s G, Rel s σ G H ∧ forR b (xs.drop i) s = some o ∧ m = xs.length - i, ⟨xs.length, s, Gs, h0, hm, rfl⟩, fun i m σ H ⟨s, G, hR, hn, em⟩ => ?_⟩
  obtain ⟨g1, g2, g3⟩ := hg _ _ _ _ hR
  by_cases hi : i < xs.length
  · right
    have hx : xs[i]? = some xs[i] := List.getElem?_eq_getElem hi
    obtain ⟨go, yl⟩ := it.go i _ G H g1 g2 g3 hx
    rw [List.drop_eq_getElem_cons hi] at hn
    obtain ⟨f, h3, h4⟩ := bind_some (show (b s xs[i]).bind _ = some o from hn)
    refine ⟨go, fun σ' H' => ∃ s2 G', f = .nx s2 ∧ Rel s2 σ' G' H', fun σ' H' ⟨s2, G', ef, hR'⟩ => ⟨m - 1, by omega, s2, G', hR', ?_, by omega⟩, fun v H' hy => ?_⟩
    · subst ef
      exact h4
    · obtain ⟨G1, e1, hv⟩ := yl v H' hy
      refine hb s xs[i] f v σ G H G1 H' _ (List.getElem_mem hi) hR e1 hv h3 (fun s2 σ' G' H' ef hR' => ⟨s2, G', ef, hR'⟩) (fun s2 ef => ?_) (fun x ef => ?_)
      · subst ef
        exact (Option.some.inj h4).symm
      · subst ef
        exact (Option.some.inj h4).symm
  · left
    rw [List.drop_eq_nil_of_le (by omega)] at hn
    cases hn
    exact ⟨it.stop i G H g1 g2 g3 (by omega), hd s σ G H rfl hR⟩
end
end Mi

/-! MiF: list(reversed(a list)); a loop backwards over a list. -/
namespace Mi
variable [Tbs]
open PySem PySem.Spec PyProof.Rows RT
section
variable {prog : Program} {w : World} {A : Around} {E : Value → Shared → Prop} {s : Shared} {it l S : Addr} {items : Array Value}
/-- a list takes all of an iterator that walks back over a list -/
theorem takes_back {res : Value} {R : Result → Shared → Prop} (quiet0 : A.handled = none) (walker : s.heap.IsRevIter it l ((items.size : Int) - 1)) (given : s.heap.IsList l items) (la : l ≠ it) (sa : S ≠ it) (sl : S ≠ l) (room : items.size ≤ sizeLine)
    (empty : s.heap.get? S = some { cls := .type "list", data := .seq #[] })
    (hR : ∀ (h' : Heap) (tk : Nat) (acc : Array Value) (c' : Nat), (∀ b o, b ≠ it → b ≠ S → s.heap.get? b = some o → h'.get? b = some o) → h'.get? S = some { cls := .type "list", dict := none, data := .seq acc c', slots := #[] } →
      ItemsOf (fun i v => items[items.size - 1 - i]? = some v) acc items.size → R (.ok (.ret res)) { s with heap := h', toks := tk }) :
    wpAny (model prog w) A.in1 (Builtin.List.listExtendWith (.ref S) (.ref it) res)
      (fun fin s' => match fin with | .done f => R (.ok f) s' | .again c' => c'.quiet = true ∧ codeAny (model prog w) A c' R s') (fun e s' => R (.error e) s') s := by
  have W := (Walks.listRev (prog := prog) (w := w) (A := A.in1) quiet0 it l la items).toS
  have apart : S ∉ [it, l] := by
    intro z
    rcases List.mem_cons.mp z with z | z
    · exact sa z
    · exact sl (List.mem_singleton.mp z)
  have ty : s.TypeIs (.ref it) "list_reverseiterator" := walker.typeIs
  have other : Builtin.List.listSameRef (.ref S) (.ref it) = false := by simp [Builtin.List.listSameRef, sa]
  have start : ((items.size : Nat) : Int) - 1 - ((0 : Nat) : Int) = (items.size : Int) - 1 := by omega
  unfold Builtin.List.listExtendWith
  refine wpAny_bind (wpAny_typeOf ty ?_); rw [if_neg (by rw [other]; decide)]
  refine wpAny_bind (wpAny_pyIter_revIter walker (wpAny_bind (wpAny_holding ?_)))
  unfold Builtin.List.listLengthHint; refine wpAny_bind (wpAny_specialOf ty nolen_lri ?_)
  show wpAny _ A.in1 (specialOf (.ref it) (Str.ofString "__length_hint__") >>= _) _ _ _
  refine wpAny_bind (wpAny_specialOf ty hint_lri ?_)
  generalize eid : ("list_reverseiterator.__length_hint__" : String) = nm
  wp_delta
  rw [show splitId nm = some ("list_reverseiterator", "__length_hint__") from by (subst eid; decide +kernel)]; subst eid
  refine wpAny_bind (wpAny_isInstance (b := true) ty (by rw [isSubtype_type] <;> kernel_rfl) (wpAny_pure ?_))
  rw [if_neg (show ¬ _ by decide)]
  refine wpAny_pure ⟨plainId_quiet F.plain_extend_loop _, codeAny_extend_loopS W room S apart res items.size 0 _ _ _ rfl (Nat.zero_le _) ⟨Nat.zero_le _, by rw [start]; exact walker, given⟩ empty (ItemsOf.nil _) fun s' acc c' moved got all => ?_⟩
  rw [Moved.eq_with moved] at got ⊢
  refine hR s'.heap s'.toks acc c' (fun b o n1 n2 e => moved.heap b o (fun hmem => ?_) e) got all
  rcases List.mem_cons.mp hmem with z | z
  · exact n2 z
  · exact n1 (List.mem_singleton.mp z)
theorem list_back {Q : Value → Shared → Prop} (quiet0 : A.handled = none) (walker : s.heap.IsRevIter it l ((items.size : Int) - 1)) (given : s.heap.IsList l items) (la : l ≠ it) (room : items.size ≤ sizeLine)
    (hQ : ∀ (h' : Heap) (tk : Nat) (acc : Array Value) (c' : Nat), (∀ b o, b ≠ it → s.heap.get? b = some o → h'.get? b = some o) → h'.get? s.heap.objs.size = some { cls := .type "list", dict := none, data := .seq acc c', slots := #[] } →
      ItemsOf (fun i v => items[items.size - 1 - i]? = some v) acc items.size → Q (.ref s.heap.objs.size) { s with heap := h', toks := tk }) :
    wpAny (model prog w) A (call (.type "list") [.ref it]) Q E s := by
  obtain ⟨oi, ei, _⟩ := id walker
  obtain ⟨ol, el, _⟩ := id given
  have ni : s.heap.objs.size ≠ it := Nat.ne_of_gt (Heap.lt_size ei)
  have nl : s.heap.objs.size ≠ l := Nat.ne_of_gt (Heap.lt_size el)
  refine callType_codes (Q₁ := fun x t => x = .ref s.heap.objs.size ∧ t = { s with heap := s.heap.push { cls := .type "list", data := .seq #[] } }) F.called_list (F.typeCall_list_1 _) F.entry_list_init (code_list_new _ ⟨rfl, rfl⟩) fun x t ⟨ex, et⟩ => ?_
  subst ex et
  have here : (s.heap.push { cls := .type "list", data := .seq #[] }).get? s.heap.objs.size = some { cls := .type "list", data := .seq #[] } := Heap.get?_push_size _ rfl
  have keep : ∀ b o, s.heap.get? b = some o → (s.heap.push { cls := .type "list", data := .seq #[] }).get? b = some o := fun b o e => Heap.get?_push_of_some _ e
  refine ⟨⟨_, here, rfl⟩, F.args_list_init_2 _ _, ?_⟩
  show wpAny _ A.in1.in1 (do let old ← Builtin.List.listItems (.ref s.heap.objs.size); Builtin.List.listUpdate (.ref s.heap.objs.size) (fun _ => #[]); letGo old.toList.reverse; Builtin.List.listExtendWith (.ref s.heap.objs.size) (.ref it) .none) _ _ _
  refine wpAny_bind ?_
  unfold Builtin.List.listItems; refine wpAny_bind (wpAny_seqItems here rfl (wpAny_pure ?_))
  show wpAny _ A.in1.in1 (updateSeq s.heap.objs.size (fun _ => #[]) >>= fun _ => letGo (#[] : Array Value).toList.reverse >>= fun _ => Builtin.List.listExtendWith (.ref s.heap.objs.size) (.ref it) .none) _ _ _
  refine wpAny_bind (wpAny_updateSeq here rfl (wpAny_bind (wpAny_letGo ?_)))
  have here2 := Heap.get?_update_self (Obj.mapSeq (fun _ => (#[] : Array Value))) here rfl
  have keep2 : ∀ b o, b ≠ s.heap.objs.size → s.heap.get? b = some o → ((s.heap.push { cls := .type "list", data := .seq #[] }).update s.heap.objs.size (Obj.mapSeq (fun _ => (#[] : Array Value)))).get? b = some o := fun b o n e => (Heap.get?_update_other _ _ (Ne.symm n)).trans (keep b o e)
  refine takes_back (A := A.in1) (it := it) (l := l) (items := items) quiet0 (walker.at fun o e => keep2 it o (Ne.symm ni) e) (given.at fun o e => keep2 l o (Ne.symm nl) e) la ni nl room here2 fun h' tk acc c' hk got all => ?_
  exact ⟨rfl, hQ h' tk acc c' (fun b o n e => hk b o n (Nat.ne_of_lt (Heap.lt_size e)) (keep2 b o (Nat.ne_of_lt (Heap.lt_size e)) e)) got all⟩
end
end Mi
namespace Mi
variable [Tbs]
open PySem L2
open Rp (rep)
def tLstRev (K : PySem.W.Frag) (te : TE) : TE := fun σ H Q => te σ H fun v H1 => ∃ (a : Addr) (xs : List V), v = .ref a ∧ SqL K H1 a xs ∧ ∀ q, H1 q = none → Q (.ref q) (upd H1 q (.lst xs.reverse))
open PyProof.Rows RT in
theorem pe_lstRev {X : Cx} {e : Expr} {te : TE} {p p2 pos pos2 : Pos} (hc : X.calm = true) (hg : Gl X "list") (hm : X.mg "list" = none) (hg2 : Gl X "reversed") (hm2 : X.mg "reversed" = none) (he : PE X e te)
    (hs : starEach [e] X.env = (false, eval e X.env) :: starEach [] X.env := by rfl) (hs2 : starEach [.Call (.Name "reversed" p2) [e] [] pos2] X.env = (false, eval (.Call (.Name "reversed" p2) [e] [] pos2) X.env) :: starEach [] X.env := by rfl) :
    PE X (.Call (.Name "list" p) [.Call (.Name "reversed" p2) [e] [] pos2] [] pos) (tLstRev X.K te) := by
  refine ⟨fun pins s σ H Q I h => ?_⟩
  refine Call_ (ld_blt I hg hm boot_list (PyProof.Rows.callWith_type1 (args_cons (Call_ (ld_blt I hg2 hm2 PyProof.Rows.boot_reversed (PyProof.Rows.callWith_type1 (args_cons (thn (he.run pins s σ H _ I h) fun u s1 ⟨v, H1, I1, r1, q1⟩ => args_nil ?_) hs) hs))) hs2) hs2))
  obtain ⟨a, xs, ev, hq, q⟩ := q1
  subst ev
  cases r1
  obtain ⟨its, rv, pl, hz⟩ := I1.list hq
  refine call_reversed_list pl.isList (args_nil ?_)
  have keep : ∀ b o, s1.heap.get? b = some o → (s1.heap.push (revObj a ((its.toArray.size : Int) - 1))).get? b = some o := fun b o e => Heap.get?_push_of_some _ e
  have I2 : Inv X pins σ H1 { s1 with heap := s1.heap.push (revObj a ((its.toArray.size : Int) - 1)) } := I1.kept (t' := s1.toks) keep
  obtain ⟨f0, f1, f2, f3, f4, f5⟩ := I1.fpOk (H' := H1) (b := s1.heap.objs.size) (Nat.le_refl _) (I1.hok.fresh (Nat.le_refl _))
  obtain ⟨ol, hol, _⟩ := id pl.isList
  have apart : a ≠ s1.heap.objs.size := Nat.ne_of_lt (Heap.lt_size hol)
  have room : its.toArray.size ≤ sizeLine := by rw [List.size_toArray, ← rv.length] <;> exact hz
  refine list_back (s := { s1 with heap := s1.heap.push (revObj a ((its.toArray.size : Int) - 1)) }) (I1.ok.hd hc) ⟨_, Heap.get?_push_size _ rfl, rfl, rfl⟩ (pl.isList.push _) apart room fun h' tk acc c' hk got all => ?_
  have keepAll : ∀ b o, s1.heap.get? b = some o → h'.get? b = some o := fun b o e => hk b o (Nat.ne_of_lt (Heap.lt_size e)) (keep b o e)
  have above : s1.heap.objs.size ≤ (s1.heap.push (revObj a ((its.toArray.size : Int) - 1))).objs.size := by simp [Heap.push]
  refine ⟨V.ref (s1.heap.push (revObj a ((its.toArray.size : Int) - 1))).objs.size, _, I1.laid (t' := tk) keepAll above (show ObjOk X.prog X.w _ _ _ (.lst xs.reverse) from ⟨?_, acc.toList, c', vals_rev rv all, ?_⟩), rfl, q _ (I1.hok.fresh above)⟩
  · rw [List.length_reverse]
    exact hz
  · rw [Array.toArray_toList]
    exact got
section
variable {α : Type} [Rp α] {K : PySem.W.Frag} {σ : St} {G H : Hp} {te : TE}
theorem fe_lstRev {m : Option (List α)} (h : SE K te σ G H m) : FE K (tLstRev K te) σ G H (m.bind fun xs => some xs.reverse) := fun G1 H1 e r hm Q q => by
  obtain ⟨xs, hx, hm⟩ := bind_some hm
  cases hm
  refine h G1 H1 e xs hx _ fun v G2 H2 e2 hv => ?_
  obtain ⟨a, vs, ea, ha, la, ra⟩ := hv
  refine ⟨a, vs, ea, SqL.of (e2.s _ _ ha), fun p np => ?_⟩
  have o := own_new (K := K) e2.s np (by rw [List.length_reverse]; exact la) ra.rev
  exact q p G2 _ (e2.trans (Ext.own e2.s np)) ⟨e2.h.free np, o.g, o.h⟩
theorem fe_lstRevp {xs : List α} (h : SE K te σ G H (some xs)) : FE K (tLstRev K te) σ G H (some xs.reverse) := fe_lstRev h
end
end Mi

/-! MiG: what is caught is handed to a def; how often a bool stands in a list. -/
namespace Mi
variable [Tbs]
open PySem PySem.Spec PyProof.Rows L2 L2H
open Rp (rep)
/-- a def called with what an except suite holds -/
structure FnA (P : Program) (w : World) (K : PySem.W.Frag) (mg : Str → Option Value) (base : Heap) (k : Nat) (f : Addr) (fd : FuncData) (ps : List Str) (sp : Addr × Obj → Sp) : Prop where
  len : ∀ p vs H Q E, sp p vs H Q E → vs.length = ps.length
  run : ∀ (A : Around) (outer : List Env) (s : Shared) (H : Hp) (args : Args) (us : List Value) (vs : List V) (Q : VK) (E : XK) (p : Addr × Obj), RoomH k A → PinOk outer H s p → Env0 P w K mg base A outer s H → BindsTo s fd args (ps.zip us) → Vals vs us → sp p vs H Q E →
    codeAny (model P w) A (.call (.ref f) args) (CR CX0 outer P w H s Q E) s
theorem _root_.L2.Fun.okA {P : Program} {w : World} {K : PySem.W.Frag} {mg : Str → Option Value} {base : Heap} {x qual : Str} {st : Stmt} {f : Addr} {fd : FuncData} {N ps : List Str} {k : Nat} {sp : Addr × Obj → Sp} (F : Fun K x qual st f fd) (S : FnScope N ps (defScope st)) (len : ∀ p vs H Q E, sp p vs H Q E → vs.length = ps.length)
    (hbody : ∀ (cdv : Value) (A : Around) (outer : List Env) (s : Shared) (H : Hp) (vs : List V) (Q : VK) (E : XK) (p : Addr × Obj), RoomH k (A.deeper (envOfC qual (defScope st) s.heap.objs.size f cdv)) → sp p vs H Q E →
      ∃ t, PSs (cxH CX0 P w K mg base N qual (defScope st) f cdv A outer s H E p).nox (defBody st) t ∧ t { nx := fun _ H' => Q .non H', rt := Q } (L2.start N vs) H) : FnA P w K mg base (k + 1) f fd ps sp := by
  obtain ⟨oc, od, kV, doc, pm, an, cdv, ct, osl, rfl, lk, hcd⟩ := F.ex
  refine ⟨len, fun A outer s H args us vs Q E p hr hpin e0 hb r hsp => ?_⟩
  have hl := len _ _ _ _ _ hsp
  have KX : K.In s.heap := e0.mod.kin.keeps fun b o e => (e0.bs b o e).1
  have lim : s.heap.NoLimit := e0.mod.nolimit.keeps fun b o e => (e0.bs b o e).1
  have hkind : ∀ y ∈ ps.zip us, (defScope st).names.lookup y.1 = some .local ∨ ((defScope st).names.lookup y.1 = some .cell ∧ ((cellsFrom (s.heap.objs.size + 1) (defScope st).names []).lookup y.1).isSome = true) := fun ⟨n, v⟩ hy => by
    rcases S.par n (List.of_mem_zip hy).1 with q | q
    · exact .inl q
    · exact .inr ⟨q, PySem.W.cellsFrom_some _ _ _ (.inl q)⟩
  refine codeAny_call_function hr.depth (KX _ _ lk) rfl S.co S.gen rfl (PySem.W.codeRec_of KX hcd) (hb _ _ _ _ ?_)
  refine wpAny_newFunctionEnv_cells S.kind hkind fun env he s1 x => ?_
  subst he
  refine ⟨lim.keeps x.toInCall.keep, codeAny_func ?_⟩
  obtain ⟨t, ht0, hq⟩ := hbody cdv A outer s H vs Q E p (hr.deeper _) hsp
  have ht := ht0.nox
  have I : Inv (cxH CX0 P w K mg base N qual (defScope st) f cdv A outer s H E p) [] (L2.start N vs) H s1 := inv_startH S hpin e0 hl r x
  refine wpAny_mono (ht.run [] s1 (L2.start N vs) H _ I hq) (fun fl s' hs => ?_) fun e s' hs => hs
  have fin : ∀ {σ' : L2.St} {H' : Hp} {v : V} {u : Value}, Inv (cxH CX0 P w K mg base N qual (defScope st) f cdv A outer s H E p) [] σ' H' s' → RelV v u → Q v H' → CE outer P w H s Q u s' :=
    fun {σ' H' v u} J rv q => ⟨v, H', J.os, J.bare, J.base, J.hok, rv, q⟩
  cases fl with
  | ret u =>
    obtain ⟨v, σ', H', J, rv, q⟩ := hs
    exact fin J rv q
  | next =>
    obtain ⟨σ', H', J, q⟩ := hs
    exact fin (v := V.non) (u := Value.none) J rfl q
  | brk =>
    obtain ⟨_, _, _, q⟩ := hs
    exact False.elim q
  | cont =>
    obtain ⟨_, _, _, q⟩ := hs
    exact False.elim q
/-- isinstance of what is pinned -/
theorem call_isP {X : Cx} {a : Addr} {oe : Obj} {cls : Value} {d : Option Addr} (hz : Zc cls d oe) (hf : ∃ vs, oe.data = .fields vs) (hp : (a, oe) ∈ X.pn) : CallR X (.builtin "isinstance") (rIsX X.K cls d a) := by
  intro pins s σ H xs us Q I r h
  obtain ⟨D, c, cv, b, rfl, rfl, C, rfl, hcv, e, q⟩ := h
  cases r with
  | cons rx rr =>
    cases rr with
    | cons rt rr =>
      cases rr
      cases rx
      have ec := hcv _ rt
      subst ec
      obtain ⟨hget, _⟩ := I.pin (a, oe) (List.mem_append.mpr (.inl hp))
      obtain ⟨vs, hv⟩ := hf
      have J : PySem.W.InstAt s.heap a oe D none := by
        obtain ⟨oc, od, oda, osl⟩ := oe
        obtain ⟨h1, h2⟩ := hz
        dsimp only at h1 h2 hv
        subst h1 h2 hv
        exact ⟨hget, rfl, rfl, trivial⟩
      exact PySem.W.kia_one (PySem.W.handS_kitx_exc C.hg C.hk C.hs C.hd C.ha C.hn C.ht C.hm) I.kIn J e (fun z => nomatch z) fun tk => ⟨.bl b, H, I.kept (t' := tk) fun _ _ z => z, rfl, q⟩
/-- the promise to one who hands over what is caught -/
def SpA {ρ : Type} (K : PySem.W.Frag) (adr : Err → Addr) (RR : Hp → Hp → Hp → V → ρ → Prop) (f : Err → Option ρ) : Addr × Obj → Sp := fun p vs H Q _ => ∃ (G : Hp) (j : Err) (r : ρ), vs = [.ref p.1] ∧ Zc (.ref (adr j)) none p.2 ∧ (∃ us, p.2.data = .fields us) ∧ Vw G H ∧ f j = some r ∧ ∀ u G' H', Ext G H G' H' → RR H G' H' u r → Q u H'
theorem SpA.len {ρ : Type} {K : PySem.W.Frag} {adr : Err → Addr} {RR : Hp → Hp → Hp → V → ρ → Prop} {f : Err → Option ρ} {ps : List Str} (hp : ps.length = 1) : ∀ p vs H Q E, SpA K adr RR f p vs H Q E → vs.length = ps.length := by
  intro p vs H Q E ⟨_, _, _, e, _⟩
  rw [e, hp]
  rfl
def tCallA {ρ : Type} (adr : Err → Addr) (RR : Hp → Hp → Hp → V → ρ → Prop) (f : Err → Option ρ) (a : Addr) (cls : Value) (d : Option Addr) (t : TA) : TE := fun σ H Q => t σ H fun vs H1 => ∃ (G : Hp) (j : Err) (r : ρ), vs = [.ref a] ∧ cls = .ref (adr j) ∧ d = none ∧ Vw G H1 ∧ f j = some r ∧ ∀ u G' H', Ext G H1 G' H' → RR H1 G' H' u r → Q u H'
section
variable {X : Cx} {k : Nat} {f : Addr} {fd : FuncData} {ps : List Str} {x : Str} {q pos : Pos} {e : Expr} {es : List Expr} {t : TA} {ρ : Type} {adr : Err → Addr} {RR : Hp → Hp → Hp → V → ρ → Prop} {g : Err → Option ρ} {a : Addr} {oe : Obj} {cls : Value} {d : Option Addr} {pn : List (Addr × Obj)}
theorem pe_callA (hz : Zc cls d oe) (hf : ∃ vs, oe.data = .fields vs) (F : FnA X.prog X.w X.K X.mg X.base k f fd ps (SpA X.K adr RR g)) (hr : Room k X.A) (hg : Gl (X.suite a ((a, oe) :: pn)) x) (hm : X.mg x = some (.ref f)) (hk : PySem.W.keepIn X.K (.ref f) = true) (hb : Binds X.K fd ps [])
    (ha : PA (X.suite a ((a, oe) :: pn)) (e :: es) t) (hdb : (x == ("__debug__" : Str)) = false := by decide) (he : starEach (e :: es) X.env = (false, eval e X.env) :: starEach es X.env := by rfl) (hpl : (backTo pos (starEach es X.env)).any (·.1) = false := by rfl) :
    PE (X.suite a ((a, oe) :: pn)) (.Call (.Name x q) (e :: es) [] pos) (tCallA adr RR g a cls d t) := by
  refine ⟨fun pins s σ H Q I h => ?_⟩
  refine wpAny_Call_Name_kw (ld_glob I hg hm ?_ hdb)
  refine PySem.W.callWith_K (h₀ := X.base) I.ok.mod.kin hk (thn (ha.run pos pins s σ H _ I h) fun us s1 ⟨vs, H1, I1, r, q⟩ => ⟨I1.kIn, ?_⟩) he hpl
  obtain ⟨G, j, z, rfl, rfl, rfl, hs, hj, q⟩ := q
  have P1 := I1.pin (a, oe) (List.mem_append.mpr (.inl List.mem_cons_self))
  have hpin : PinOk X.stack H1 s1 (a, oe) := ⟨P1.1, P1.2.1, fun hm => (List.mem_cons.mp (I1.stkSub a hm)).elim P1.2.2.1 P1.2.2.2.1, P1.2.2.2.2⟩
  have hsp : SpA X.K adr RR g (a, oe) [.ref a] H1 Q (fun _ _ _ => False) := ⟨G, j, z, rfl, hz, hf, hs, hj, q⟩
  have hl : us.length = ps.length := by rw [← r.length]; exact F.len _ _ _ _ _ hsp
  have b := hb s1 us I1.kIn (by rw [List.append_nil]; exact hl)
  rw [List.append_nil] at b
  refine wpAny_call (codeAny_mono (F.run _ X.stack s1 H1 ⟨us, []⟩ us _ Q _ (a, oe) (roomH_mark hr _) hpin I1.env0 b r hsp) fun r s' hq => ?_)
  cases r with
  | error e => exact hq.elim
  | ok fl =>
    cases fl with
    | ret u => exact I1.after hq
    | next => exact False.elim hq
    | brk => exact False.elim hq
    | cont => exact False.elim hq
end
section
variable {K : PySem.W.Frag} {σ : L2.St} {G H : Hp} {i : Nat} {a : Addr} {ρ : Type} {adr : Err → Addr} {g : Err → Option ρ} {j : Err}
theorem xe_callA {RR : Hp → Hp → Hp → V → ρ → Prop} (RRm : ∀ H1 H2, HK H1 H2 → ∀ G' H' u r, RR H2 G' H' u r → RR H1 G' H' u r) (hv : σ[i]? = some (some (.ref a))) : XE RR (tCallA adr RR g a (.ref (adr j)) none (tCons (tVar i) tNil)) σ G H (g j) := fun G1 H1 e z hm Q q =>
  ⟨_, hv, G1, j, z, rfl, rfl, rfl, e.s, hm, fun u G' H' e' hu => q u G' H' e' hu⟩
end
/-! ### count of a bool in a list -/
def eqbl (k : Bool) (v : Value) : Bool := match v with
  | .bool b => b == k
  | _ => false
theorem bools_of_vals {vs : List Value} : ∀ {bs : List Bool}, Vals (bs.map V.bl) vs → vs = bs.map Value.bool
  | [], h => by
    cases h
    rfl
  | b :: bs, h => by
    cases h with
    | cons r rr =>
      rw [bools_of_vals rr]
      cases r
      rfl
theorem eqbl_count (k : Bool) : ∀ bs : List Bool, (bs.map Value.bool).countP (eqbl k) = bs.count k
  | [] => rfl
  | b :: bs => by
    rw [List.map_cons, List.countP_cons, List.count_cons, eqbl_count k bs]
    rfl
def rCntB (K : PySem.W.Frag) : V → List V → Hp → VK → Prop := fun x xs H Q => ∃ (p : Addr) (bs : List Bool) (k : Bool), x = .ref p ∧ xs = [.bl k] ∧ SqL K H p (bs.map V.bl) ∧ Q (.int (bs.count k : Nat)) H
theorem mt_lcountB {X : Cx} : MtR X "list.count" (rCntB X.K) := by
  intro pins s σ H x xs v us Q I rx rxs h
  obtain ⟨p, bs, k, rfl, rfl, hs, q⟩ := h
  cases rx
  obtain ⟨u, rfl, ru⟩ := rxs.one
  cases ru
  obtain ⟨its, rv, ⟨⟨cls, dd, data, sl⟩, n, ho, hc, hdn, hd⟩, hlen⟩ := I.list hs
  simp only at hc hd
  subst hc hd
  have hi := bools_of_vals rv
  subst hi
  refine call_meets PySem.F.slot_list_count ⟨_, ho, rfl⟩ PySem.F.entry_list_count (PySem.F.args_list_count_2 _ _)
    (SeqAt.list_countAt p _ n dd sl (.bool k) (eqbl k)) ⟨ho, fun y hy => ?_, ?_⟩
  · obtain ⟨b, _, e⟩ := List.mem_map.mp (show y ∈ bs.map Value.bool by simpa using hy)
    subst e
    exact SeqAt.EqAt.bool_bool b k
  have ec := eqbl_count k bs
  refine ⟨.int (bs.count k : Nat), H, I.tok _, ⟨s.toks, ?_⟩, q⟩
  show Value.int (((bs.map Value.bool).toArray.toList.countP (eqbl k) : Nat) : Int) s.toks = _
  rw [show (bs.map Value.bool).toArray.toList = bs.map Value.bool from rfl, ec]
section
variable {K : PySem.W.Frag} {σ : L2.St} {G H : Hp} {te ta : TE}
theorem se_countB {m : Option (List Bool)} {n : Option Bool} (h : SE K te σ G H m) (ha : SE K ta σ G H n) : SE K (tBM K "list" (rCntB K) te (tCons ta tNil)) σ G H (m.bind fun xs => n.bind fun b => some ((xs.count b : Nat) : Int)) := fun G1 H1 e r hm Q q => by
  obtain ⟨xs, hx, hm⟩ := bind_some hm
  obtain ⟨b, hb, hm⟩ := bind_some hm
  cases hm
  refine h G1 H1 e xs hx _ fun v G2 H2 e2 ⟨a, vs, ea, hg, l, rs⟩ => ?_
  have e3 := rs.bls
  subst e3 ea
  refine ⟨.inl ⟨rfl, _, SqL.of (e2.s _ _ hg)⟩, ha G2 H2 (e.trans e2) b hb _ fun u G3 H3 e4 ru => ?_⟩
  have ru : u = .bl b := ru
  subst ru
  exact ⟨a, xs, b, rfl, rfl, SqL.of (e4.s _ _ (e4.g _ _ hg)), q _ G3 H3 (e2.trans e4) rfl⟩
theorem se_countBp {xs : List Bool} {b : Bool} (h : SE K te σ G H (some xs)) (ha : SE K ta σ G H (some b)) : SE K (tBM K "list" (rCntB K) te (tCons ta tNil)) σ G H (some ((xs.count b : Nat) : Int)) := se_countB h ha
end
end Mi

/-! MiK: dicts whose keys are pairs of a number and a truth (a truth is a key as its number is). -/
namespace Mi
variable [Tbs]
open PySem PySem.Spec PyProof.Rows L2
open Rp (rep)
abbrev KB := Int × Bool
def kB (k : KB) : List Leaf := [.num k.1, .num (if k.2 then 1 else 0)]
theorem kB_inj {a b : KB} : kB a = kB b ↔ a = b := by
  constructor
  · intro h
    injection h with h1 h2
    injection h1 with h1
    injection h2 with h2 _
    injection h2 with h2
    obtain ⟨a1, a2⟩ := a
    obtain ⟨b1, b2⟩ := b
    simp only at h1 h2
    subst h1
    cases a2 <;> cases b2 <;> first | rfl | (simp at h2)
  · intro h
    rw [h]
def entB (x : KB × Addr × Value) : DictEntry := ⟨reduceHash (Builtin.Tuple.tupleHashOf [hashInt x.1.1, hashInt (if x.1.2 then 1 else 0)]), .ref x.2.1, x.2.2⟩
abbrev upB (x : KB × Addr × Value) : List Leaf × Addr × Value := (kB x.1, x.2)
theorem ent_up (P : Program) (w : World) (x : KB × Addr × Value) : entryOfKey (tupleKind (leafKind P w)) (upB x) = entB x := rfl
theorem ents_up (P : Program) (w : World) (xs : List (KB × Addr × Value)) : (xs.map upB).map (entryOfKey (tupleKind (leafKind P w))) = xs.map entB := by
  rw [List.map_map]
  exact List.map_congr_left fun x _ => ent_up P w x
def storeB (xs : List (KB × Addr × Value)) (k : KB) (a : Addr) (u : Value) : List (KB × Addr × Value) :=
  if (xs.any fun x => decide (x.1 = k)) = true then xs.map (fun x => if x.1 = k then (x.1, x.2.1, u) else x) else xs ++ [(k, a, u)]
theorem at_up (k : KB) : ∀ xs : List (KB × Addr × Value), (atKey (xs.map upB) (kB k)).isSome = xs.any fun x => decide (x.1 = k)
  | [] => rfl
  | x :: xs => by
    have ih := at_up k xs
    unfold atKey at ih ⊢
    rw [List.map_cons, List.find?_cons, List.any_cons]
    by_cases e : x.1 = k
    · rw [decide_eq_true (show (upB x).1 = kB k from kB_inj.mpr e), decide_eq_true e]
      rfl
    · rw [decide_eq_false (show ¬ (upB x).1 = kB k from fun h => e (kB_inj.mp h)), decide_eq_false e, Bool.false_or]
      exact ih
theorem store_up (xs : List (KB × Addr × Value)) (k : KB) (a : Addr) (u : Value) : storedH (xs.map upB) (kB k) a u = (storeB xs k a u).map upB := by
  unfold storedH storeB
  rw [at_up]
  split
  · rw [List.map_map, List.map_map]
    refine List.map_congr_left fun x _ => ?_
    show putAt (kB k) u (upB x) = upB (if x.1 = k then (x.1, x.2.1, u) else x)
    unfold putAt
    by_cases e : x.1 = k
    · rw [if_pos (show (upB x).1 = kB k from kB_inj.mpr e), if_pos e]
    · rw [if_neg (show ¬ (upB x).1 = kB k from fun h => e (kB_inj.mp h)), if_neg e]
  · rw [List.map_append]
    rfl
theorem length_storeB (xs : List (KB × Addr × Value)) (k : KB) (a : Addr) (u : Value) : (storeB xs k a u).length ≤ xs.length + 1 := by
  unfold storeB
  split
  · rw [List.length_map]; omega
  · rw [List.length_append, List.length_cons, List.length_nil]; omega
/-- the dict's object -/
structure ObB (a : Addr) (xs : List (KB × Addr × Value)) (o : Obj) : Prop where
  ne : (a == sysModules) = false
  ex : o.ExactDict
  da : ∃ es ep, o.data = .dict es ep ∧ es.toList = xs.map entB
  nd : (xs.map (·.1)).Nodup
  len : xs.length ≤ sizeLine
def hoB (a : Addr) (o : Obj) : HO := .ext fun h => h.get? a = some o
theorem hoB_ok {P : Program} {w : World} {H : Hp} {h : Heap} {a : Addr} {o : Obj} (e : h.get? a = some o) : ObjOk P w H h a (hoB a o) := ⟨e, ⟨o, e⟩, fun _ _ p k => k _ p⟩
omit [Tbs] in
theorem pn_hoB {a : Addr} {xs : List (KB × Addr × Value)} {o : Obj} (ho : ObB a xs o) : Pn (hoB a o) := by
  refine ⟨nt_ext, fun c q z => ?_⟩
  obtain ⟨es, ep, hd, _⟩ := ho.da
  have z2 : (fun h : Heap => h.get? a = some o) = fun h => ∃ (oc : Obj) (vs : Array Value) (t : Tok), h.get? c = some oc ∧ oc.data = .fields vs ∧ vs[1]? = some (.str q t) := HO.ext.inj z
  have hg : ∀ b : Addr, b < a + 1 → (⟨Array.replicate (a + 1) o, {}⟩ : Heap).get? b = some o := fun b hb => by
    have e : (Array.replicate (a + 1) o)[b]? = some o := by
      rw [Array.getElem?_replicate, if_pos hb]
    unfold Heap.get?
    rw [e]
    obtain ⟨oc, od, dd, sl⟩ := o
    have hd : dd = .dict es ep := hd
    subst hd
    rfl
  have h1 := congrFun z2 (⟨Array.replicate (a + 1) o, {}⟩ : Heap)
  have h2 : (⟨Array.replicate (a + 1) o, {}⟩ : Heap).get? a = some o := hg a (Nat.lt_succ_self a)
  obtain ⟨oc, vs, t, e1, e2, _⟩ := (h1 ▸ h2 : ∃ (oc : Obj) (vs : Array Value) (t : Tok), (⟨Array.replicate (a + 1) o, {}⟩ : Heap).get? c = some oc ∧ oc.data = .fields vs ∧ vs[1]? = some (.str q t))
  by_cases hc : c < a + 1
  · rw [hg c hc] at e1
    rw [← Option.some.inj e1, hd] at e2
    cases e2
  · unfold Heap.get? at e1
    rw [Array.getElem?_replicate, if_neg hc] at e1
    cases e1
theorem hoB_mut {H : Hp} {a b : Addr} {o : Obj} (e : H a = some (hoB b o)) : Mut (H a) := by rw [e]; exact True.intro
/-- the key's tuple -/
abbrev KeyAt (K : PySem.W.Frag) (H : Hp) (k : KB) (b : Addr) : Prop := SqT K H b [.int k.1, .bl k.2]
section
variable {X : Cx} {pins : List (Addr × Obj)} {σ : L2.St} {H : Hp} {s : Shared} {a b : Addr} {o : Obj} {xs : List (KB × Addr × Value)} {k : KB} {A : Around} {E : Value → Shared → Prop}
theorem key_atB (I : Inv X pins σ H s) (e : KeyAt X.K H k b) : (tupleKind (leafKind X.prog X.w)).is s.heap (kB k) b := by
  obtain ⟨its, r, ⟨ob, h1, h2, n, h3⟩, _⟩ := I.tuple e
  refine ⟨ob, its.toArray, n, h1, h2, h3, ?_⟩
  cases r with
  | cons r1 rr =>
    cases rr with
    | cons r2 rr =>
      cases rr
      obtain ⟨t, rfl⟩ := r1
      cases r2
      exact .cons (show Leaf.isOf (.num k.1) (.int k.1 t) = true from decide_eq_true rfl) (.cons (show Leaf.isOf (.num (if k.2 then 1 else 0)) (.bool k.2) = true from decide_eq_true rfl) .nil)
theorem get_atB (I : Inv X pins σ H s) (e : H a = some (hoB a o)) : s.heap.get? a = some o := (show ObjOk X.prog X.w H s.heap a (hoB a o) from I.hok a _ e).1
theorem dict_atB (I : Inv X pins σ H s) (e : H a = some (hoB a o)) (hx : ObB a xs o) (hk : ∀ x ∈ xs, KeyAt X.K H x.1 x.2.1) : s.heap.DictOfH (tupleKind (leafKind X.prog X.w)) a (xs.map upB) := by
  obtain ⟨es, ep, h1, h2⟩ := hx.da
  refine ⟨o, es, ep, get_atB I e, hx.ex, h1, by rw [h2, ents_up], fun x hm => ?_, ?_⟩
  · obtain ⟨y, hy, rfl⟩ := List.mem_map.mp hm
    exact key_atB I (hk y hy)
  · rw [List.map_map, show ((fun x : List Leaf × Addr × Value => x.1) ∘ upB) = kB ∘ (fun x : KB × Addr × Value => x.1) from rfl, ← List.map_map]
    exact List.Pairwise.map kB (fun x y n e => n (kB_inj.mp e)) hx.nd
theorem ob_ofB {h' : Heap} {P : Program} {w : World} (ne : (a == sysModules) = false) (z : xs.length ≤ sizeLine) (d : h'.DictOfH (tupleKind (leafKind P w)) a (xs.map upB)) : ∃ q, h'.get? a = some q ∧ ObB a xs q := by
  obtain ⟨q, es, ep, h1, h2, h3, h4, _, h5⟩ := d
  refine ⟨q, h1, ne, h2, ⟨es, ep, h3, by rw [h4, ents_up]⟩, ?_, z⟩
  rw [List.map_map, show ((fun x : List Leaf × Addr × Value => x.1) ∘ upB) = kB ∘ (fun x : KB × Addr × Value => x.1) from rfl, ← List.map_map] at h5
  exact List.Pairwise.of_map _ (fun x y n e => n (by rw [e])) h5
theorem b_setItem {r : Value} {Q : Unit → Shared → Prop} (hu : A.units + 1 < cLine) (I : Inv X pins σ H s) (e : H a = some (hoB a o)) (hx : ObB a xs o) (hk : ∀ x ∈ xs, KeyAt X.K H x.1 x.2.1) (hb : KeyAt X.K H k b) (hl : xs.length < sizeLine)
    (h : ∀ o' s', ObB a (storeB xs k b r) o' → Inv X pins σ (upd H a (hoB a o')) s' → Q () s') : wpAny (model X.prog X.w) A (setItem (.ref a) (.ref b) r) Q E s := by
  have dd := dict_atB I e hx hk
  refine wpAny_setItem_heap (hsz := by rw [List.length_map]; exact hx.len) (tupleKind_room_in1 hu) (key_atB I hb) dd fun h' dd' hs => ?_
  rw [store_up] at dd'
  obtain ⟨q, hq, ho⟩ := ob_ofB hx.ne (Nat.le_trans (length_storeB xs k b r) hl) dd'
  exact h q _ ho (d_write I (hoB_mut e) hs ⟨q, hq⟩ (hoB_ok hq))
theorem b_in {Q : Value → Shared → Prop} (hu : A.units + 1 < cLine) (I : Inv X pins σ H s) (e : H a = some (hoB a o)) (hx : ObB a xs o) (hk : ∀ x ∈ xs, KeyAt X.K H x.1 x.2.1) (hb : KeyAt X.K H k b)
    (h : ∀ s', Inv X pins σ H s' → Q (.bool (xs.any fun x => decide (x.1 = k))) s') : wpAny (model X.prog X.w) A (compareOp .In (.ref b) (.ref a)) Q E s := by
  refine wpAny_in_heap (tupleKind_room_in1 hu) (key_atB I hb) hx.ne (dict_atB I e hx hk) ?_
  rw [at_up]
  exact h _ (I.tok _)
theorem b_notIn {Q : Value → Shared → Prop} (hu : A.units + 1 < cLine) (I : Inv X pins σ H s) (e : H a = some (hoB a o)) (hx : ObB a xs o) (hk : ∀ x ∈ xs, KeyAt X.K H x.1 x.2.1) (hb : KeyAt X.K H k b)
    (h : ∀ s', Inv X pins σ H s' → Q (.bool (!xs.any fun x => decide (x.1 = k))) s') : wpAny (model X.prog X.w) A (compareOp .NotIn (.ref b) (.ref a)) Q E s := by
  refine wpAny_notIn_heap (tupleKind_room_in1 hu) (key_atB I hb) hx.ne (dict_atB I e hx hk) ?_
  rw [at_up]
  exact h _ (I.tok _)
end
/-! ### rules -/
def tDInB (K : PySem.W.Frag) (ty td : TE) : TE := fun σ H Q => ty σ H fun y H1 => td σ H1 fun x H2 => ∃ a o xs k b, x = .ref a ∧ y = .ref b ∧ H2 a = some (hoB a o) ∧ ObB a xs o ∧ (∀ x ∈ xs, KeyAt K H2 x.1 x.2.1) ∧ KeyAt K H2 k b ∧ Q (.bl (xs.any fun x => decide (x.1 = k))) H2
def tDNotInB (K : PySem.W.Frag) (ty td : TE) : TE := fun σ H Q => ty σ H fun y H1 => td σ H1 fun x H2 => ∃ a o xs k b, x = .ref a ∧ y = .ref b ∧ H2 a = some (hoB a o) ∧ ObB a xs o ∧ (∀ x ∈ xs, KeyAt K H2 x.1 x.2.1) ∧ KeyAt K H2 k b ∧ Q (.bl (!xs.any fun x => decide (x.1 = k))) H2
def sDPutB (K : PySem.W.Frag) (td ty tv : TE) : TS := fun D σ H => tv σ H fun v H1 => td σ H1 fun x H2 => ty σ H2 fun y H3 => ∃ a o xs k b, x = .ref a ∧ y = .ref b ∧ H3 a = some (hoB a o) ∧ ObB a xs o ∧ (∀ x ∈ xs, KeyAt K H3 x.1 x.2.1) ∧ KeyAt K H3 k b ∧ xs.length < sizeLine ∧
  ∀ o' u, RelV v u → ObB a (storeB xs k b u) o' → D.nx σ (upd H3 a (hoB a o'))
section
variable {X : Cx} {o i e value : Expr} {pos pos' tpos : Pos} {td ty tv : TE}
theorem pc_dinB (hu : X.A.units + 1 < cLine) (hi : PE X i ty) (ho : PE X o td) : PC X .In i o (tDInB X.K ty td) := by
  refine ⟨fun pins s σ H Q I h => ?_⟩
  refine thn (hi.run pins s σ H _ I h) fun iv s1 ⟨y, H1, I1, ry, q1⟩ => thn (ho.run pins s1 σ H1 _ I1 q1) fun u s2 ⟨x, H2, I2, rx, a, oo, xs, k, b, ex, ey, e1, e2, e3, e4, q2⟩ => ?_
  subst ex ey
  obtain rfl : u = Value.ref a := rx
  obtain rfl : iv = Value.ref b := ry
  exact b_in hu I2 e1 e2 e3 e4 fun s3 I3 => ⟨.bl _, H2, I3, rfl, q2⟩
theorem pc_dnotinB (hu : X.A.units + 1 < cLine) (hi : PE X i ty) (ho : PE X o td) : PC X .NotIn i o (tDNotInB X.K ty td) := by
  refine ⟨fun pins s σ H Q I h => ?_⟩
  refine thn (hi.run pins s σ H _ I h) fun iv s1 ⟨y, H1, I1, ry, q1⟩ => thn (ho.run pins s1 σ H1 _ I1 q1) fun u s2 ⟨x, H2, I2, rx, a, oo, xs, k, b, ex, ey, e1, e2, e3, e4, q2⟩ => ?_
  subst ex ey
  obtain rfl : u = Value.ref a := rx
  obtain rfl : iv = Value.ref b := ry
  exact b_notIn hu I2 e1 e2 e3 e4 fun s3 I3 => ⟨.bl _, H2, I3, rfl, q2⟩
theorem ps_dputB (hu : X.A.units + 1 < cLine) (ho : PE X o td) (hi : PE X i ty) (hv : PE X value tv) (hs : swapsWith value (some (.Subscript o i pos')) pos.line X.env = pure false) :
    PS X (.Assign [.Subscript o i pos'] value pos) (sDPutB X.K td ty tv) := by
  refine ⟨fun pins s σ H D I h => ?_⟩
  refine wpAny_Assign_Subscript (thn (hv.run pins s σ H _ I h) fun r s1 ⟨v, H1, I1, rv, q1⟩ => thn (ho.run pins s1 σ H1 _ I1 q1) fun u s2 ⟨x, H2, I2, rx, q2⟩ => thn (hi.run pins s2 σ H2 _ I2 q2) fun iv s3 ⟨y, H3, I3, ry, a, oo, xs, k, b, ex, ey, e1, e2, e3, e4, e5, q3⟩ => ?_) hs
  subst ex ey
  obtain rfl : u = Value.ref a := rx
  obtain rfl : iv = Value.ref b := ry
  exact b_setItem hu I3 e1 e2 e3 e4 e5 fun o' s4 ho' I4 => ⟨σ, _, I4, q3 o' r rv ho'⟩
end
/-- a display of nothing, and of one pair -/
theorem ob_new {a : Addr} {es : Array DictEntry} (h : es = #[]) (ne : (a == sysModules) = false) : ObB a [] { cls := .type "dict", data := .dict es } := ⟨ne, ⟨rfl, rfl, rfl⟩, ⟨es, 0, rfl, by rw [h]; rfl⟩, List.nodup_nil, Nat.zero_le _⟩
def tDNewB : TE := fun _ H Q => ∀ p o, H p = none → ObB p [] o → Q (.ref p) (upd H p (hoB p o))
def tDOneB (K : PySem.W.Frag) (tk tv : TE) : TE := fun σ H Q => ∀ p o, H p = none → ObB p [] o → tk σ (upd H p (hoB p o)) fun y H1 => tv σ H1 fun v H2 => H2 p = some (hoB p o) ∧ ∃ k b, y = .ref b ∧ KeyAt K H2 k b ∧
  ∀ o' u, RelV v u → ObB p [(k, b, u)] o' → Q (.ref p) (upd H2 p (hoB p o'))
section
variable {X : Cx} {pos : Pos}
theorem pe_dnewB : PE X (.Dict [] [] pos) tDNewB := ⟨fun pins s σ H Q I h => by
  have hb : (s.heap.objs.size == sysModules) = false := beq_eq_false_iff_ne.mpr (Ne.symm (Nat.ne_of_lt I.big))
  exact wpAny_Dict_empty ⟨.ref s.heap.objs.size, _, I.laid (a := s.heap.objs.size) (o := hoB s.heap.objs.size { cls := .type "dict", data := .dict #[] }) (t' := s.toks) (fun _ _ q => Heap.get?_push_of_some _ q) (Nat.le_refl _) (hoB_ok (Heap.get?_push_size _ rfl)), rfl,
    h _ _ (I.hok.fresh (Nat.le_refl _)) (ob_new rfl hb)⟩⟩
theorem pe_doneB {k v : Expr} {tk tv : TE} (hu : X.A.units + 1 < cLine) (hk : PE X k tk) (hv : PE X v tv) : PE X (.Dict [some k] [v] pos) (tDOneB X.K tk tv) := by
  refine ⟨fun pins s σ H Q I q => ?_⟩
  have hn := I.hok.fresh (Nat.le_refl s.heap.objs.size)
  have hb : (s.heap.objs.size == sysModules) = false := beq_eq_false_iff_ne.mpr (Ne.symm (Nat.ne_of_lt I.big))
  have I1 := I.laid (a := s.heap.objs.size) (o := hoB s.heap.objs.size { cls := .type "dict", data := .dict #[] }) (h' := s.heap.push { cls := .type "dict", data := .dict #[] }) (t' := s.toks) (fun _ _ q => Heap.get?_push_of_some _ q) (Nat.le_refl _) (hoB_ok (Heap.get?_push_size _ rfl))
  have q1 := q _ _ hn (ob_new rfl hb)
  have hz := zip_pairTrees [some k] [v] X.env pos rfl rfl
  rw [arm_eval_Dict, hz, dictDisplay_pairs (pairTrees [some k] [v] X.env pos) (by intro z; cases z) (show 1 < 17 by decide)]
  refine wpAny_bind (wpAny_standAt (wpAny_bind ?_))
  unfold subDict
  refine wpAny_bind (wpAny_alloc ?_)
  refine wpAny_bind (wpAny_holding ?_)
  rw [if_pos (show (pairTrees [some k] [v] X.env pos).length ≤ 15 from show 1 ≤ 15 by decide)]
  refine wpAny_bind (pairTrees_cons_walk (thn (hk.run pins _ σ _ _ I1 q1) fun kv s1 ⟨y, H1, I2, ry, q2⟩ => thn (hv.run pins s1 σ H1 _ I2 q2) fun vv s2 ⟨z, H2, I3, rz, e1, kk, b, ey, hkey, q3⟩ => pairTrees_nil_walk ?_))
  subst ey
  obtain rfl : kv = Value.ref b := ry
  refine wpAny_holding (wpAny_bind ?_)
  rw [List.forIn_cons]
  refine wpAny_bind (wpAny_bind ?_)
  have hx := ob_new (a := s.heap.objs.size) (es := #[]) rfl hb
  have dd := dict_atB I3 e1 hx (fun x hx => nomatch hx)
  refine wpAny_dictSet_heap (hsz := Nat.zero_le _) (show X.A.units < cLine by omega) (key_atB I3 hkey) dd fun h' dd' hs => ?_
  have e2 : storedH (([] : List (KB × Addr × Value)).map upB) (kB kk) b vv = ([(kk, b, vv)] : List (KB × Addr × Value)).map upB := by
    rw [store_up]
    rfl
  rw [e2] at dd'
  obtain ⟨o', hq, ho⟩ := ob_ofB hb (by rw [sizeLine_eq]; exact (by decide : 1 ≤ 16777216)) dd'
  exact wpAny_pure (wpAny_pure (wpAny_pure (wpAny_pure (wpAny_pure ⟨.ref s.heap.objs.size, _, d_write I3 (hoB_mut e1) hs ⟨o', hq⟩ (hoB_ok hq), rfl, q3 o' vv rz ho⟩))))
end
/-! ### the keys, walked -/
def Itkb (d : Addr) (o : Obj) (xs : List (KB × Addr × Value)) : It :=
  ⟨fun i H => H d = some (hoB d o) ∧ i < xs.length, fun i H x H' => H' = H ∧ ∃ y, xs[i]? = some y ∧ x = .ref y.2.1, fun i H => H d = some (hoB d o) ∧ xs.length ≤ i⟩
theorem ent_at {es : Array DictEntry} {xs : List (KB × Addr × Value)} (he : es.toList = xs.map entB) (j : Nat) : es[j]? = (xs[j]?).map entB := by
  rw [← Array.getElem?_toList, he, List.getElem?_map]
theorem turn_keysB {P : Program} {w : World} {K : PySem.W.Frag} {tg : Expr} {d : Addr} {o : Obj} {es : Array DictEntry} {ep : Nat} {xs : List (KB × Addr × Value)} (it : Addr) (hod : o.data = .dict es ep) (he : es.toList = xs.map entB) : Turn P w K tg (Itkb d o xs) [it] it (fun i h => h.IsKeyIter it d i xs.length ep) where
  mem := by simp
  obj := fun i h st b hb => by
    have e : b = it := by simpa using hb
    subst e
    obtain ⟨oi, e, c, dd⟩ := st
    exact ⟨oi, e, fun v z => by rw [dd] at z; cases z⟩
  keep := fun i h h' st k => st.at fun oi e => k it (by simp) oi e
  item := by
    intro X hP hw hK hc i pins s σ H E I hf st hg
    subst hP hw hK
    obtain ⟨hd, hi⟩ := hg
    obtain ⟨f0, f1, f2, f3, f4, f5⟩ := hf it (by simp)
    have hgd := get_atB I hd
    have hsz : es.size = xs.length := by rw [← Array.length_toList, he, List.length_map]
    obtain ⟨y, hy⟩ : ∃ y, xs[i]? = some y := ⟨xs[i], List.getElem?_eq_getElem hi⟩
    have hen : es[i]? = some (entB y) := by rw [ent_at he, hy]; rfl
    refine next_key_item st hgd hod hsz hen fun h' st' sb => ?_
    have I1 : Inv X pins σ H { s with heap := h' } := I.turned (t' := s.toks) (fun b ob hb e => (sb.2 b hb).trans e) f0 f1 f3 f4 f5
    obtain ⟨oi, e, c, dd⟩ := id st'
    exact ⟨(entB y).key, rfl, go_of (s := { s with heap := h' }) e c dd (by decide) ⟨.ref y.2.1, H, I1, rfl, ⟨rfl, y, hy, rfl⟩, st', fun b hb => (hf b hb).1⟩⟩
  done := by
    intro X hP hw hK hc i pins s σ H E I hf st hg
    subst hP hw hK
    obtain ⟨hd, hi⟩ := hg
    obtain ⟨f0, f1, f2, f3, f4, f5⟩ := hf it (by simp)
    have hgd := get_atB I hd
    have hsz : es.size = xs.length := by rw [← Array.length_toList, he, List.length_map]
    exact next_key_end (I.ok.hd hc) st hgd hod hsz hi fun h' eb => ⟨rfl, I.turned (t' := s.toks) (fun b ob hb e => eb b ob hb e) f0 f1 f3 f4 f5⟩
  self := fun A i s Q E st h => by
    refine wpAny_pyIter_slot st.typeIs F.slot_dict_keyiterator_iter (wpAny_call_entry F.slot_dict_keyiterator_iter st.typeIs F.entry_dict_keyiterator_iter ?_ (F.args_dict_keyiterator_iter_1 _))
    show wpAny _ _ (ret (.ref it)) _ _ s
    exact wpAny_pure ⟨_, rfl, "dict_keyiterator", _, st.typeIs, F.slot_dict_keyiterator_next.lookup, h⟩
def iKeysB (td : TE) : TI := fun σ H R => td σ H fun x H1 => ∃ d o xs, x = .ref d ∧ H1 d = some (hoB d o) ∧ ObB d xs o ∧ R (Itkb d o xs) H1
theorem pi_keysB {X : Cx} {tg e : Expr} {td : TE} (he : PE X e td) : PI X tg e (iKeysB td) := by
  refine ⟨fun pins s σ H R I h => ?_⟩
  refine thn (he.run pins s σ H _ I h) fun u s1 ⟨x, H1, I1, rx, d, o, xs, ex, hd, hx, q⟩ => ?_
  subst ex
  obtain rfl : u = Value.ref d := rx
  obtain ⟨es, ep, hdt, hes⟩ := hx.da
  have hsz : es.size = xs.length := by rw [← Array.length_toList, hes, List.length_map]
  refine iter_keys hx.ne (get_atB I1 hd) hx.ex hdt (pi_one (tk := s1.toks) I1 _ (turn_keysB _ hdt hes) ⟨_, Heap.get?_push_size _ rfl, rfl, ?_⟩ q)
  rw [hsz] <;> rfl
/-! ### values -/
/-- a dict whose keys are pairs of a number and a truth -/
structure DB (β : Type) where
  l : List (KB × β)
section
variable {β : Type}
def bputL (l : List (KB × β)) (k : KB) (v : β) : List (KB × β) := if (l.any fun x => decide (x.1 = k)) = true then l.map (fun x => if x.1 = k then (x.1, v) else x) else l ++ [(k, v)]
def bputO (d : DB β) (k : KB) (v : β) : Option (DB β) := if d.l.length < 16000000 then some ⟨bputL d.l k v⟩ else none
def bhas (d : DB β) (k : KB) : Bool := d.l.any fun x => decide (x.1 = k)
def bkeys (d : DB β) : List KB := d.l.map (·.1)
end
abbrev RepsB {β : Type} [Rp β] (K : PySem.W.Frag) (G : Hp) : List (KB × Addr × Value) → List (KB × β) → Prop := Paired fun x y => x.1 = y.1 ∧ KeyAt K G x.1 x.2.1 ∧ ∃ v, RelV v x.2.2 ∧ rep K G v y.2
section
variable {β : Type} [Rp β] {K : PySem.W.Frag} {G G' : Hp} {xs : List (KB × Addr × Value)} {l : List (KB × β)} {k : KB} {v : V} {x : β} {b : Addr} {u : Value}
theorem repsB_mono (s : Same G G') : ∀ {xs : List (KB × Addr × Value)} {l : List (KB × β)}, RepsB K G xs l → RepsB K G' xs l
  | _, _, .nil => .nil
  | _, _, .cons ⟨h1, h2, v, h3, h4⟩ r => .cons ⟨h1, same_tup s h2, v, h3, Rp.mono s h4⟩ (repsB_mono s r)
theorem repsB_any : ∀ {xs : List (KB × Addr × Value)} {l : List (KB × β)}, RepsB K G xs l → (xs.any fun x => decide (x.1 = k)) = l.any fun x => decide (x.1 = k)
  | _, _, .nil => rfl
  | _, _, .cons ⟨h1, _⟩ r => by rw [List.any_cons, List.any_cons, repsB_any r, h1]
theorem repsB_keys : ∀ {xs : List (KB × Addr × Value)} {l : List (KB × β)}, RepsB K G xs l → ∀ x ∈ xs, KeyAt K G x.1 x.2.1
  | _, _, .nil => fun x hx => nomatch hx
  | _, _, .cons ⟨_, h2, _⟩ r => fun x hx => by
    rcases List.mem_cons.mp hx with e | hx
    · rw [e]; exact h2
    · exact repsB_keys r x hx
theorem repsB_map (hu : RelV v u) (hx : rep K G v x) : ∀ {xs : List (KB × Addr × Value)} {l : List (KB × β)}, RepsB K G xs l → RepsB K G (xs.map fun x => if x.1 = k then (x.1, x.2.1, u) else x) (l.map fun z => if z.1 = k then (z.1, x) else z)
  | _, _, .nil => .nil
  | (a, c, w) :: xs, (a', y) :: l, .cons ⟨h1, h2, h3⟩ r => by
    simp only at h1
    subst h1
    rw [List.map_cons, List.map_cons]
    refine .cons ?_ (repsB_map hu hx r)
    by_cases e : a = k
    · rw [if_pos (show ((a, c, w) : KB × Addr × Value).1 = k from e), if_pos (show ((a, y) : KB × β).1 = k from e)]
      exact ⟨rfl, h2, v, hu, hx⟩
    · rw [if_neg (show ¬ ((a, c, w) : KB × Addr × Value).1 = k from e), if_neg (show ¬ ((a, y) : KB × β).1 = k from e)]
      exact ⟨rfl, h2, h3⟩
theorem repsB_put (h : RepsB K G xs l) (hk : KeyAt K G k b) (hu : RelV v u) (hx : rep K G v x) : RepsB K G (storeB xs k b u) (bputL l k x) := by
  unfold storeB bputL
  rw [repsB_any h]
  split
  · exact repsB_map hu hx h
  · exact Paired.snoc h ⟨rfl, hk, v, hu, hx⟩
theorem repsB_get : ∀ {xs : List (KB × Addr × Value)} {l : List (KB × β)} {i : Nat} {k : KB}, RepsB K G xs l → (l.map (·.1))[i]? = some k → ∃ y, xs[i]? = some y ∧ y.1 = k ∧ KeyAt K G k y.2.1
  | _, _, _, _, .nil, h => by simp at h
  | _, _, 0, k, .cons (a := a) ⟨h1, h2, _⟩ _, h => by
    simp at h
    subst h
    exact ⟨a, rfl, h1, h1 ▸ h2⟩
  | _, _, i + 1, k, .cons _ t, h => by
    obtain ⟨y, hy⟩ := repsB_get (i := i) t (by simpa using h)
    exact ⟨y, by simpa using hy⟩
end
instance {β : Type} [Rp β] : Rp (DB β) := ⟨fun K G v d => ∃ a o xs, v = .ref a ∧ G a = some (hoB a o) ∧ ObB a xs o ∧ RepsB K G xs d.l, fun s ⟨a, o, xs, e, h, ho, r⟩ => ⟨a, o, xs, e, s _ _ h, ho, repsB_mono s r⟩⟩
/-- one's own -/
structure OwnB {β : Type} [Rp β] (K : PySem.W.Frag) (H0 G H : Hp) (p : Addr) (d : DB β) : Prop where
  z : H0 p = none
  g : G p = none
  h : ∃ o xs, H p = some (hoB p o) ∧ ObB p xs o ∧ RepsB K G xs d.l
section
variable {α β ρ : Type} [Rp α] [Rp β]
variable {K : PySem.W.Frag} {σ : L2.St} {G0 H0 G H G1 H1 : Hp} {te td ty tv tx : TE} {tc : TT} {ma : Option α} {mb : Option β} {i : Nat} {d : DB β} {D : Ends} {out : ρ} {p q : Addr}
theorem OwnB.ne (x : OwnB K H0 G H p d) : H p ≠ none := by
  obtain ⟨o, xs, h, _⟩ := x.h
  rw [h]
  exact fun z => nomatch z
theorem OwnB.pn (x : OwnB K H0 G H p d) : PnAt H p := by
  obtain ⟨o, xs, h, ho, _⟩ := x.h
  exact ⟨_, h, pn_hoB ho⟩
theorem OwnB.mono (x : OwnB K H0 G H p d) (e : Ext G H G1 H1) : OwnB K H0 G1 H1 p d := by
  obtain ⟨o, xs, h, ho, r⟩ := x.h
  exact ⟨x.z, (e.a p x.ne).trans x.g, o, xs, e.h.k _ _ h, ho, repsB_mono e.g r⟩
theorem OwnB.off {o : HO} (x : OwnB K H0 G H p d) (n : p ≠ q) : OwnB K H0 G (upd H q o) p d := by
  obtain ⟨ob, xs, h, ho, r⟩ := x.h
  exact ⟨x.z, x.g, ob, xs, by rw [upd_ne n]; exact h, ho, r⟩
theorem OwnB.off2 {o : HO} (x : OwnB K H0 G H p d) (n : p ≠ q) (gq : G q = none) : OwnB K H0 (upd G q o) H p d := by
  obtain ⟨ob, xs, h, ho, r⟩ := x.h
  exact ⟨x.z, by rw [upd_ne n]; exact x.g, ob, xs, h, ho, repsB_mono (same_new gq) r⟩
theorem OwnB.ne2 (x : OwnB K H0 G H p d) (n : H q = none) : p ≠ q := fun e => x.ne (e ▸ n)
theorem OwnB.up (x : OwnB K H G1 H1 p d) (s : HK H0 H) : OwnB K H0 G1 H1 p d := ⟨s.free x.z, x.g, x.h⟩
theorem OwnB.show (x : OwnB K H0 G H p d) (e : Ext G0 H0 G H) : ∃ o, Ext G0 H0 (upd G p (hoB p o)) H ∧ Same G (upd G p (hoB p o)) ∧ rep K (upd G p (hoB p o)) (.ref p) d := by
  obtain ⟨o, xs, h, ho, r⟩ := x.h
  exact ⟨o, e.show x.z x.g h, same_new x.g, p, o, xs, rfl, upd_same, ho, repsB_mono (same_new x.g) r⟩
def FB (K : PySem.W.Frag) (te : TE) (σ : L2.St) (G H : Hp) (m : Option (DB β)) : Prop :=
  ∀ G1 H1, Ext G H G1 H1 → ∀ r, m = some r → ∀ Q : VK, (∀ p G2 H2, Ext G1 H1 G2 H2 → OwnB K H1 G2 H2 p r → Q (.ref p) H2) → te σ H1 Q
theorem FB.se {m : Option (DB β)} (h : FB K te σ G H m) : SE K te σ G H m := fun G1 H1 e r hm Q q =>
  h G1 H1 e r hm Q fun p G2 H2 e2 o => by
    obtain ⟨ks, e3, _, hr⟩ := o.show e2
    exact q _ _ _ e3 hr
theorem fb_new : FB K tDNewB σ G H (some (⟨[]⟩ : DB β)) := fun G1 H1 e r hm Q q => by
  cases hm
  intro p o np ho
  exact q p G1 _ (Ext.own e.s np) ⟨np, e.s.free np, o, [], upd_same, ho, .nil⟩
theorem fb_one {n : Option KB} (hk : SE K ty σ G H n) (hv : SE K tv σ G H mb) : FB K (tDOneB K ty tv) σ G H (n.bind fun k => mb.bind fun v => some (⟨[(k, v)]⟩ : DB β)) := fun G1 H1 e r hm Q q => by
  obtain ⟨k, hk1, hm⟩ := bind_some hm
  obtain ⟨x, hx1, hm⟩ := bind_some hm
  cases hm
  intro p o np ho
  have e1 : Ext G1 H1 G1 (upd H1 p (hoB p o)) := Ext.own e.s np
  refine hk G1 _ (e.trans e1) k hk1 _ fun y G2 H2 e2 hy => ?_
  refine hv G2 H2 ((e.trans e1).trans e2) x hx1 _ fun v G3 H3 e3 hv1 => ?_
  obtain ⟨b, z, c, ey, hb, hz, hc⟩ := (Rp.mono e3.g hy : rep K G3 y k)
  have hz : z = .int k.1 := hz
  have hc : c = .bl k.2 := hc
  subst hz hc ey
  have gp : G1 p = none := e.s.free np
  have hp2 : H3 p = some (hoB p o) := e3.h.k _ _ (e2.h.k _ _ upd_same)
  have gp3 : G3 p = none := by
    rw [e3.a p (by rw [e2.h.k _ _ upd_same]; exact fun z => nomatch z), e2.a p (by rw [upd_same]; exact fun z => nomatch z)]
    exact gp
  have hz1 : H1 p = none := np
  refine ⟨hp2, k, b, rfl, same_tup e3.s.s hb, fun o' u hu ho' => ?_⟩
  have e4 := (e1.trans e2).trans e3
  exact q p G3 _ (e4.put np gp3 ⟨_, hp2, pn_hoB ho⟩) ⟨np, gp3, o', _, upd_same, ho', .cons ⟨rfl, hb, v, hu, hv1⟩ .nil⟩
theorem fb_onep {k : KB} {x : β} (hk : SE K ty σ G H (some k)) (hv : SE K tv σ G H (some x)) : FB K (tDOneB K ty tv) σ G H (some (⟨[(k, x)]⟩ : DB β)) := fb_one hk hv
theorem st_setB {m : Option (DB β)} {k : DB β → Option ρ} (hs : Vw G H) (se : FB K te σ G H m) (hm : m.bind k = some out) (kont : ∀ x p G1 H1, Ext G H G1 H1 → OwnB K H G1 H1 p x → k x = some out → D.nx (σ.set i (some (.ref p))) H1) : tAsg te (gName i) D σ H := by
  obtain ⟨x, hx, hk⟩ := bind_some hm
  exact se G H (Ext.refl hs) x hx _ fun p G1 H1 e o => kont x p G1 H1 e o hk
theorem se_bin {m : Option (DB β)} {n : Option KB} (hk : SE K ty σ G H n) (hd : SE K td σ G H m) : SE K (tDInB K ty td) σ G H (n.bind fun y => m.bind fun x => some (bhas x y)) := fun G1 H1 e r hm Q q => by
  obtain ⟨k, hk1, hm⟩ := bind_some hm
  obtain ⟨d, hd1, hm⟩ := bind_some hm
  cases hm
  refine hk G1 H1 e k hk1 _ fun w G2 H2 e2 hw => ?_
  refine hd G2 H2 (e.trans e2) d hd1 _ fun v G3 H3 e3 ⟨a, o, xs, ea, h, ho, rs⟩ => ?_
  obtain ⟨b, z, c, ey, hb, hz, hc⟩ := (Rp.mono e3.g hw : rep K G3 w k)
  have hz : z = .int k.1 := hz
  have hc : c = .bl k.2 := hc
  subst hz hc
  refine ⟨a, o, xs, k, b, ea, ey, e3.s _ _ h, ho, fun x hx => same_tup e3.s.s (repsB_keys rs x hx), same_tup e3.s.s hb, ?_⟩
  rw [repsB_any rs]
  exact q _ G3 H3 (e2.trans e3) rfl
theorem se_binp {x : DB β} {y : KB} (hk : SE K ty σ G H (some y)) (hd : SE K td σ G H (some x)) : SE K (tDInB K ty td) σ G H (some (bhas x y)) := se_bin hk hd
theorem se_bnotin {m : Option (DB β)} {n : Option KB} (hk : SE K ty σ G H n) (hd : SE K td σ G H m) : SE K (tDNotInB K ty td) σ G H (n.bind fun y => m.bind fun x => some (!bhas x y)) := fun G1 H1 e r hm Q q => by
  obtain ⟨k, hk1, hm⟩ := bind_some hm
  obtain ⟨d, hd1, hm⟩ := bind_some hm
  cases hm
  refine hk G1 H1 e k hk1 _ fun w G2 H2 e2 hw => ?_
  refine hd G2 H2 (e.trans e2) d hd1 _ fun v G3 H3 e3 ⟨a, o, xs, ea, h, ho, rs⟩ => ?_
  obtain ⟨b, z, c, ey, hb, hz, hc⟩ := (Rp.mono e3.g hw : rep K G3 w k)
  have hz : z = .int k.1 := hz
  have hc : c = .bl k.2 := hc
  subst hz hc
  refine ⟨a, o, xs, k, b, ea, ey, e3.s _ _ h, ho, fun x hx => same_tup e3.s.s (repsB_keys rs x hx), same_tup e3.s.s hb, ?_⟩
  rw [repsB_any rs]
  exact q _ G3 H3 (e2.trans e3) rfl
theorem se_bnotinp {x : DB β} {y : KB} (hk : SE K ty σ G H (some y)) (hd : SE K td σ G H (some x)) : SE K (tDNotInB K ty td) σ G H (some (!bhas x y)) := se_bnotin hk hd
theorem st_bput {n : Option KB} {k : DB β → Option ρ} (hs : Vw G H) (hv : σ[i]? = some (some (.ref p))) (o : OwnB K H0 G H p d) (se : SE K tv σ G H mb) (sk : SE K ty σ G H n) (hm : (mb.bind fun x => n.bind fun j => (bputO d j x).bind k) = some out)
    (kont : ∀ es h G1 H1, Ext G H G1 H1 → OwnB K H0 G1 (upd H1 p h) p es → G1 p = none → k es = some out → D.nx σ (upd H1 p h)) : sDPutB K (tVar i) ty tv D σ H := by
  obtain ⟨x, hx, hm⟩ := bind_some hm
  obtain ⟨j, hj, hm⟩ := bind_some hm
  obtain ⟨es, he, hm⟩ := bind_some hm
  unfold bputO at he
  split at he
  · rename_i hl
    cases he
    refine se G H (Ext.refl hs) x hx _ fun v G1 H1 e1 hv1 => ?_
    refine ⟨.ref p, hv, ?_⟩
    refine sk G1 H1 e1 j hj _ fun w G2 H2 e2 hw => ?_
    obtain ⟨b, z, c, ey, hb, hz, hc⟩ := hw
    have hz : z = .int j.1 := hz
    have hc : c = .bl j.2 := hc
    subst hz hc
    have o2 := (o.mono e1).mono e2
    obtain ⟨ob, xs, hp, ho, rs⟩ := o2.h
    refine ⟨p, ob, xs, j, b, rfl, ey, hp, ho, fun x hx => same_tup e2.s.s (repsB_keys rs x hx), same_tup e2.s.s hb, by rw [Paired.length rs]; exact Nat.lt_of_lt_of_le hl (by decide), fun o' u hu ho' => ?_⟩
    exact kont _ _ G2 H2 (e1.trans e2) ⟨o2.z, o2.g, o', _, upd_same, ho', repsB_put rs hb hu (Rp.mono e2.g hv1)⟩ o2.g hm
  · cases he
theorem ie_keysB {m : Option (DB β)} (h : SE K td σ G H m) : IE K (iKeysB td) σ G H (m.bind fun x => some (bkeys x)) := fun G1 H1 e xs hm R q => by
  obtain ⟨x, hx, hm⟩ := bind_some hm
  cases hm
  refine h G1 H1 e x hx _ fun v G2 H2 e2 ⟨a, o, ys, ev, hg, ho, rs⟩ => ?_
  have len := Paired.length rs
  refine ⟨a, o, ys, ev, e2.s _ _ hg, ho, q _ G2 H2 e2 ⟨fun i G H s1 s2 hi => ⟨s2 _ _ (s1 _ _ hg), ?_⟩, fun i k G H s1 s2 hi => ?_⟩⟩
  · unfold bkeys at hi
    rw [List.length_map] at hi
    omega
  · obtain ⟨y, hy, ek, hk⟩ := repsB_get rs hi
    refine ⟨⟨s2 _ _ (s1 _ _ hg), (List.getElem?_eq_some_iff.mp hy).1⟩, fun u H' ⟨eH, y2, hy2, eu⟩ => ?_⟩
    rw [hy] at hy2
    cases hy2
    subst eH
    exact ⟨G, Ext.refl s2, y.2.1, .int k.1, .bl k.2, eu, same_tup s1 hk, rfl, rfl⟩
theorem ie_keysBp {x : DB β} (h : SE K td σ G H (some x)) : IE K (iKeysB td) σ G H (some (bkeys x)) := ie_keysB h
end
end Mi

/-! MiH: a tuple or a list (UL); a loop backwards over a list; five names. -/
namespace Mi
variable [Tbs]
open PySem PySem.Spec PyProof.Rows L2 RT
open Rp (rep)
/-- a tuple or a list -/
structure UL (α : Type) where
  l : List α
section
variable {α β γ δ ε ρ : Type} [Rp α] [Rp β] [Rp γ] [Rp δ] [Rp ε]
variable {K : PySem.W.Frag} {σ : L2.St} {G H : Hp} {te ta tb tl : TE} {i j l n m : Nat} {D : Ends} {out : ρ} {v : V}
instance : Rp (UL α) := ⟨fun K G v d => ∃ a vs, v = .ref a ∧ (SqL K G a vs ∨ SqT K G a vs) ∧ vs.length ≤ sizeLine ∧ Reps K G vs d.l, fun s ⟨a, vs, e, h, z, r⟩ => ⟨a, vs, e, h.imp s.seq (same_tup s), z, r.mono s⟩⟩
theorem se_ulL {mx : Option (List α)} (h : SE K te σ G H mx) : SE K te σ G H (mx.bind fun xs => some (UL.mk xs)) := fun G1 H1 e r hm Q q => by
  obtain ⟨xs, hx, hm⟩ := bind_some hm
  cases hm
  exact h G1 H1 e xs hx Q fun v G2 H2 e2 ⟨a, vs, ea, ha, z, rs⟩ => q v G2 H2 e2 ⟨a, vs, ea, .inl (SqL.of ha), z, rs⟩
theorem se_ulLp {xs : List α} (h : SE K te σ G H (some xs)) : SE K te σ G H (some (UL.mk xs)) := se_ulL h
theorem se_ulT3 {mx : Option (T3 α α α)} (h : SE K te σ G H mx) : SE K te σ G H (mx.bind fun t => some (UL.mk [t.a, t.b, t.c])) := fun G1 H1 e r hm Q q => by
  obtain ⟨t, ht, hm⟩ := bind_some hm
  cases hm
  exact h G1 H1 e t ht Q fun v G2 H2 e2 ⟨a, x, y, z, ea, ha, h1, h2, h3⟩ => q v G2 H2 e2 ⟨a, [x, y, z], ea, .inr ha, by show 3 ≤ sizeLine; rw [sizeLine_eq]; decide, .cons h1 (.cons h2 (.cons h3 .nil))⟩
theorem se_ulT3p {t : T3 α α α} (h : SE K te σ G H (some t)) : SE K te σ G H (some (UL.mk [t.a, t.b, t.c])) := se_ulT3 h
theorem rep_ulO3 {o : Option (T3 α α α)} {d : T3 α α α} (h : rep K G v o) (e : o = some d) : rep K G v (UL.mk [d.a, d.b, d.c]) := by
  subst e
  obtain ⟨⟨a, x, y, z, ea, ha, h1, h2, h3⟩, _⟩ := (h : ROpt K G v (some d))
  exact ⟨a, [x, y, z], ea, .inr ha, by show 3 ≤ sizeLine; rw [sizeLine_eq]; decide, .cons h1 (.cons h2 (.cons h3 .nil))⟩
instance : RpN (UL α) := ⟨fun ⟨_, _, h, _⟩ => by rw [h]; intro z; cases z⟩
theorem rep_ulOO {o : Option (T3 α α α)} (h : rep K G v o) : rep K G v (o.map fun d => UL.mk [d.a, d.b, d.c]) := by
  cases o with
  | none => exact h
  | some d => exact ⟨rep_ulO3 h rfl, h.2⟩
/-- a target for either -/
theorem pg_any {X : Cx} {tg : Expr} {g h : TG} (hg : PG X tg g) (hh : PG X tg h) : PG X tg (fun v σ H Q => g v σ H Q ∨ h v σ H Q) :=
  ⟨fun pins s σ H v u Q I r hw => hw.elim (hg.run pins s σ H v u Q I r) (hh.run pins s σ H v u Q I r)⟩
theorem unl3_some {xs : List α} {k : α → α → α → Option ρ} (h : unl3 xs k = some out) : ∃ a b c, xs = [a, b, c] ∧ k a b c = some out := by
  unfold unl3 at h
  split at h
  · exact ⟨_, _, _, rfl, h⟩
  · cases h
theorem st_unu3 {mx : Option (UL α)} {k : α → α → α → Option ρ} (hs : Vw G H) (se : SE K te σ G H mx) (hm : (mx.bind fun xs => unl3 xs.l k) = some out)
    (kont : ∀ a b c w_a w_b w_c G1 H1, Ext G H G1 H1 → rep K G1 w_a a → rep K G1 w_b b → rep K G1 w_c c → k a b c = some out → D.nx (((σ.set i (some w_a)).set j (some w_b)).set l (some w_c)) H1) : tAsg te (fun v σ H Q => gTup K 3 (gCons (gName i) (gCons (gName j) (gCons (gName l) gNil))) v σ H Q ∨ gUnl K 3 (gCons (gName i) (gCons (gName j) (gCons (gName l) gNil))) v σ H Q) D σ H := by
  obtain ⟨xs, hx, hk⟩ := bind_some hm
  refine se G H (Ext.refl hs) xs hx _ fun v0 G1 H1 e1 ⟨p0, vs0, ea, ha, l0, rs⟩ => ?_
  obtain ⟨a, b, c, exs, hk⟩ := unl3_some hk
  rw [exs] at rs
  cases rs with
  | @cons w_a _ _ _ r_a rs =>
    cases rs with
    | @cons w_b _ _ _ r_b rs =>
      cases rs with
      | @cons w_c _ _ _ r_c rs =>
        cases rs
        rcases ha with ha | ha
        · exact Or.inr ⟨p0, [w_a, w_b, w_c], ea, e1.s.seq ha, rfl, w_a, [w_b, w_c], rfl, w_b, [w_c], rfl, w_c, [], rfl, rfl, kont a b c w_a w_b w_c G1 H1 e1 r_a r_b r_c hk⟩
        · exact Or.inl ⟨p0, [w_a, w_b, w_c], ea, same_tup e1.s.s ha, rfl, w_a, [w_b, w_c], rfl, w_b, [w_c], rfl, w_c, [], rfl, rfl, kont a b c w_a w_b w_c G1 H1 e1 r_a r_b r_c hk⟩
/-- an item of either -/
def rIxU (K : PySem.W.Frag) : R2 := fun x y H Q => rIxL K x y H Q ∨ rIxT K x y H Q
theorem ix_any {X : Cx} : IxR X (rIxU X.K) := fun value slice pins s σ H x y v u Q I rx ry h hs => h.elim (fun h => ix_list value slice pins s σ H x y v u Q I rx ry h hs) fun h => ix_tup value slice pins s σ H x y v u Q I rx ry h hs
theorem ro_ixU : RO K (rIxU K) (fun (xs : UL α) (k : Int) => ixO xs.l k) := fun {G H v w x y z} s ⟨a, vs, e, h, l, rs⟩ hw hz Q q => by
  obtain ⟨u, h1, h2⟩ := atI_reps rs hz
  rcases h with h | h
  · exact .inl ⟨a, vs, y, u, e, hw, s.seq h, h1, q u G H (Ext.refl s) h2⟩
  · exact .inr ⟨a, vs, y, u, e, hw, same_tup s h, h1, q u G H (Ext.refl s) h2⟩
theorem se_ixU {mx : Option (UL α)} {k : Option Int} (ha : SE K ta σ G H mx) (hb : SE K tb σ G H k) : SE K (tOp (rIxU K) ta tb) σ G H (mx.bind fun x => k.bind fun y => ixO x.l y) := se_op (f := fun x y => ixO x.l y) ha hb ro_ixU
theorem se_ixUp {x : UL α} {y : Int} (ha : SE K ta σ G H (some x)) (hb : SE K tb σ G H (some y)) : SE K (tOp (rIxU K) ta tb) σ G H (ixO x.l y) := se_opp (f := fun x y => ixO x.l y) ha hb ro_ixU
/-- backwards -/
theorem ib_rev {mx : Option (List α)} (h : SE K tl σ G H mx) : IB K (iRevA K tl) σ G H (mx.bind fun xs => some xs.reverse) := fun G1 H1 e ys hm R q => by
  obtain ⟨xs, hx, hm⟩ := bind_some hm
  cases hm
  refine h G1 H1 e xs hx _ fun v G2 H2 e2 ⟨a, vs, ea, ha, z, rs⟩ => ?_
  have hl := rs.len
  refine ⟨a, vs, ea, .inl ⟨SqL.of (e2.s _ _ ha), q _ G2 H2 e2 ⟨fun i G H s1 s2 hi => ?_, fun i x G H s1 s2 hi => ?_⟩ (by rw [List.length_reverse, ← hl]; exact z)⟩⟩
  · rw [List.length_reverse] at hi
    show vs.length ≤ i
    omega
  · have hi0 : i < xs.reverse.length := (List.getElem?_eq_some_iff.mp hi).1
    rw [List.length_reverse] at hi0
    rw [List.getElem?_reverse hi0] at hi
    obtain ⟨w, h1, h2⟩ := rs.get hi
    have hS := SqL.of (K := K) (s2 _ _ (s1 _ _ ha))
    rw [← hl] at h1
    refine ⟨⟨by omega, vs, w, hS, h1⟩, fun u H' ⟨e1, hy⟩ => ?_⟩
    subst e1
    have eu := hy vs hS
    rw [h1] at eu
    cases eu
    exact ⟨G, Ext.refl s2, Rp.mono s1 h2⟩
theorem ib_revp {xs : List α} (h : SE K tl σ G H (some xs)) : IB K (iRevA K tl) σ G H (some xs.reverse) := ib_rev h
theorem g_four {d : T4 α β γ δ} {Q : L2.St → Hp → Prop} (hs : Vw G H) (h : rep K G v d) (kont : ∀ x y z u, rep K G x d.a → rep K G y d.b → rep K G z d.c → rep K G u d.d → Q ((((σ.set i (some x)).set j (some y)).set l (some z)).set n (some u)) H) : gTup K 4 (gCons (gName i) (gCons (gName j) (gCons (gName l) (gCons (gName n) gNil)))) v σ H Q := by
  obtain ⟨a, x, y, z, u, ea, ha, h1, h2, h3, h4⟩ := h
  exact ⟨a, [x, y, z, u], ea, same_tup hs.s ha, rfl, x, [y, z, u], rfl, y, [z, u], rfl, z, [u], rfl, u, [], rfl, rfl, kont x y z u h1 h2 h3 h4⟩
theorem g_five {d : T5 α β γ δ ε} {Q : L2.St → Hp → Prop} (hs : Vw G H) (h : rep K G v d) (kont : ∀ x y z u w, rep K G x d.a → rep K G y d.b → rep K G z d.c → rep K G u d.d → rep K G w d.e → Q (((((σ.set i (some x)).set j (some y)).set l (some z)).set n (some u)).set m (some w)) H) : gTup K 5 (gCons (gName i) (gCons (gName j) (gCons (gName l) (gCons (gName n) (gCons (gName m) gNil))))) v σ H Q := by
  obtain ⟨a, x, y, z, u, w, ea, ha, h1, h2, h3, h4, h5⟩ := h
  exact ⟨a, [x, y, z, u, w], ea, same_tup hs.s ha, rfl, x, [y, z, u, w], rfl, y, [z, u, w], rfl, z, [u, w], rfl, u, [w], rfl, w, [], rfl, rfl, kont x y z u w h1 h2 h3 h4 h5⟩
end
end Mi

/-! MiJ: lambdas of two parameters handed to a def. -/
namespace Mi
variable [Tbs]
open PySem PySem.Spec PyProof.Rows L2 LamX NdefX
section
variable {X : Cx} {pins : List (Addr × Obj)} {σ : L2.St} {H : Hp} {s : Shared} {cl : List (Str × Addr)} {fr : List Str} {ws : List (Option V)}
/-- what the cells held when the running frame began they hold still -/
theorem cells_later (C : CellsAt cl fr ws X.s_0.heap X.H_0) (hx : X.ex = []) (I : Inv X pins σ H s) : CellsAt cl fr ws s.heap H := by
  have nx : ∀ c : Addr, c ∉ X.ex := fun c => by rw [hx]; simp
  have kp : ∀ y c, cl.lookup y = some c → ∀ v, X.s_0.heap.IsCell c v → s.heap.IsCell c v := fun y c e v ⟨o, ho, hd⟩ => by
    obtain ⟨sl, q⟩ := I.base.any ho (C.all y c e).1 (nx c)
    exact ⟨_, q, hd⟩
  refine ⟨C.len, fun y c e => ?_, C.inj, fun i y e => ?_⟩
  · obtain ⟨n, v, z⟩ := C.all y c e
    refine ⟨?_, v, kp y c e v z⟩
    obtain ⟨o, ho, _⟩ := z
    exact I.base.free c o ho n (nx c)
  · obtain ⟨c, hc, hv⟩ := C.has i y e
    refine ⟨c, hc, fun v ev => ?_⟩
    obtain ⟨u, r, z⟩ := hv v ev
    exact ⟨u, r, kp y c hc _ z⟩
end
/-- a lambda's words, the cells that it captured, its code object -/
structure LF where
  qual : Str
  params : Arguments
  body : Expr
  scope : Scope
  cl : List (Str × Addr)
  c : Addr
abbrev LF.nf (F : LF) : NF := ⟨"<lambda>", F.qual, F.params, [], F.scope, F.cl, F.c⟩
/-- the object at f is the lambda -/
def LamAt (f : Addr) (F : LF) (h : Heap) : Prop := ∃ pm ctv, h.get? f = some (PySem.W.kla_obj "<lambda>" F.qual F.params F.body F.scope F.cl pm F.c ctv)
/-- its promise: sp ws, ws what its captured cells hold at the call -/
structure LOk (P : Program) (w : World) (K : PySem.W.Frag) (mg : Str → Option Value) (base : Heap) (k : Nat) (F : LF) (ps fr : List Str) (sp : List (Option V) → Sp) : Prop where
  run : ∀ (f : Addr) (A : Around) (outer : List Env) (s : Shared) (H : Hp) (us : List Value) (vs : List V) (ws : List (Option V)) (Q : VK) (E : XK), Room k A → Env0 P w K mg base A outer s H → LamAt f F s.heap → H F.c = some (CodeO F.c F.qual) →
    CellsAt F.cl fr ws s.heap H → Vals vs us → sp ws vs H Q E → codeAny (model P w) A (.call (.ref f) ⟨us, []⟩) (CR CX0 outer P w H s Q E) s
section
variable {P : Program} {w : World} {K : PySem.W.Frag} {mg : Str → Option Value} {base : Heap} {N ps fr : List Str} {F : LF} {k : Nat} {sp : List (Option V) → Sp}
theorem lok_of (S : NScope N ps fr F.scope) (hb : ∀ (pm ctv : Value) (us : List Value), us.length = ps.length → bindArgs (PySem.W.kla_fn "<lambda>" F.qual F.params F.body F.scope F.cl pm (.ref F.c) ctv) ⟨us, []⟩ = pure (ps.zip us)) (len : ∀ ws vs H Q E, sp ws vs H Q E → vs.length = ps.length)
    (hbody : ∀ (f : Addr) (A : Around) (outer : List Env) (s : Shared) (H : Hp) (vs : List V) (ws : List (Option V)) (Q : VK) (E : XK), Room k (A.deeper (envF F.nf f s.heap.objs.size)) → ws.length = fr.length → sp ws vs H Q E →
      ∃ t : TE, PE (ncx CX0 P w K mg base N F.nf f A outer s H E) F.body t ∧ t (startF N vs ws) H Q) :
    LOk P w K mg base (k + 1) F ps fr sp := by
  refine ⟨fun f A outer s H us vs ws Q E hr e0 hf hc C r hsp => ?_⟩
  have hl := len _ _ _ _ _ hsp
  have lim : s.heap.NoLimit := e0.mod.nolimit.keeps fun b o e => (e0.bs b o e).1
  obtain ⟨pm, ctv, ho⟩ := hf
  refine PySem.W.kla_callFunE hr.depth ho rfl S.co S.gen rfl (codeO_at e0.hok hc) ?_
  rw [hb pm ctv us (by rw [← r.length]; exact hl)]
  refine wpAny_pure (wpAny_newFunctionEnv S.nocell (fun ⟨n, _⟩ hy => S.par n (List.of_mem_zip hy).1) (fun h₁ hns hsb => ⟨lim.fresh _ hsb, ?_⟩) S.kind)
  show codeAny _ _ (.expr F.body (envF F.nf f s.heap.objs.size)) _ _
  have kp : ∀ b o, s.heap.get? b = some o → h₁.get? b = some o := fun b o e => hsb.extBut b o (Nat.ne_of_lt (Heap.lt_size e)) (Heap.get?_push_of_some _ e)
  obtain ⟨t, ht, hq⟩ := hbody f A outer s H vs ws Q E (hr.deeper _) C.len hsp
  have I : Inv (ncx CX0 P w K mg base N F.nf f A outer s H E) [] (startF N vs ws) H { s with heap := h₁, toks := s.toks + (ps.zip us).length } := inv_startN S hr.hd e0 hl r C hns kp
  refine PySem.W.kla_codeExpr (wpAny_mono (ht.run [] _ (startF N vs ws) H Q I hq) (fun v s' hs => ?_) fun e s' hs => hs)
  obtain ⟨w', H', J, rv, q⟩ := hs
  exact ⟨w', H', J.os, J.bare, J.base, J.hok, rv, q⟩
end

/-! ### objects shown as they are, and hidden again -/
abbrev DO := List (Addr × Obj)
omit [Tbs] in
theorem do_mem {a : Addr} {o : Obj} (l : DO) (e : l.lookup a = some o) : (a, o) ∈ l := by
  induction l with
  | nil => cases e
  | cons p l ih =>
    obtain ⟨b, o1⟩ := p
    cases hb : a == b with
    | true =>
      rw [List.lookup_cons, hb] at e
      have h1 : a = b := eq_of_beq hb
      have h2 : o1 = o := Option.some.inj e
      rw [h1, h2]
      exact List.mem_cons_self
    | false =>
      rw [List.lookup_cons, hb] at e
      exact List.mem_cons_of_mem _ (ih e)
omit [Tbs] in
theorem do_ex {a : Addr} {o : Obj} (l : DO) (h : (a, o) ∈ l) : ∃ o2, l.lookup a = some o2 := by
  induction l with
  | nil => cases h
  | cons p l ih =>
    obtain ⟨b, o1⟩ := p
    cases hb : a == b with
    | true => exact ⟨o1, by rw [List.lookup_cons, hb]⟩
    | false =>
      rw [List.lookup_cons, hb]
      rcases List.mem_cons.mp h with e | h
      · have e1 : a = b := congrArg Prod.fst e
        have e2 : (a == b) = true := by rw [e1]; exact beq_self_eq_true b
        rw [e2] at hb
        cases hb
      · exact ih h
def shO (D : DO) (H : Hp) : Hp := fun b => match D.lookup b with
  | some o => some (hoB b o)
  | none => H b
def hdO (D : DO) (H : Hp) : Hp := fun b => match D.lookup b with
  | some _ => none
  | none => H b
section
variable {P : Program} {w : World} {K : PySem.W.Frag} {mg : Str → Option Value} {base : Heap} {D : DO} {H H' : Hp} {h h' : Heap} {a b : Addr} {o : Obj} {A : Around} {outer : List Env} {s s' : Shared} {Q Q' : VK} {u : Value} {fs : List Addr}
theorem shO_in (e : D.lookup b = some o) : shO D H b = some (hoB b o) := by unfold shO; rw [e]
theorem shO_out (e : D.lookup b = none) : shO D H b = H b := by unfold shO; rw [e]
theorem hdO_in (e : D.lookup b = some o) : hdO D H b = none := by unfold hdO; rw [e]
theorem hdO_out (e : D.lookup b = none) : hdO D H b = H b := by unfold hdO; rw [e]
theorem out_of (e : H b = some (x : HO)) (hD : ∀ a o, D.lookup a = some o → H a = none) : D.lookup b = none := by
  cases hd : D.lookup b with
  | none => rfl
  | some o => rw [hD b o hd] at e; cases e
theorem out_of2 {x : HO} (e : H b = some x) (hx : ∀ f, x ≠ .ext f) (hD : ∀ a o, D.lookup a = some o → H a = some (hoB a o)) : D.lookup b = none := by
  cases hd : D.lookup b with
  | none => rfl
  | some o =>
    rw [hD b o hd] at e
    exact absurd (Option.some.inj e).symm (hx _)
theorem hok_show (hok : HOk P w H h) (hD : ∀ a o, D.lookup a = some o → h.get? a = some o ∧ H a = none) : HOk P w (shO D H) h := fun a x e => by
  have hn : ∀ a o, D.lookup a = some o → H a = none := fun a o q => (hD a o q).2
  cases hd : D.lookup a with
  | some o1 =>
    rw [shO_in hd] at e
    rw [← Option.some.inj e]
    exact hoB_ok (hD a o1 hd).1
  | none =>
    rw [shO_out hd] at e
    exact (hok a x e).stay (fun d v _ q => q) (fun d q => by rw [shO_out (out_of q hn)]; exact q) (fun d xs q => by rw [shO_out (out_of q hn)]; exact q)
theorem hok_hide (hok : HOk P w H h) (hD : ∀ a o, D.lookup a = some o → H a = some (hoB a o)) : HOk P w (hdO D H) h := fun a x e => by
  cases hd : D.lookup a with
  | some o1 =>
    rw [hdO_in hd] at e
    cases e
  | none =>
    rw [hdO_out hd] at e
    exact (hok a x e).stay (fun d v _ q => q) (fun d q => by rw [hdO_out (out_of2 q (fun f z => by cases z) hD)]; exact q) (fun d xs q => by rw [hdO_out (out_of2 q (fun f z => by cases z) hD)]; exact q)
/-- for the time of a call they are shown -/
theorem show_env (e0 : Env0 P w K mg base A outer s H) (hD : ∀ a o, D.lookup a = some o → s.heap.get? a = some o ∧ H a = none ∧ base.get? a = none ∧ a ∉ frs outer) : Env0 P w K mg base A outer s (shO D H) := by
  refine ⟨e0.frames, e0.mod, fun b o e => ⟨(e0.bs b o e).1, ?_⟩, e0.bsz, e0.funs, fun b hb => ?_, hok_show e0.hok fun a o q => ⟨(hD a o q).1, (hD a o q).2.1⟩, e0.bare⟩
  · cases hd : D.lookup b with
    | none => rw [shO_out hd]; exact (e0.bs b o e).2
    | some o1 => rw [(hD b o1 hd).2.2.1] at e; cases e
  · cases hd : D.lookup b with
    | none => rw [shO_out hd]; exact e0.frf b hb
    | some o1 => exact absurd hb (hD b o1 hd).2.2.2
theorem show_end (hD : ∀ a o, D.lookup a = some o → s.heap.get? a = some o ∧ H a = none) (c : CE outer P w (shO D H) s Q' u s') (hQ : ∀ v H', Q' v H' → (∀ a o, D.lookup a = some o → H' a = some (hoB a o)) ∧ Q v (hdO D H')) : CE outer P w H s Q u s' := by
  obtain ⟨v, H1, os, br, un, hok, r, q⟩ := c
  obtain ⟨hs, q⟩ := hQ v H1 q
  have hn : ∀ a o, D.lookup a = some o → H a = none := fun a o q => (hD a o q).2
  have at_ : ∀ a o, D.lookup a = some o → s'.heap.get? a = some o := fun a o e => (hok a _ (hs a o e)).1
  refine ⟨v, hdO D H1, os, br, ⟨fun b o e n hf hx => ?_, fun b o e n hf hx => ?_, fun b o e n hx => ?_, un.there, fun b xs e => ?_, fun b o x e => ?_, fun b ps e => ?_⟩, hok_hide hok hs, r, q⟩
  · cases hd : D.lookup b with
    | none => exact un.keep b o e (by rw [shO_out hd]; exact n) hf hx
    | some o1 =>
      rw [(hD b o1 hd).1] at e
      rw [← Option.some.inj e]
      exact at_ b o1 hd
  · cases hd : D.lookup b with
    | none => exact un.slot b o e (by rw [shO_out hd]; exact n) hf hx
    | some o1 =>
      rw [(hD b o1 hd).1] at e
      rw [← Option.some.inj e]
      exact ⟨o1.slots, at_ b o1 hd⟩
  · cases hd : D.lookup b with
    | none => rw [hdO_out hd]; exact un.free b o e (by rw [shO_out hd]; exact n) hx
    | some o1 => exact hdO_in hd
  · have hd := out_of e hn
    rw [hdO_out hd]
    exact un.tups b xs (by rw [shO_out hd]; exact e)
  · have hd := out_of e hn
    rw [hdO_out hd]
    exact un.frzs b o x (by rw [shO_out hd]; exact e)
  · have hd := out_of e hn
    rw [hdO_out hd]
    exact un.tbls b ps (by rw [shO_out hd]; exact e)
/-- .. hidden -/
theorem hide_env (e0 : Env0 P w K mg base A outer s H) (hD : ∀ a o, D.lookup a = some o → H a = some (hoB a o)) : Env0 P w K mg base A outer s (hdO D H) := by
  refine ⟨e0.frames, e0.mod, fun b o e => ⟨(e0.bs b o e).1, ?_⟩, e0.bsz, e0.funs, fun b hb => ?_, hok_hide e0.hok hD, e0.bare⟩
  · cases hd : D.lookup b with
    | none => rw [hdO_out hd]; exact (e0.bs b o e).2
    | some o1 => exact hdO_in hd
  · cases hd : D.lookup b with
    | none => rw [hdO_out hd]; exact e0.frf b hb
    | some o1 => exact hdO_in hd
theorem hide_end (e0 : Env0 P w K mg base A outer s H) (hD : ∀ a o, D.lookup a = some o → H a = some (hoB a o)) (c : CE outer P w (hdO D H) s Q' u s') (hQ : ∀ v H', (∀ a o, D.lookup a = some o → H' a = none) → Q' v H' → Q v (shO D H')) : CE outer P w H s Q u s' := by
  obtain ⟨v, H1, os, br, un, hok, r, q⟩ := c
  have at0 : ∀ a o, D.lookup a = some o → s.heap.get? a = some o := fun a o e => (e0.hok a _ (hD a o e)).1
  have nf : ∀ a o, D.lookup a = some o → a ∉ frs outer := fun a o e hf => by
    have := e0.frf a hf
    rw [hD a o e] at this
    cases this
  have hn : ∀ a o, D.lookup a = some o → H1 a = none := fun a o e => un.free a o (at0 a o e) (hdO_in e) (by simp)
  have at_ : ∀ a o, D.lookup a = some o → s'.heap.get? a = some o := fun a o e => un.keep a o (at0 a o e) (hdO_in e) (nf a o e) (by simp)
  have no : ∀ b, H b = none → D.lookup b = none := fun b n => by
    cases hd : D.lookup b with
    | none => rfl
    | some o1 => rw [hD b o1 hd] at n; cases n
  refine ⟨v, shO D H1, os, br, ⟨fun b o e n hf hx => un.keep b o e (by rw [hdO_out (no b n)]; exact n) hf hx, fun b o e n hf hx => un.slot b o e (by rw [hdO_out (no b n)]; exact n) hf hx, fun b o e n hx => ?_, un.there, fun b xs e => ?_, fun b o x e => ?_, fun b ps e => ?_⟩, hok_show hok fun a o e => ⟨at_ a o e, hn a o e⟩, r, hQ v H1 hn q⟩
  · rw [shO_out (no b n)]
    exact un.free b o e (by rw [hdO_out (no b n)]; exact n) hx
  · have hd := out_of2 e (fun f z => by cases z) hD
    rw [shO_out hd]
    exact un.tups b xs (by rw [hdO_out hd]; exact e)
  · have hd := out_of2 e (fun f z => by cases z) hD
    rw [shO_out hd]
    exact un.frzs b o x (by rw [hdO_out hd]; exact e)
  · have hd := out_of2 e (fun f z => by cases z) hD
    rw [shO_out hd]
    exact un.tbls b ps (by rw [hdO_out hd]; exact e)
end
/-! ### the lambda is made -/
section
variable {X : Cx} {pins : List (Addr × Obj)} {σ : L2.St} {H : Hp} {s : Shared}
/-- all but the table stays; nothing goes -/
structure LamH (P : Addr) (H H1 : Hp) : Prop where
  k : ∀ b o, b ≠ P → H b = some o → H1 b = some o
  d : ∀ b, H1 b = none → H b = none
theorem lam_new {T : List (Addr × Str)} {c P : Addr} {params : Arguments} {body : Expr} {scope : Scope} {pos : Pos} {E : Value → Shared → Prop} {Q : Value → Shared → Prop} (I : Inv X pins σ H s) (TB : TabB X.base X.mg c P) (hcode : X.env.code = .ref c)
    (hm : (P, X.env.qual ++ "<lambda>") ∈ T) (hu : ∀ p ∈ T, p.1 = P → p.2 = X.env.qual ++ "<lambda>") (hT : Tabs T H) (hdef : defaultsOf params X.env = ([], [])) (hfree : ∀ y ∈ scope.names, y.2 = .free → ∃ c, X.env.cells.lookup y.1 = some c)
    (h : ∀ (f c' : Addr) (H1 : Hp) (s' : Shared), Inv X pins σ H1 s' → LamH P H H1 → Tabs T H1 → LamAt f ⟨X.env.qual ++ "<lambda>", params, body, scope, cloFrom X.env.cells scope.names [], c'⟩ s'.heap → H1 f = none → f ∉ frs X.stack → X.base.get? f = none → H1 c' = some (CodeO c' (X.env.qual ++ "<lambda>")) → Q (.ref f) s') :
    wpAny (model X.prog X.w) X.A (eval (.Lambda params body scope pos) X.env) Q E s := by
  obtain ⟨ps, hP, ht, ha⟩ := hT _ hm
  refine PySem.W.kla_eval hdef ?_
  have bP := TB.bm.keeps I.bk
  have hP' : s.heap.get? P = some { cls := .none, data := .fields ps } := I.hok P _ hP
  have nofr : ∀ f, s.heap.objs.size ≤ f → f ∉ frs X.stack := fun f hf z => by
    rcases List.mem_cons.mp (I.stkSub _ z) with e | e
    · have h1 := I.lt
      rw [← e] at h1
      exact Nat.lt_irrefl _ (Nat.lt_of_lt_of_le h1 hf)
    · exact I.nofs hf e
  have nob : ∀ f, s.heap.objs.size ≤ f → X.base.get? f = none := fun f hf => by
    cases hb : X.base.get? f with
    | none => rfl
    | some o => exact absurd (Nat.lt_of_lt_of_le (Heap.lt_size (I.bk f o hb)) hf) (Nat.lt_irrefl _)
  cases hc : codeAmong pos ps.toList with
  | some cv =>
    obtain ⟨c', e, hco⟩ := ha pos cv hc
    subst e
    refine PySem.W.kla_makeFunctionHit (mg := X.mg) (c := c) (P := P) (ps := ps) (closure_ok hfree) I.ok.glob (I.mod.glob.keeps I.bk) hcode (TB.code.keeps I.bk) hP' ht hc bP fun ctv h' tk hx hsz => ?_
    exact h h'.objs.size c' H _ (I.kept fun b o e => Heap.get?_push_of_some _ (hx b o e)) ⟨fun b o _ e => e, fun b e => e⟩ hT ⟨_, ctv, Heap.get?_push_size _ rfl⟩ (I.hok.fresh hsz) (nofr _ hsz) (nob _ hsz) hco
  | none =>
    refine PySem.W.kla_makeFunction (mg := X.mg) (c := c) (P := P) (ps := ps) (closure_ok hfree) I.ok.glob (I.mod.glob.keeps I.bk) hcode (TB.code.keeps I.bk) hP' ht hc TB.gP bP fun c' ctv h' tk hx hge hlt hrec htb => ?_
    obtain ⟨c2, oc, vs, t, e2, hoc, hd, hv⟩ := hrec
    cases e2
    have hsz : s.heap.objs.size ≤ h'.objs.size := Nat.le_trans hge (Nat.le_of_lt hlt)
    have nC : H c' = none := I.hok.fresh hge
    let H1 := upd (upd H P (.tbl (ps ++ #[rawInt pos.line, rawInt pos.col, .ref c']))) c' (CodeO c' (X.env.qual ++ "<lambda>"))
    have kk : ∀ b o, b ≠ P → H b = some o → H1 b = some o := fun b o n e => by
      show upd (upd H P _) c' _ b = _
      rw [upd_ne (ne_of_none e nC), upd_ne n]
      exact e
    have co : ∀ c0 q, H c0 = some (CodeO c0 q) → H1 c0 = some (CodeO c0 q) := fun c0 q e => kk c0 _ (fun z => by rw [z, hP] at e; exact codeO_ne ps (Option.some.inj e).symm) e
    have I1 : Inv X pins σ H1 _ := inv_table (t' := tk) (more := #[rawInt pos.line, rawInt pos.col, .ref c']) (h' := h'.push (PySem.W.kla_obj "<lambda>" (X.env.qual ++ "<lambda>") params body scope (cloFrom X.env.cells scope.names []) ((X.mg "__name__").getD .none) c' ctv)) I hP
      (fun b o hb e => Heap.get?_push_of_some _ (hx b o hb e)) (Heap.get?_push_of_some _ htb) hge ⟨oc, vs, t, Heap.get?_push_of_some _ hoc, hd, hv⟩
    refine h h'.objs.size c' H1 _ I1 ⟨kk, fun b e => upd_none (upd_none e)⟩ (fun p hp => ?_) ⟨_, ctv, Heap.get?_push_size _ rfl⟩ ?_ (nofr _ hsz) (nob _ hsz) upd_same
    · by_cases hb : p.1 = P
      · rw [hu p hp hb, hb]
        refine ⟨_, (upd_ne (ne_of_none hP nC)).trans upd_same, ?_, fun p' cv hcv => ?_⟩
        · rw [Array.toList_append]
          exact PySem.TriplesOk_snoc _ _ _ _ ht
        · rw [Array.toList_append] at hcv
          rcases among_app _ ht hcv with z | z
          · obtain ⟨c0, e1, e2⟩ := ha p' cv z
            exact ⟨c0, e1, co _ _ e2⟩
          · exact ⟨c', z, upd_same⟩
      · obtain ⟨ps', a1, a2, a3⟩ := hT p hp
        refine ⟨ps', kk _ _ hb a1, a2, fun p' cv hcv => ?_⟩
        obtain ⟨c0, e1, e2⟩ := a3 p' cv hcv
        exact ⟨c0, e1, co _ _ e2⟩
    · exact (upd_ne (Nat.ne_of_gt hlt)).trans ((upd_ne (Nat.ne_of_gt (Nat.lt_of_lt_of_le (Heap.lt_size hP') hsz))).trans (I.hok.fresh hsz))
end

/-! ### what it is to the view -/
/-- objects that are no tables and no code objects -/
def GoodD (D : DO) : Prop := ∀ a o, D.lookup a = some o → (∀ vs, o.data ≠ .fields vs) ∧ o.data ≠ .freed
theorem pn_obj {a : Addr} {o : Obj} (h1 : ∀ vs, o.data ≠ .fields vs) (h2 : o.data ≠ .freed) : Pn (hoB a o) := by
  refine ⟨nt_ext, fun c q z => ?_⟩
  have z2 : (fun h : Heap => h.get? a = some o) = fun h => ∃ (oc : Obj) (vs : Array Value) (t : Tok), h.get? c = some oc ∧ oc.data = .fields vs ∧ vs[1]? = some (.str q t) := HO.ext.inj z
  have hg : ∀ b : Addr, b < a + 1 → (⟨Array.replicate (a + 1) o, {}⟩ : Heap).get? b = some o := fun b hb => by
    have e : (Array.replicate (a + 1) o)[b]? = some o := by
      rw [Array.getElem?_replicate, if_pos hb]
    unfold Heap.get?
    rw [e]
    obtain ⟨oc, od, dd, sl⟩ := o
    cases dd with
    | freed => exact absurd rfl h2
    | _ => rfl
  have h3 := congrFun z2 (⟨Array.replicate (a + 1) o, {}⟩ : Heap)
  have h4 : (⟨Array.replicate (a + 1) o, {}⟩ : Heap).get? a = some o := hg a (Nat.lt_succ_self a)
  obtain ⟨oc, vs, t, e1, e2, _⟩ := (h3 ▸ h4 : ∃ (oc : Obj) (vs : Array Value) (t : Tok), (⟨Array.replicate (a + 1) o, {}⟩ : Heap).get? c = some oc ∧ oc.data = .fields vs ∧ vs[1]? = some (.str q t))
  by_cases hc : c < a + 1
  · rw [hg c hc] at e1
    rw [← Option.some.inj e1] at e2
    exact h1 _ e2
  · unfold Heap.get? at e1
    rw [Array.getElem?_replicate, if_neg hc] at e1
    cases e1
section
variable {K : PySem.W.Frag} {D : DO} {G H G' H' G1 H1 : Hp} {a b : Addr} {o : Obj}
theorem tab_hide {P : Addr} {q : Str} (g : GoodD D) (hD : ∀ a o, D.lookup a = some o → H a = some (hoB a o)) (t : TabS H P q) : TabS (hdO D H) P q := by
  obtain ⟨ps, h1, h2, h3⟩ := t
  refine ⟨ps, by rw [hdO_out (out_of2 h1 (fun f z => by cases z) hD)]; exact h1, h2, fun pos cv hc => ?_⟩
  obtain ⟨c, e1, e2⟩ := h3 pos cv hc
  refine ⟨c, e1, ?_⟩
  cases hd : D.lookup c with
  | none => rw [hdO_out hd]; exact e2
  | some o1 =>
    rw [hD c o1 hd] at e2
    exact absurd (Option.some.inj e2) ((pn_obj (g c o1 hd).1 (g c o1 hd).2).c c q)
theorem tab_show {P : Addr} {q : Str} (hn : ∀ a o, D.lookup a = some o → H a = none) (t : TabS H P q) : TabS (shO D H) P q := by
  obtain ⟨ps, h1, h2, h3⟩ := t
  refine ⟨ps, by rw [shO_out (out_of h1 hn)]; exact h1, h2, fun pos cv hc => ?_⟩
  obtain ⟨c, e1, e2⟩ := h3 pos cv hc
  exact ⟨c, e1, by rw [shO_out (out_of e2 hn)]; exact e2⟩
theorem vw_show (v : Vw G H) (hn : ∀ a o, D.lookup a = some o → H a = none) : Vw G (shO D H) := ⟨fun b u e => by
  have e1 := v.s b u e
  rw [shO_out (out_of e1 hn)]
  exact e1, fun p hp => ⟨(v.t p hp).1, tab_show hn (v.t p hp).2⟩⟩
theorem vw_hide (v : Vw G H) (g : GoodD D) (hD : ∀ a o, D.lookup a = some o → H a = some (hoB a o)) (hg : ∀ a o, D.lookup a = some o → G a = none) : Vw G (hdO D H) := ⟨fun b u e => by
  rw [hdO_out (out_of e hg)]
  exact v.s b u e, fun p hp => ⟨(v.t p hp).1, tab_hide g hD (v.t p hp).2⟩⟩
/-- behind a call with what is shown -/
theorem ext_shown (e : Ext G (shO D H) G' H') (g : GoodD D) (hn : ∀ a o, D.lookup a = some o → H a = none) (hg : ∀ a o, D.lookup a = some o → G a = none) : (∀ a o, D.lookup a = some o → H' a = some (hoB a o)) ∧ Ext G H G' (hdO D H') := by
  have hs : ∀ a o, D.lookup a = some o → H' a = some (hoB a o) := fun a o q => e.h.k _ _ (shO_in q) nt_ext
  have hg' : ∀ a o, D.lookup a = some o → G' a = none := fun a o q => (e.a a (by rw [shO_in q]; exact fun z => by cases z)).trans (hg a o q)
  refine ⟨hs, e.g, vw_hide e.s g hs hg', ⟨fun b u eb nt => ?_, fun b eb => ?_⟩, fun b nb => ?_⟩
  · have hd := out_of eb hn
    rw [hdO_out hd]
    exact e.h.k b u (by rw [shO_out hd]; exact eb) nt
  · cases hd : D.lookup b with
    | some o1 => exact hn b o1 hd
    | none =>
      rw [hdO_out hd] at eb
      have := e.h.d b eb
      rw [shO_out hd] at this
      exact this
  · cases hb : H b with
    | none => exact absurd hb nb
    | some u => exact e.a b (by rw [shO_out (out_of hb hn), hb]; exact fun z => by cases z)
/-- behind a call with what is hidden -/
theorem ext_hidden (e : Ext G (hdO D H) G' H') (hD : ∀ a o, D.lookup a = some o → H a = some (hoB a o)) (hg : ∀ a o, D.lookup a = some o → G a = none) (hn : ∀ a o, D.lookup a = some o → H' a = none) : Ext G H G' (shO D H') := by
  refine ⟨e.g, vw_show e.s hn, ⟨fun b u eb nt => ?_, fun b eb => ?_⟩, fun b nb => ?_⟩
  · cases hd : D.lookup b with
    | some o1 => rw [shO_in hd, ← hD b o1 hd]; exact eb
    | none => rw [shO_out hd]; exact e.h.k b u (by rw [hdO_out hd]; exact eb) nt
  · cases hd : D.lookup b with
    | some o1 => rw [shO_in hd] at eb; cases eb
    | none =>
      rw [shO_out hd] at eb
      have := e.h.d b eb
      rw [hdO_out hd] at this
      exact this
  · cases hd : D.lookup b with
    | some o1 => rw [hg b o1 hd]; exact e.s.free (hn b o1 hd)
    | none => exact e.a b (by rw [hdO_out hd]; exact nb)
end

/-! ### a function as a value: two whole numbers to a truth -/
/-- what the captured cells hold, by the objects that are shown -/
structure CellsD (cl : List (Str × Addr)) (fr : List Str) (ws : List (Option V)) (D : DO) : Prop where
  len : ws.length = fr.length
  all : ∀ y c, cl.lookup y = some c → ∃ o v, D.lookup c = some o ∧ o.data = .cell v
  inj : ∀ x y c, cl.lookup x = some c → cl.lookup y = some c → x = y
  has : ∀ (i : Nat) (y : Str), fr[i]? = some y → ∃ c, cl.lookup y = some c ∧ ∀ v, ws[i]? = some (some v) → ∃ u o, RelV v u ∧ D.lookup c = some o ∧ o.data = .cell (some u)
section
variable {cl : List (Str × Addr)} {fr : List Str} {ws : List (Option V)} {D : DO} {h : Heap} {H : Hp}
theorem CellsD.at (x : CellsD cl fr ws D) (hD : ∀ a o, D.lookup a = some o → h.get? a = some o) : CellsAt cl fr ws h (hdO D H) := by
  refine ⟨x.len, fun y c e => ?_, x.inj, fun i y e => ?_⟩
  · obtain ⟨o, v, h1, h2⟩ := x.all y c e
    exact ⟨hdO_in h1, v, o, hD c o h1, h2⟩
  · obtain ⟨c, hc, hv⟩ := x.has i y e
    refine ⟨c, hc, fun v ev => ?_⟩
    obtain ⟨u, o, r, h1, h2⟩ := hv v ev
    exact ⟨u, r, o, hD c o h1, h2⟩
theorem cellsD_of (x : CellsAt cl fr ws h H) (hD : ∀ y c, cl.lookup y = some c → ∃ o, D.lookup c = some o ∧ h.get? c = some o) : CellsD cl fr ws D := by
  refine ⟨x.len, fun y c e => ?_, x.inj, fun i y e => ?_⟩
  · obtain ⟨o, h1, h2⟩ := hD y c e
    obtain ⟨_, v, o2, h3, h4⟩ := x.all y c e
    rw [h2] at h3
    exact ⟨o, v, h1, by rw [Option.some.inj h3]; exact h4⟩
  · obtain ⟨c, hc, hv⟩ := x.has i y e
    refine ⟨c, hc, fun v ev => ?_⟩
    obtain ⟨o, h1, h2⟩ := hD y c hc
    obtain ⟨u, r, o2, h3, h4⟩ := hv v ev
    rw [h2] at h3
    exact ⟨u, o, r, h1, by rw [Option.some.inj h3]; exact h4⟩
end
/-- the object is this lambda's -/
def LamOb (F : LF) (o : Obj) : Prop := ∃ pm ctv, o = PySem.W.kla_obj "<lambda>" F.qual F.params F.body F.scope F.cl pm F.c ctv
/-- the objects D are shown in H, the lambda at fa among them -/
structure LamIn (F : LF) (D : DO) (fr : List Str) (ws : List (Option V)) (fa : Addr) (H : Hp) : Prop where
  good : GoodD D
  ob : ∃ o, D.lookup fa = some o ∧ LamOb F o
  hs : ∀ a o, D.lookup a = some o → H a = some (hoB a o)
  code : H F.c = some (CodeO F.c F.qual)
  cells : CellsD F.cl fr ws D
theorem LamIn.mono {F : LF} {D : DO} {fr : List Str} {ws : List (Option V)} {fa : Addr} {H H1 : Hp} (x : LamIn F D fr ws fa H) (h : HK H H1) : LamIn F D fr ws fa H1 := ⟨x.good, x.ob, fun a o e => h.k _ _ (x.hs a o e) nt_ext, h.k _ _ x.code nt_ext, x.cells⟩
/-- f(..), f a slot that holds a lambda -/
def tCallF (P : Program) (w : World) (K : PySem.W.Frag) (mg : Str → Option Value) (base : Heap) (k i : Nat) (ps : List Str) (t : TA) : TE := fun σ H Q => ∃ fa F D fr ws spl, σ[i]? = some (some (.ref fa)) ∧ LOk P w K mg base k F ps fr spl ∧ LamIn F D fr ws fa H ∧
  t σ H fun vs H1 => LamIn F D fr ws fa H1 ∧ spl ws vs (hdO D H1) (fun v H' => (∀ a o, D.lookup a = some o → H' a = none) → Q v (shO D H')) E0
section
variable {X : Cx} {i j k : Nat} {ps : List Str} {x : Str} {p pos : Pos} {e : Expr} {es : List Expr} {t : TA}
theorem pe_callf (hr : Room j X.A) (hk : k ≤ j) (hN : X.N[i]? = some x) (hv : Vis X.env.scope x) (ha : PA X (e :: es) t)
    (hd : (x == ("__debug__" : Str)) = false := by decide) (hcd : (x == ("__classdict__" : Str)) = false := by decide)
    (he : starEach (e :: es) X.env = (false, eval e X.env) :: starEach es X.env := by rfl) (hpl : (backTo pos (starEach es X.env)).any (·.1) = false := by rfl) :
    PE X (.Call (.Name x p) (e :: es) [] pos) (tCallF X.prog X.w X.K X.mg X.base k i ps t) := by
  refine ⟨fun pins s σ H Q I h => ?_⟩
  obtain ⟨fa, F, D, fr, ws, spl, hs, Fn, hL, ht⟩ := h
  have fat : ∀ {pins : List (Addr × Obj)} {σ : L2.St} {H : Hp} {s : Shared}, Inv X pins σ H s → LamIn F D fr ws fa H → PySem.W.FnAt fa s.heap := fun I hL => by
    obtain ⟨o, e1, pm, ctv, e2⟩ := hL.ob
    have := (I.hok fa _ (hL.hs fa o e1)).1
    rw [e2] at this
    exact ⟨_, _, _, _, this⟩
  refine wpAny_Call_Name_kw (thn ((pe_var (pos := p) hN hv hd hcd).run pins s σ H (fun v H1 => v = .ref fa ∧ H1 = H) I ⟨.ref fa, hs, rfl, rfl⟩) fun u s1 ⟨v, H1, I1, r1, q1⟩ => ?_)
  obtain ⟨ev, eH⟩ := q1
  subst ev
  rw [eH] at I1
  obtain rfl : u = Value.ref fa := r1
  refine PySem.W.callWith_F (first := []) (fat I1 hL) (thn (ha.run pos pins s1 σ H _ I1 ht) fun us s2 ⟨vs, H2, I2, r, hL2, q⟩ => ⟨fat I2 hL2, ?_⟩) he hpl
  show wpAny _ _ (call (.ref fa) us) _ _ _
  have e0 := I2.env0
  have get : ∀ a o, D.lookup a = some o → s2.heap.get? a = some o := fun a o q => (I2.hok a _ (hL2.hs a o q)).1
  have hat : LamAt fa F s2.heap := by
    obtain ⟨o, e1, pm, ctv, e2⟩ := hL2.ob
    exact ⟨pm, ctv, by rw [get fa o e1, e2]⟩
  have hcode : hdO D H2 F.c = some (CodeO F.c F.qual) := by
    cases hd : D.lookup F.c with
    | none => rw [hdO_out hd]; exact hL2.code
    | some o =>
      have := hL2.hs _ o hd
      rw [hL2.code] at this
      exact absurd (Option.some.inj this).symm ((pn_obj (hL2.good _ o hd).1 (hL2.good _ o hd).2).c _ _)
  refine wpAny_call (codeAny_mono (Fn.run fa X.A X.stack s2 (hdO D H2) us vs ws _ E0 (hr.mono hk) (hide_env e0 hL2.hs) hat hcode (hL2.cells.at get) r q) fun r s' hq => ?_)
  cases r with
  | error e => exact (show False from hq).elim
  | ok fl =>
    cases fl with
    | ret u => exact I2.after (hide_end e0 hL2.hs hq fun v H' hn q => q hn)
    | next => exact False.elim hq
    | brk => exact False.elim hq
    | cont => exact False.elim hq
end

/-! ### a lambda handed to a def -/
/-- the lambda that the context X makes, its code object at c' -/
abbrev lamF (X : Cx) (params : Arguments) (body : Expr) (scope : Scope) (c' : Addr) : LF := ⟨X.env.qual ++ "<lambda>", params, body, scope, cloFrom X.env.cells scope.names [], c'⟩
def tLamArg (X : Cx) (P : Addr) (params : Arguments) (body : Expr) (scope : Scope) (fr : List Str) (js : List Nat) (sp : Sp) : TE := fun σ H Q => Tabs Tbs.T H ∧ ∀ (f c' : Addr) (H1 : Hp) (D : DO), LamH P H H1 → Tabs Tbs.T H1 → (∀ a o, D.lookup a = some o → H1 a = none) →
  LamIn (lamF X params body scope c') D fr (js.map (slotAt σ)) f (shO D H1) → sp [.ref f] (shO D H1) (fun v H' => (∀ a o, D.lookup a = some o → H' a = some (hoB a o)) ∧ Q v (hdO D H')) E0
section
variable {X : Cx} {k j : Nat} {sp : Sp} {x a : Str} {g : Addr} {fd : FuncData} {c P : Addr} {params : Arguments} {body : Expr} {scope : Scope} {fr : List Str} {js : List Nat} {p lpos pos : Pos}
theorem pe_lamarg (Fn : FnOk X.prog X.w X.K X.mg X.base CX0 k g fd [a] sp) (hr : Room j X.A) (hkj : k ≤ j) (hg : Gl X x) (hm : X.mg x = some (.ref g)) (hk : PySem.W.keepIn X.K (.ref g) = true) (hb : Binds X.K fd [a] []) (TB : TabB X.base X.mg c P) (hcode : X.env.code = .ref c)
    (hmT : (P, X.env.qual ++ "<lambda>") ∈ Tbs.T) (hu : ∀ p ∈ Tbs.T, p.1 = P → p.2 = X.env.qual ++ "<lambda>") (hdef : defaultsOf params X.env = ([], []))
    (hfree : ∀ y ∈ scope.names, y.2 = .free → X.env.scope.names.lookup y.1 = some .cell ∨ X.env.scope.names.lookup y.1 = some .free) (hfr : ∀ y ∈ fr, (y, NameKind.free) ∈ scope.names) (hfr2 : ∀ y ∈ scope.names, y.2 = .free → y.1 ∈ fr) (hfn : ∀ y, X.fn y = true) (hjs : js.map (fun j => X.N[j]?) = fr.map some)
    (hdb : (x == ("__debug__" : Str)) = false := by decide) :
    PE X (.Call (.Name x p) [.Lambda params body scope lpos] [] pos) (tLamArg X P params body scope fr js sp) := by
  refine ⟨fun pins s σ H Q I h => ?_⟩
  obtain ⟨hT, h⟩ := h
  have hf : ∀ y ∈ scope.names, y.2 = .free → ∃ c, X.env.cells.lookup y.1 = some c := fun y hy e => (hfree y hy e).elim (fun z => I.ok.has _ (.inl z)) fun z => I.ok.has _ (.inr z)
  refine wpAny_Call_Name_kw (ld_glob I hg hm ?_ hdb)
  refine PySem.W.callWith_K (h₀ := X.base) I.ok.mod.kin hk ?_ (by rfl) (by rfl)
  show wpAny _ _ (spliced ((false, eval (.Lambda params body scope lpos) X.env) :: backTo pos (starEach [] X.env))) _ _ s
  refine Calls.spliced_cons (lam_new I TB hcode hmT hu hT hdef hf fun f c' H1 s' I1 lh T1 hlam hf0 hfrs hbf hco => ?_)
  refine Calls.spliced_nil ⟨I1.kIn, ?_⟩
  have cp : Caps X (cloFrom X.env.cells scope.names []) fr js := Caps.made I1.ok hfree hfr hjs
  have C := cells_of I1 cp
  obtain ⟨pm, ctv, hget⟩ := hlam
  -- the objects
  let cl := cloFrom X.env.cells scope.names []
  let of := PySem.W.kla_obj "<lambda>" (X.env.qual ++ "<lambda>") params body scope cl pm c' ctv
  let L : DO := fr.filterMap fun y => (cl.lookup y).bind fun c => (s'.heap.get? c).map fun o => (c, o)
  let D : DO := (f, of) :: L
  have inL : ∀ p ∈ L, ∃ y, y ∈ fr ∧ cl.lookup y = some p.1 ∧ s'.heap.get? p.1 = some p.2 := fun p hp => by
    obtain ⟨y, hy, e⟩ := List.mem_filterMap.mp hp
    cases hc : cl.lookup y with
    | none => rw [hc] at e; cases e
    | some c =>
      rw [hc] at e
      cases ho : s'.heap.get? c with
      | none => rw [show (some c).bind (fun c => (s'.heap.get? c).map fun o => (c, o)) = (s'.heap.get? c).map fun o => (c, o) from rfl, ho] at e; cases e
      | some o =>
        rw [show (some c).bind (fun c => (s'.heap.get? c).map fun o => (c, o)) = (s'.heap.get? c).map fun o => (c, o) from rfl, ho] at e
        cases e
        exact ⟨y, hy, hc, ho⟩
  have lookD : ∀ a o, D.lookup a = some o → (a = f ∧ o = of) ∨ ∃ y, y ∈ fr ∧ cl.lookup y = some a ∧ s'.heap.get? a = some o := fun a o e => by
    have e : (match a == f with | true => some of | false => L.lookup a) = some o := e
    cases hb : a == f with
    | true =>
      rw [hb] at e
      exact .inl ⟨eq_of_beq hb, (Option.some.inj e).symm⟩
    | false =>
      rw [hb] at e
      exact .inr (inL (a, o) (do_mem L e))
  have cellO : ∀ y a, cl.lookup y = some a → ∃ o v, s'.heap.get? a = some o ∧ o.data = .cell v := fun y a e => by
    obtain ⟨_, v, o, h1, h2⟩ := C.all y a e
    exact ⟨o, v, h1, h2⟩
  have fne : ∀ y a, cl.lookup y = some a → a ≠ f := fun y a e z => by
    obtain ⟨o, v, h1, h2⟩ := cellO y a e
    rw [z, hget] at h1
    rw [← Option.some.inj h1] at h2
    cases h2
  have dl : ∀ y c, cl.lookup y = some c → ∃ o, D.lookup c = some o ∧ s'.heap.get? c = some o := fun y c e => by
    obtain ⟨o, v, h1, h2⟩ := cellO y c e
    have hy : y ∈ fr := by
      rcases cloFrom_mem (PySem.mem_of_lookup e) with hm | ⟨h1, _⟩
      · cases hm
      · exact hfr2 _ h1 rfl
    have hm : (c, o) ∈ L := List.mem_filterMap.mpr ⟨y, hy, by rw [e]; show (s'.heap.get? c).map (fun o => (c, o)) = _; rw [h1]; rfl⟩
    obtain ⟨o2, e2⟩ := do_ex L hm
    obtain ⟨_, _, _, h3⟩ := inL (c, o2) (do_mem L e2)
    have hb : (c == f) = false := by
      cases hb : c == f with
      | false => rfl
      | true => exact absurd (eq_of_beq hb) (fne y c e)
    refine ⟨o2, ?_, h3⟩
    show (match c == f with | true => some of | false => L.lookup c) = some o2
    rw [hb]
    exact e2
  have hget2 : ∀ a o, D.lookup a = some o → s'.heap.get? a = some o := fun a o e => by
    rcases lookD a o e with ⟨e1, e2⟩ | ⟨y, _, _, e3⟩
    · rw [e1, e2]; exact hget
    · exact e3
  have hnone : ∀ a o, D.lookup a = some o → H1 a = none := fun a o e => by
    rcases lookD a o e with ⟨e1, _⟩ | ⟨y, _, e2, _⟩
    · rw [e1]; exact hf0
    · exact I1.freeC y a (cp.sub y a e2)
  have good : GoodD D := fun a o e => by
    rcases lookD a o e with ⟨_, e2⟩ | ⟨y, _, e2, e3⟩
    · rw [e2]; exact ⟨fun vs z => (by cases z), fun z => (by cases z)⟩
    · obtain ⟨o2, v, h1, h2⟩ := cellO y a e2
      rw [e3] at h1
      rw [Option.some.inj h1, h2]
      exact ⟨fun vs z => (by cases z), fun z => (by cases z)⟩
  have cab : ∀ y a, cl.lookup y = some a → X.s_0.heap.objs.size ≤ a := fun y a e => I1.ok.cab y a (hfn y) (cp.sub y a e)
  have hbase : ∀ a o, D.lookup a = some o → X.base.get? a = none := fun a o e => by
    rcases lookD a o e with ⟨e1, _⟩ | ⟨y, _, e2, _⟩
    · rw [e1]; exact hbf
    · cases hb : X.base.get? a with
      | none => rfl
      | some ob => exact absurd (Nat.lt_of_lt_of_le (Heap.lt_size (I1.ok.bs a ob hb).1) (cab y a e2)) (Nat.lt_irrefl _)
  have hfs : ∀ a o, D.lookup a = some o → a ∉ frs X.stack := fun a o e => by
    rcases lookD a o e with ⟨e1, _⟩ | ⟨y, _, e2, e3⟩
    · rw [e1]; exact hfrs
    · intro hm
      rcases List.mem_cons.mp (I1.stkSub _ hm) with z | z
      · obtain ⟨m, ⟨ol, es, ep, h1, h2, _⟩, _⟩ := I1.loc
        obtain ⟨o2, v, h3, h4⟩ := cellO y a e2
        rw [z, h1] at h3
        rw [← Option.some.inj h3, h2] at h4
        cases h4
      · obtain ⟨_, ob, h1, _⟩ := I1.ok.funs.mem z
        exact absurd (Nat.lt_of_lt_of_le (Heap.lt_size h1) (cab y a e2)) (Nat.lt_irrefl _)
  have hcodeS : shO D H1 c' = some (CodeO c' (X.env.qual ++ "<lambda>")) := by
    rw [shO_out (out_of hco hnone)]
    exact hco
  have hL : LamIn (lamF X params body scope c') D fr (js.map (slotAt σ)) f (shO D H1) := by
    refine ⟨good, ⟨of, ?_, pm, ctv, rfl⟩, fun a o e => shO_in e, hcodeS, cellsD_of C dl⟩
    show (match f == f with | true => some of | false => L.lookup f) = some of
    rw [beq_self_eq_true]
  have e1 := show_env I1.env0 (D := D) fun a o e => ⟨hget2 a o e, hnone a o e, hbase a o e, hfs a o e⟩
  have rc := Fn.run X.A X.stack s' (shO D H1) ⟨[.ref f], []⟩ [.ref f] [.ref f] _ E0 (hr.mono hkj) e1 (hb s' [.ref f] I1.kIn rfl) (.cons rfl .nil) (h f c' H1 D lh T1 hnone hL)
  refine wpAny_call (codeAny_mono rc fun r s2 hq => ?_)
  cases r with
  | error e => exact (show False from hq).elim
  | ok fl =>
    cases fl with
    | ret u => exact I1.after (show_end (fun a o e => ⟨hget2 a o e, hnone a o e⟩) hq fun v H' q => q)
    | next => exact False.elim hq
    | brk => exact False.elim hq
    | cont => exact False.elim hq
end
open Rp (rep)
/-! ### to the view -/
section
variable {P : Program} {w : World} {K : PySem.W.Frag} {mg : Str → Option Value} {base : Heap} {k i : Nat} {ps : List Str} {G H G1 H1 : Hp} {v : V} {mf : Int → Int → Option Bool} {σ : L2.St} {t0 t1 : TE} {m0 m1 : Option Int}
/-- what a lambda does of two whole numbers, wherever the view holds what it holds in G -/
def Does (K : PySem.W.Frag) (sp : Sp) (G : Hp) (mf : Int → Int → Option Bool) : Prop := ∀ G1 H1, Same G G1 → Vw G1 H1 → ∀ (v0 v1 : V) (x0 x1 : Int) (r : Bool), rep K G1 v0 x0 → rep K G1 v1 x1 → mf x0 x1 = some r → ∀ Q : VK, (∀ u G' H', Ext G1 H1 G' H' → rep K G' u r → Q u H') → sp [v0, v1] H1 Q E0
theorem Does.mono {sp : Sp} (x : Does K sp G mf) (s : Same G G1) : Does K sp G1 mf := fun G2 H2 s2 => x G2 H2 (s.trans s2)
/-- v is a function that does mf -/
def FnVal (P : Program) (w : World) (K : PySem.W.Frag) (mg : Str → Option Value) (base : Heap) (k : Nat) (ps : List Str) (G H : Hp) (v : V) (mf : Int → Int → Option Bool) : Prop := ∃ fa F D fr ws spl, v = .ref fa ∧ LOk P w K mg base k F ps fr spl ∧ LamIn F D fr ws fa H ∧ (∀ a o, D.lookup a = some o → G a = none) ∧ Does K (spl ws) G mf
theorem FnVal.mono (x : FnVal P w K mg base k ps G H v mf) (e : Ext G H G1 H1) : FnVal P w K mg base k ps G1 H1 v mf := by
  obtain ⟨fa, F, D, fr, ws, spl, ev, Fn, hL, hg, hd⟩ := x
  exact ⟨fa, F, D, fr, ws, spl, ev, Fn, hL.mono e.h, fun a o q => (e.a a (by rw [hL.hs a o q]; exact fun z => by cases z)).trans (hg a o q), hd.mono e.g⟩
theorem FnVal.off {p : Addr} {o : HO} (x : FnVal P w K mg base k ps G H v mf) (h : ∃ vs, H p = some (.lst vs)) : FnVal P w K mg base k ps G (upd H p o) v mf := by
  obtain ⟨vs, h⟩ := h
  obtain ⟨fa, F, D, fr, ws, spl, ev, Fn, hL, hg, hd⟩ := x
  have ne : ∀ a f, H a = some (.ext f) → a ≠ p := fun a f e z => by
    rw [z, h] at e
    cases e
  exact ⟨fa, F, D, fr, ws, spl, ev, Fn, ⟨hL.good, hL.ob, fun a o q => by rw [upd_ne (ne a _ (hL.hs a o q))]; exact hL.hs a o q, by rw [upd_ne (ne _ _ hL.code)]; exact hL.code, hL.cells⟩, hg, hd⟩
theorem se_callf (hv : σ[i]? = some (some v)) (x : FnVal P w K mg base k ps G H v mf) (h0 : SE K t0 σ G H m0) (h1 : SE K t1 σ G H m1) : SE K (tCallF P w K mg base k i ps (tCons t0 (tCons t1 tNil))) σ G H (m0.bind fun a => m1.bind fun b => mf a b) := fun G1 H1 e r hm Q q => by
  obtain ⟨x0, hx0, hm⟩ := bind_some hm
  obtain ⟨x1, hx1, hm⟩ := bind_some hm
  obtain ⟨fa, F, D, fr, ws, spl, ev, Fn, hL, hg, hd⟩ := x.mono e
  subst ev
  refine ⟨fa, F, D, fr, ws, spl, hv, Fn, hL, ?_⟩
  refine h0 G1 H1 e x0 hx0 _ fun v0 G2 H2 e2 r0 => ?_
  refine h1 G2 H2 (e.trans e2) x1 hx1 _ fun v1 G3 H3 e3 r1 => ?_
  have e23 := e2.trans e3
  have hL3 := hL.mono e23.h
  have hg3 : ∀ a o, D.lookup a = some o → G3 a = none := fun a o q => (e23.a a (by rw [hL.hs a o q]; exact fun z => by cases z)).trans (hg a o q)
  exact ⟨hL3, hd G3 (hdO D H3) e23.g (vw_hide e3.s hL3.good hL3.hs hg3) v0 v1 x0 x1 r (Rp.mono e3.g r0) r1 hm _ fun u G' H' e4 hu hn => q u G' (shO D H') (e23.trans (ext_hidden e4 hL3.hs hg3 hn)) hu⟩
theorem se_callfp {x0 x1 : Int} (hv : σ[i]? = some (some v)) (x : FnVal P w K mg base k ps G H v mf) (h0 : SE K t0 σ G H (some x0)) (h1 : SE K t1 σ G H (some x1)) : SE K (tCallF P w K mg base k i ps (tCons t0 (tCons t1 tNil))) σ G H (mf x0 x1) := se_callf hv x h0 h1
/-- a def of one parameter, a function -/
def SpF1 {ρ : Type} (P : Program) (w : World) (K : PySem.W.Frag) (mg : Str → Option Value) (base : Heap) (k : Nat) (ps : List Str) (RR : Hp → Hp → Hp → V → ρ → Prop) (f : (Int → Int → Option Bool) → Option ρ) : Sp := fun vs H Q _ => ∃ (G : Hp) (v0 : V) (x0 : Int → Int → Option Bool) (r : ρ), vs = [v0] ∧ Vw G H ∧ FnVal P w K mg base k ps G H v0 x0 ∧ f x0 = some r ∧ ∀ u G' H', Ext G H G' H' → RR H G' H' u r → Q u H'
theorem SpF1.len {ρ : Type} {RR : Hp → Hp → Hp → V → ρ → Prop} {f : (Int → Int → Option Bool) → Option ρ} {qs : List Str} (h : qs.length = 1) : ∀ vs H Q E, SpF1 P w K mg base k ps RR f vs H Q E → vs.length = qs.length := fun vs H Q E ⟨_, _, _, _, e, _⟩ => by rw [e, h]; rfl
theorem ext_lam {Pt : Addr} (s : Vw G H) (hP : ∃ q, (Pt, q) ∈ Tbs.T) (lh : LamH Pt H H1) (T1 : Tabs Tbs.T H1) : Ext G H G H1 := by
  obtain ⟨q, hq⟩ := hP
  refine ⟨Same.refl _, ⟨fun b u e => lh.k b u (fun z => ?_) (s.s b u e), fun p hp => ⟨(s.t p hp).1, T1 p hp⟩⟩, ⟨fun b u e nt => lh.k b u (fun z => ?_) e, lh.d⟩, fun _ _ => rfl⟩
  · rw [z, (s.t _ hq).1] at e
    cases e
  · obtain ⟨ps, h1, _⟩ := (s.t _ hq).2
    rw [z, h1] at e
    exact nt ps (Option.some.inj e).symm
theorem rv_h {ρ : Type} [Rp ρ] : ∀ (D : DO) (H1 G' H' : Hp) (u : V) (r : ρ), (∀ a o, D.lookup a = some o → H1 a = none) → RV K (shO D H1) G' H' u r → RV K H1 G' (hdO D H') u r := fun _ _ _ _ _ _ _ h => h
theorem rf_h {ρ : Type} [Rp ρ] : ∀ (D : DO) (H1 G' H' : Hp) (u : V) (r : List ρ), (∀ a o, D.lookup a = some o → H1 a = none) → RF K (shO D H1) G' H' u r → RF K H1 G' (hdO D H') u r := fun D H1 G' H' u r hn ⟨p, e, o⟩ => by
  have hz : D.lookup p = none := by
    cases hd : D.lookup p with
    | none => rfl
    | some ob =>
      have := o.z
      rw [shO_in hd] at this
      cases this
  obtain ⟨vs, h1, h2, h3⟩ := o.h
  exact ⟨p, e, by have := o.z; rw [shO_out hz] at this; exact this, o.g, vs, by rw [hdO_out hz]; exact h1, h2, h3⟩
theorem xe_lamarg {ρ : Type} {X : Cx} {Pt : Addr} {params : Arguments} {body : Expr} {scope : Scope} {fr : List Str} {js : List Nat} {RR : Hp → Hp → Hp → V → ρ → Prop} {f : (Int → Int → Option Bool) → Option ρ} {spl : List (Option V) → Sp}
    (RRm : ∀ H1 H2, HK H1 H2 → ∀ G' H' u r, RR H2 G' H' u r → RR H1 G' H' u r) (RRh : ∀ (D : DO) (H1 G' H' : Hp) (u : V) (r : ρ), (∀ a o, D.lookup a = some o → H1 a = none) → RR (shO D H1) G' H' u r → RR H1 G' (hdO D H') u r)
    (hP : ∃ q, (Pt, q) ∈ Tbs.T) (Fl : ∀ c', LOk X.prog X.w X.K X.mg X.base k (lamF X params body scope c') ps fr spl) (hd : Does X.K (spl (js.map (slotAt σ))) G mf) :
    XE RR (tLamArg X Pt params body scope fr js (SpF1 X.prog X.w X.K X.mg X.base k ps RR f)) σ G H (f mf) := fun G1 H1 e r hm Q q => by
  refine ⟨fun p hp => (e.s.t p hp).2, fun fa c' H2 D lh T2 hn hL => ?_⟩
  have e2 := ext_lam e.s hP lh T2
  have hg : ∀ a o, D.lookup a = some o → G1 a = none := fun a o h => e2.s.free (hn a o h)
  refine ⟨G1, .ref fa, mf, r, rfl, vw_show e2.s hn, ⟨fa, _, D, fr, _, spl, rfl, Fl c', hL, hg, hd.mono e.g⟩, hm, fun u G' H' e3 hr => ?_⟩
  obtain ⟨hs, e4⟩ := ext_shown e3 hL.good hn hg
  exact ⟨hs, q u G' (hdO D H') (e2.trans e4) (RRm _ _ e2.h _ _ _ _ (RRh D H2 G' H' u r hn hr))⟩
end

/-- .. inside a comprehension: its parts are named -/
theorem pe_callfK {X : Cx} {P : Program} {w : World} {K : PySem.W.Frag} {mg : Str → Option Value} {base : Heap} {i j k : Nat} {ps : List Str} {x : Str} {p pos : Pos} {e : Expr} {es : List Expr} {t : TA} (eP : X.prog = P) (ew : X.w = w) (eK : X.K = K) (em : X.mg = mg) (eb : X.base = base)
    (hr : Room j X.A) (hk : k ≤ j) (hN : X.N[i]? = some x) (hv : Vis X.env.scope x) (ha : PA X (e :: es) t)
    (hd : (x == ("__debug__" : Str)) = false := by decide) (hcd : (x == ("__classdict__" : Str)) = false := by decide)
    (he : starEach (e :: es) X.env = (false, eval e X.env) :: starEach es X.env := by rfl) (hpl : (backTo pos (starEach es X.env)).any (·.1) = false := by rfl) :
    PE X (.Call (.Name x p) (e :: es) [] pos) (tCallF P w K mg base k i ps t) := by
  subst eP ew eK em eb
  exact pe_callf hr hk hN hv ha hd hcd he hpl
/-! ### what stands where -/
def lamIn : List Stmt → Expr
  | .Assign _ (.Call _ (.Lambda a b s p :: _) _ _) _ :: _ => .Lambda a b s p
  | _ :: r => lamIn r
  | [] => .Constant .none 0 ⟨0, 0, 0, 0⟩
def lamArgs : Expr → Arguments
  | .Lambda a _ _ _ => a
  | _ => ⟨[], [], none, [], [], none, []⟩
def lamBody : Expr → Expr
  | .Lambda _ b _ _ => b
  | e => e
def lamScope : Expr → Scope
  | .Lambda _ _ s _ => s
  | _ => ⟨.function, [], false, false, []⟩
theorem LOk.mono {P : Program} {w : World} {K : PySem.W.Frag} {mg : Str → Option Value} {base : Heap} {j k : Nat} {F : LF} {ps fr : List Str} {sp : List (Option V) → Sp} (o : LOk P w K mg base j F ps fr sp) (h : j ≤ k) : LOk P w K mg base k F ps fr sp :=
  ⟨fun f A outer s H us vs ws Q E hr => o.run f A outer s H us vs ws Q E (hr.mono h)⟩
/-- a def of the text whose code object is known -/
structure FunC (K : PySem.W.Frag) (x qual : Str) (st : Stmt) (f : Addr) (fd : FuncData) (c : Addr) : Prop where
  ex : ∃ (oc : Value) (od : Option Addr) (kV doc pm : Value) (an : Option Addr) (ct : Value) (osl : Array (Option Value)),
    fd = PySem.W.fnOf x qual (defArgs st) (defBody st) (defScope st) .none kV doc pm an (.ref c) ct ∧ K.lookup f = some ⟨oc, od, .func fd, osl⟩ ∧ PySem.W.codeIn K (.ref c) qual = true
section
variable {P : Program} {w : World} {K : PySem.W.Frag} {mg : Str → Option Value} {base : Heap}
theorem FunC.ok {x qual : Str} {st : Stmt} {f : Addr} {fd : FuncData} {c : Addr} {N ps : List Str} {k : Nat} {sp : Sp} (F : FunC K x qual st f fd c) (S : FnScope N ps (defScope st)) (len : ∀ vs H Q E, sp vs H Q E → vs.length = ps.length)
    (hbody : ∀ (A : Around) (outer : List Env) (s : Shared) (H : Hp) (vs : List V) (Q : VK) (E : XK), Room k (A.deeper (envOfC qual (defScope st) s.heap.objs.size f (.ref c))) → sp vs H Q E →
      ∃ t, PSs (cxOf CX0 P w K mg base N qual (defScope st) f (.ref c) A outer s H E).nox (defBody st) t ∧ t { nx := fun _ H' => Q .non H', rt := Q } (start N vs) H) : FnOk P w K mg base CX0 (k + 1) f fd ps sp := by
  obtain ⟨oc, od, kV, doc, pm, an, ct, osl, rfl, lk, hcd⟩ := F.ex
  refine fn_of lk hcd S len fun A outer s H vs Q E hr hsp => ?_
  obtain ⟨t, h, q⟩ := hbody A outer s H vs Q E hr hsp
  exact ⟨t, h.nox, q⟩
end

/-! ### the end -/
def offT (H : Hp) : Hp := fun b => if b ∈ Tbs.T.map (·.1) then none else H b
theorem vw_off {H : Hp} (ht : ∀ p ∈ Tbs.T, H p.1 = some (.tbl #[])) : Vw (offT H) H := ⟨fun b u e => by
  unfold offT at e
  split at e
  · cases e
  · exact e, fun p hp => ⟨if_pos (List.mem_map.mpr ⟨p, hp, rfl⟩), TabS.nil (ht p hp)⟩⟩
theorem sq_off {K : PySem.W.Frag} {H : Hp} {a : Addr} {xs : List V} (ht : ∀ p ∈ Tbs.T, H p.1 = some (.tbl #[])) (h : SqL K H a xs) : SqL K (offT H) a xs := by
  have key : ∀ o, H a = some o → NT o → offT H a = some o := fun o e n => by
    unfold offT
    rw [if_neg fun hm => ?_]
    · exact e
    · obtain ⟨p, hp, e2⟩ := List.mem_map.mp hm
      have := ht p hp
      rw [e2, e] at this
      exact n _ (Option.some.inj this)
  rcases h with (h | ⟨o, h⟩) | h
  · exact .inl (.inl (key _ h nt_lst))
  · exact .inl (.inr ⟨o, key _ h fun ps z => by cases z⟩)
  · exact .inr h
end Mi

/-! MiO: None or a list of one's own, handed back. -/
namespace Mi
variable [Tbs]
open PySem L2
open Rp (rep)
section
variable {α : Type} [Rp α] {K : PySem.W.Frag} {D : Ends} {i : Nat} {σ : St} {H0 G0 G H : Hp}
theorem st_retON {p : Addr} {ds : List α} {r : Option (List α)} (hv : σ[i]? = some (some (.ref p))) (e : Ext G0 H0 G H) (o : Own K H0 G H p ds) (hm : some (some ds) = some r) (q : ∀ u G' H', Ext G0 H0 G' H' → RN K H0 G' H' u r → D.rt u H') : tRet (tVar i) D σ H := by
  cases hm
  exact ⟨.ref p, hv, q _ G H e ⟨p, rfl, o⟩⟩
section
variable {α β ρ : Type} [Rp α] [Rp β] {K : PySem.W.Frag} {D : Ends} {te tb : TE} {σ : St} {H0 G0 G H : Hp} {out : ρ}
/-- a list of a tuple that a call hands back is cleared, and the tuple forgotten -/
theorem st_pclear {m : Option (List α × β)} {k : List α × β → Option ρ} (hs : Vw G H) (se : XE (RP K) te σ G H m) (hm : m.bind k = some out) (kont : ∀ x G1 H1, Ext G H G1 H1 → k x = some out → D.nx σ H1) :
    tDrop (tBM0 K "list" rClear (tOp (rIxT K) te (tC (.int 0)))) D σ H := by
  obtain ⟨x, hx, hk⟩ := bind_some hm
  refine se G H (Ext.refl hs) x hx _ fun v G1 H1 e ⟨a, p, y, ea, ha, o, hy⟩ => ?_
  obtain ⟨vs0, h0, l0, rs0⟩ := o.h
  refine ⟨a, [.ref p, y], 0, .ref p, ea, rfl, same_tup e.s.s ha, rfl, ?_⟩
  refine ⟨.inl ⟨rfl, _, SqL.of h0⟩, p, vs0, rfl, rfl, h0, ?_⟩
  exact kont x G1 _ (e.put o.z o.g o.pn) hk
theorem st_retPF {ma : Option (List α)} {mb : Option β} {r : List α × β} (e : Ext G0 H0 G H) (fe : FE K te σ G H ma) (se : SE K tb σ G H mb) (hm : (ma.bind fun x => mb.bind fun y => some (x, y)) = some r) (q : ∀ u G' H', Ext G0 H0 G' H' → RP K H0 G' H' u r → D.rt u H') : tRet (tTup (tCons te (tCons tb tNil))) D σ H := by
  obtain ⟨x, hx, hm⟩ := bind_some hm
  obtain ⟨y, hy, hm⟩ := bind_some hm
  cases hm
  refine fe G H (Ext.refl e.s) x hx _ fun p G1 H1 e1 o => ?_
  refine se G1 H1 e1 y hy _ fun w G2 H2 e2 hw => ⟨by show 2 ≤ sizeLine; decide, fun t nt => ?_⟩
  have e3 := Ext.new (o := .tup [.ref p, w]) e2.s nt
  exact q _ _ _ (((e.trans e1).trans e2).trans e3) ⟨t, p, w, rfl, SqT.of upd_same, (((o.up e.h).mono e2).mono e3), Rp.mono e3.g hw⟩
end
end
section
variable {α β : Type} [Rp α] [Rp β] {K : PySem.W.Frag} {te : TE} {σ : St} {H0 G H : Hp} {p : Addr}
theorem own_del [NL β] {H1 G2 H2 : Hp} {vs : List V} {p2 : Addr} {d : List β} (h2 : G2 p = some (.lst vs)) (hp1 : H1 p = some (.lst vs)) (x : Own K H1 G2 H2 p2 d) : Own K H1 (hpDel G2 p) H2 p2 d := by
  obtain ⟨ws, w1, w2, w3⟩ := x.h
  have hne : p2 ≠ p := fun hh => by
    have z := x.z
    rw [hh, hp1] at z
    cases z
  exact ⟨x.z, by rw [hpDel_ne hne]; exact x.g, ws, w1, w2, nl_reps (p := p) (us := vs) (by rw [hpDel_upd h2]; exact w3)⟩
instance : NL Nat := ⟨fun h => h⟩
theorem fe2_tmpL [NL β] {d : List α} {mb : Option (List (List β))} (o : Own K H0 G H p d) (h : ∀ vs, Same G (upd G p (.lst vs)) → rep K (upd G p (.lst vs)) (.ref p) d → FE2 K te σ (upd G p (.lst vs)) H mb) : FE2 K te σ G H mb := fun G1 H1 e r hm Q q => by
  obtain ⟨vs, hp, l, rs⟩ := o.h
  have o1 := o.mono e
  have hp1 : H1 p = some (.lst vs) := e.h.k _ _ hp
  have s0 := h vs (same_new o.g) ⟨p, vs, rfl, upd_same, l, rs.mono (same_new o.g)⟩
  refine s0 _ _ (ext_tmp e o.g hp o1.g) r hm Q fun p2 qs G2 H2 e2 x => ?_
  obtain ⟨h2, e3⟩ := ext_del e2 o1.g
  exact q p2 qs _ H2 e3 ⟨own_del h2 hp1 x.o, Pmap x.rows fun _ _ _ hd => own_del h2 hp1 hd, x.nd⟩
theorem fe_p0 {m : Option (List α × β)} (h : XE (RP K) te σ G H m) : FE K (tOp (rIxT K) te (tC (.int 0))) σ G H (m.bind fun t => some t.1) := fun G1 H1 e z hm Q q => by
  obtain ⟨t, ht, hm⟩ := bind_some hm
  cases hm
  refine h G1 H1 e t ht _ fun v G2 H2 e2 ⟨a, p, y, ea, ha, o, hy⟩ => ?_
  exact ⟨a, [.ref p, y], 0, .ref p, ea, rfl, same_tup e2.s.s ha, rfl, q p G2 H2 e2 o⟩
end
section
variable {β : Type} [Rp β] {K : PySem.W.Frag} {te : TE} {σ : St} {G H : Hp}
/-- what hands back nothing, as None or a value -/
theorem se_unO {m : Option Unit} (h : SE K te σ G H m) : SE K te σ G H (m.bind fun _ => some (none : Option β)) := fun G1 H1 e z hm Q q => by
  obtain ⟨t, ht, hm⟩ := bind_some hm
  cases hm
  exact h G1 H1 e t ht _ fun v G2 H2 e2 hv => q v G2 H2 e2 hv
end
end Mi

/-! MiA: values of any kind (PyData): whole numbers, truths, None, texts, lists and tuples of such. -/
namespace Mi
open PySem
/-- as data of any kind -/
class PyOf (α : Type) where
  py : α → PyData
instance : PyOf PyData := ⟨id⟩
instance : PyOf Int := ⟨.int⟩
instance : PyOf Bool := ⟨.bool⟩
instance : PyOf Unit := ⟨fun _ => .none⟩
instance : PyOf Str := ⟨.str⟩
instance : PyOf Tg := ⟨fun t => .str t.s⟩
instance : PyOf TK := ⟨fun t => .tuple (t.l.map PyData.int)⟩
section
variable {α β γ δ : Type} [PyOf α] [PyOf β] [PyOf γ] [PyOf δ]
instance : PyOf (Option α) := ⟨fun o => match o with
  | none => .none
  | some x => PyOf.py x⟩
instance : PyOf (List α) := ⟨fun xs => .list (xs.map PyOf.py)⟩
instance : PyOf (TL α) := ⟨fun xs => .tuple (xs.l.map PyOf.py)⟩
instance : PyOf (α × β) := ⟨fun t => .tuple [PyOf.py t.1, PyOf.py t.2]⟩
instance : PyOf (T3 α β γ) := ⟨fun t => .tuple [PyOf.py t.a, PyOf.py t.b, PyOf.py t.c]⟩
instance : PyOf (T4 α β γ δ) := ⟨fun t => .tuple [PyOf.py t.a, PyOf.py t.b, PyOf.py t.c, PyOf.py t.d]⟩
end
variable [Tbs]
open PySem L2
open Rp (rep)
mutual
inductive Dq (K : PySem.W.Frag) (G : Hp) : V → PyData → Prop
  | non : Dq K G .non .none
  | bl (b : Bool) : Dq K G (.bl b) (.bool b)
  | int (i : Int) : Dq K G (.int i) (.int i)
  | str (x : Str) : Dq K G (.str x) (.str x)
  | lst {a : Addr} {vs : List V} {ds : List PyData} : G a = some (.lst vs) → DqAll K G vs ds → Dq K G (.ref a) (.list ds)
  | tup {a : Addr} {vs : List V} {ds : List PyData} : SqT K G a vs → DqAll K G vs ds → Dq K G (.ref a) (.tuple ds)
inductive DqAll (K : PySem.W.Frag) (G : Hp) : List V → List PyData → Prop
  | nil : DqAll K G [] []
  | cons {v : V} {vs : List V} {d : PyData} {ds : List PyData} : Dq K G v d → DqAll K G vs ds → DqAll K G (v :: vs) (d :: ds)
end
section
variable {K : PySem.W.Frag} {G H G' : Hp}
omit [Tbs] in
mutual
theorem Dq.mono (s : Same G G') : ∀ (d : PyData) (v : V), Dq K G v d → Dq K G' v d
  | .none, _, h => by cases h; exact .non
  | .bool b, _, h => by cases h; exact .bl b
  | .int i, _, h => by cases h; exact .int i
  | .str x, _, h => by cases h; exact .str x
  | .list ds, _, h => by
    cases h with
    | lst e r => exact .lst (s _ _ e) (DqAll.mono s ds _ r)
  | .tuple ds, _, h => by
    cases h with
    | tup e r => exact .tup (same_tup s e) (DqAll.mono s ds _ r)
  | .dict _, _, h => by cases h
theorem DqAll.mono (s : Same G G') : ∀ (ds : List PyData) (vs : List V), DqAll K G vs ds → DqAll K G' vs ds
  | [], _, h => by cases h; exact .nil
  | d :: ds, _, h => by
    cases h with
    | cons h1 h2 => exact .cons (Dq.mono s d _ h1) (DqAll.mono s ds _ h2)
end
omit [Tbs] in
mutual
theorem Dq.dp (s : Same G H) : ∀ (d : PyData) (v : V), Dq K G v d → Dp K H v d
  | .none, _, h => by cases h; exact .non
  | .bool b, _, h => by cases h; exact .bl b
  | .int i, _, h => by cases h; exact .int i
  | .str x, _, h => by cases h; exact .str x
  | .list ds, _, h => by
    cases h with
    | lst e r => exact .lst (SqL.of (s _ _ e)) (DqAll.dp s ds _ r)
  | .tuple ds, _, h => by
    cases h with
    | tup e r => exact .tup (same_tup s e) (DqAll.dp s ds _ r)
  | .dict _, _, h => by cases h
theorem DqAll.dp (s : Same G H) : ∀ (ds : List PyData) (vs : List V), DqAll K G vs ds → DpAll K H vs ds
  | [], _, h => by cases h; exact .nil
  | d :: ds, _, h => by
    cases h with
    | cons h1 h2 => exact .cons (Dq.dp s d _ h1) (DqAll.dp s ds _ h2)
end
end
instance : Rp PyData := ⟨fun K G v d => Dq K G v d, fun {_ _ _ v d} s h => Dq.mono s d v h⟩
section
variable {K : PySem.W.Frag} {G H : Hp}
omit [Tbs] in
theorem DqAll.reps : ∀ {vs : List V} {ds : List PyData}, DqAll K G vs ds → Reps K G vs ds
  | _, [], h => by cases h; exact .nil
  | _, d :: ds, h => by
    cases h with
    | cons h1 h2 => exact .cons h1 (DqAll.reps h2)
omit [Tbs] in
theorem reps_dq : ∀ {vs : List V} {ds : List PyData}, Reps K G vs ds → DqAll K G vs ds
  | _, _, .nil => .nil
  | _, _, .cons h t => .cons h (reps_dq t)
end
/-! ### into any kind -/
/-- a change of kind alone -/
def Co {α β : Type} [Rp α] [Rp β] (f : α → β) : Prop := ∀ {K : PySem.W.Frag} {G : Hp} {v : V} {x : α}, rep K G v x → rep K G v (f x)
class RpY (α : Type) [Rp α] [PyOf α] : Prop where
  dq : ∀ {K : PySem.W.Frag} {G : Hp} {v : V} {x : α}, rep K G v x → Dq K G v (PyOf.py x)
instance : RpY PyData := ⟨fun h => h⟩
instance : RpY Int := ⟨fun h => by rw [show _ = V.int _ from h]; exact .int _⟩
instance : RpY Bool := ⟨fun h => by rw [show _ = V.bl _ from h]; exact .bl _⟩
instance : RpY Unit := ⟨fun h => by rw [show _ = V.non from h]; exact .non⟩
instance : RpY Str := ⟨fun h => by rw [show _ = V.str _ from h]; exact .str _⟩
instance : RpY Tg := ⟨fun h => by rw [show _ = V.str _ from h]; exact .str _⟩
section
variable {α β γ δ : Type} [Rp α] [Rp β] [Rp γ] [Rp δ] [PyOf α] [PyOf β] [PyOf γ] [PyOf δ] [RpY α] [RpY β] [RpY γ] [RpY δ]
omit [Tbs] in
theorem dq_map {K : PySem.W.Frag} {G : Hp} : ∀ {vs : List V} {ds : List α}, Reps K G vs ds → DqAll K G vs (ds.map PyOf.py)
  | _, _, .nil => .nil
  | _, _, .cons h t => .cons (RpY.dq h) (dq_map t)
instance : RpY (Option α) := ⟨fun {_ _ v x} h => by
    cases x with
    | none => rw [show v = .non from h]; exact .non
    | some x => exact (show Dq _ _ v (PyOf.py x) from RpY.dq h.1)⟩
instance : RpY (List α) := ⟨fun ⟨a, vs, e, h, _, r⟩ => by rw [e]; exact .lst h (dq_map r)⟩
instance : RpY (TL α) := ⟨fun ⟨a, vs, e, h, _, r⟩ => by rw [e]; exact .tup h (dq_map r)⟩
instance : RpY (α × β) := ⟨fun ⟨a, x, y, e, h, h1, h2⟩ => by rw [e]; exact .tup h (.cons (RpY.dq h1) (.cons (RpY.dq h2) .nil))⟩
instance : RpY (T3 α β γ) := ⟨fun ⟨a, x, y, z, e, h, h1, h2, h3⟩ => by rw [e]; exact .tup h (.cons (RpY.dq h1) (.cons (RpY.dq h2) (.cons (RpY.dq h3) .nil)))⟩
instance : RpY (T4 α β γ δ) := ⟨fun ⟨a, x, y, z, u, e, h, h1, h2, h3, h4⟩ => by rw [e]; exact .tup h (.cons (RpY.dq h1) (.cons (RpY.dq h2) (.cons (RpY.dq h3) (.cons (RpY.dq h4) .nil))))⟩
omit [Tbs] in
theorem co_py : Co (PyOf.py : α → PyData) := fun h => RpY.dq h
end
section
variable {α β γ δ : Type} [Rp α] [Rp β] [Rp γ] [Rp δ] {f : α → β} {g : γ → δ}
variable {K : PySem.W.Frag} {σ : St} {G H : Hp} {te ta tb : TE}
omit [Tbs] in
theorem Co.reps (h : Co f) {K : PySem.W.Frag} {G : Hp} : ∀ {vs : List V} {ds : List α}, Reps K G vs ds → Reps K G vs (ds.map f)
  | _, _, .nil => .nil
  | _, _, .cons r t => .cons (h r) (Co.reps h t)
omit [Tbs] in
theorem co_id : Co (fun x : α => x) := fun h => h
theorem co_list (h : Co f) : Co (List.map f) := fun ⟨a, vs, e, h1, l, r⟩ => ⟨a, vs, e, h1, l, h.reps r⟩
omit [Tbs] in
theorem co_tup2 (h : Co f) (h' : Co g) : Co (fun t : α × γ => (f t.1, g t.2)) := fun ⟨a, x, y, e, h0, h1, h2⟩ => ⟨a, x, y, e, h0, h h1, h' h2⟩
omit [Tbs] in
theorem co_opt (h : Co f) : Co (Option.map f) := fun {_ _ v x} r => by
  cases x with
  | none => exact r
  | some x => exact ⟨h r.1, r.2⟩
theorem se_co (h : Co f) {m : Option α} (se : SE K te σ G H m) : SE K te σ G H (m.bind fun x => some (f x)) := fun G1 H1 e z hm Q q => by
  obtain ⟨x, hx, hm⟩ := bind_some hm
  cases hm
  exact se G1 H1 e x hx Q fun v G2 H2 e2 hv => q v G2 H2 e2 (h hv)
theorem se_cop (h : Co f) {x : α} (se : SE K te σ G H (some x)) : SE K te σ G H (some (f x)) := se_co h se
theorem fe_co (h : Co f) {m : Option (List α)} (fe : FE K te σ G H m) : FE K te σ G H (m.bind fun x => some (x.map f)) := fun G1 H1 e z hm Q q => by
  obtain ⟨x, hx, hm⟩ := bind_some hm
  cases hm
  exact fe G1 H1 e x hx Q fun p G2 H2 e2 o => q p G2 H2 e2 ⟨o.z, o.g, by obtain ⟨vs, h1, h2, h3⟩ := o.h; exact ⟨vs, h1, h2, h.reps h3⟩⟩
theorem fe_cop (h : Co f) {x : List α} (fe : FE K te σ G H (some x)) : FE K te σ G H (some (x.map f)) := fe_co h fe
end
/-! ### out of any kind -/
def Prj {α β : Type} [Rp α] [Rp β] (f : α → Option β) : Prop := ∀ {K : PySem.W.Frag} {G : Hp} {v : V} {x : α} {y : β}, rep K G v x → f x = some y → rep K G v y
def dyI : PyData → Option Int
  | .int i => some i
  | _ => none
def dyB : PyData → Option Bool
  | .bool b => some b
  | _ => none
def dyL : PyData → Option (List PyData)
  | .list xs => if xs.length ≤ 16000000 then some xs else none
  | _ => none
def dyT : PyData → Option (TL PyData)
  | .tuple xs => if xs.length ≤ 16000000 then some ⟨xs⟩ else none
  | _ => none
def dyT2 : PyData → Option (PyData × PyData)
  | .tuple [a, b] => some (a, b)
  | _ => none
def dyT4 : PyData → Option (T4 PyData PyData PyData PyData)
  | .tuple [a, b, c, d] => some ⟨a, b, c, d⟩
  | _ => none
def mapP {α β : Type} (f : α → Option β) : List α → Option (List β)
  | [] => some []
  | x :: xs => (f x).bind fun y => (mapP f xs).bind fun ys => some (y :: ys)
section
variable {α β γ δ : Type} [Rp α] [Rp β] [Rp γ] [Rp δ] {f : α → Option β} {g : γ → Option δ}
variable {K : PySem.W.Frag} {σ : St} {G H : Hp} {te ta tb : TE}
omit [Tbs] in
theorem prj_id : Prj (some : α → Option α) := fun h e => by cases e; exact h
omit [Tbs] in
theorem prj_int : Prj dyI := fun {_ _ v x y} h e => by
  cases x <;> cases e
  cases (show Dq _ _ _ _ from h)
  rfl
omit [Tbs] in
theorem prj_bool : Prj dyB := fun {_ _ v x y} h e => by
  cases x <;> cases e
  cases (show Dq _ _ _ _ from h)
  rfl
theorem prj_list : Prj dyL := fun {_ _ v x y} h e => by
  cases x with
  | list xs =>
    by_cases hl : xs.length ≤ 16000000
    · have e : (if xs.length ≤ 16000000 then some xs else none) = some y := e
      rw [if_pos hl] at e
      cases e
      cases (show Dq _ _ _ _ from h) with
      | lst h1 r =>
        have r := r.reps
        exact ⟨_, _, rfl, h1, by rw [r.len, sizeLine_eq]; omega, r⟩
    · have e : (if xs.length ≤ 16000000 then some xs else none) = some y := e
      rw [if_neg hl] at e
      cases e
  | none => cases e
  | bool _ => cases e
  | int _ => cases e
  | str _ => cases e
  | tuple _ => cases e
  | dict _ => cases e
theorem prj_tup : Prj dyT := fun {_ _ v x y} h e => by
  cases x with
  | tuple xs =>
    by_cases hl : xs.length ≤ 16000000
    · have e : (if xs.length ≤ 16000000 then some (⟨xs⟩ : TL PyData) else none) = some y := e
      rw [if_pos hl] at e
      cases e
      cases (show Dq _ _ _ _ from h) with
      | tup h1 r =>
        have r := r.reps
        exact ⟨_, _, rfl, h1, by rw [r.len, sizeLine_eq]; omega, r⟩
    · have e : (if xs.length ≤ 16000000 then some (⟨xs⟩ : TL PyData) else none) = some y := e
      rw [if_neg hl] at e
      cases e
  | none => cases e
  | bool _ => cases e
  | int _ => cases e
  | str _ => cases e
  | list _ => cases e
  | dict _ => cases e
omit [Tbs] in
theorem prj_t2 : Prj dyT2 := fun {_ _ v x y} h e => by
  unfold dyT2 at e
  split at e
  · cases e
    cases (show Dq _ _ _ _ from h) with
    | tup h1 r =>
      cases r with
      | cons r1 r =>
        cases r with
        | cons r2 r =>
          cases r
          exact ⟨_, _, _, rfl, h1, r1, r2⟩
  · cases e
omit [Tbs] in
theorem prj_t4 : Prj dyT4 := fun {_ _ v x y} h e => by
  unfold dyT4 at e
  split at e
  · cases e
    cases (show Dq _ _ _ _ from h) with
    | tup h1 r =>
      cases r with
      | cons r1 r =>
        cases r with
        | cons r2 r =>
          cases r with
          | cons r3 r =>
            cases r with
            | cons r4 r =>
              cases r
              exact ⟨_, _, _, _, _, rfl, h1, r1, r2, r3, r4⟩
  · cases e
omit [Tbs] in
theorem Prj.reps (h : Prj f) {K : PySem.W.Frag} {G : Hp} : ∀ {vs : List V} {ds : List α} {es : List β}, Reps K G vs ds → mapP f ds = some es → Reps K G vs es
  | _, _, _, .nil, e => by cases e; exact .nil
  | _, _, _, .cons r t, e => by
    obtain ⟨y, h1, e⟩ := bind_some (show (f _).bind _ = _ from e)
    obtain ⟨ys, h2, e⟩ := bind_some e
    cases e
    exact .cons (h r h1) (Prj.reps h t h2)
theorem prj_map (h : Prj f) : Prj (mapP f) := fun ⟨a, vs, e, h1, l, r⟩ hm => ⟨a, vs, e, h1, l, h.reps r hm⟩
omit [Tbs] in
theorem prj_both (h : Prj f) (h' : Prj g) : Prj (fun t : α × γ => (f t.1).bind fun x => (g t.2).bind fun y => some (x, y)) := fun ⟨a, x, y, e, h0, h1, h2⟩ hm => by
  obtain ⟨u, hu, hm⟩ := bind_some hm
  obtain ⟨w, hw, hm⟩ := bind_some hm
  cases hm
  exact ⟨a, x, y, e, h0, h h1 hu, h' h2 hw⟩
omit [Tbs] in
theorem prj_then {f2 : β → Option γ} (h : Prj f) (h' : Prj f2) : Prj (fun x => (f x).bind f2) := fun r hm => by
  obtain ⟨u, hu, hm⟩ := bind_some hm
  exact h' (h r hu) hm
theorem se_prj (h : Prj f) {m : Option α} (se : SE K te σ G H m) : SE K te σ G H (m.bind f) := fun G1 H1 e z hm Q q => by
  obtain ⟨x, hx, hm⟩ := bind_some hm
  exact se G1 H1 e x hx Q fun v G2 H2 e2 hv => q v G2 H2 e2 (h hv hm)
theorem se_prjp (h : Prj f) {x : α} (se : SE K te σ G H (some x)) : SE K te σ G H (f x) := se_prj h se
end
/-! ### looked at -/
/-- by kind: None, a truth, a whole number, a text, a list, a tuple -/
def dyK {α : Type} (n b i s l t z : α) : PyData → α
  | .none => n
  | .bool _ => b
  | .int _ => i
  | .str _ => s
  | .list _ => l
  | .tuple _ => t
  | .dict _ => z
def dyTy : PyData → String := dyK "NoneType" "bool" "int" "str" "list" "tuple" "dict"
def dyEq (x y : PyData) : Option Bool := if (SeqAt.shaped x && SeqAt.shaped y) = true then some (PyData.eqv x y) else none
def dyNe (x y : PyData) : Option Bool := if (SeqAt.shaped x && SeqAt.shaped y) = true then some (!PyData.eqv x y) else none
def dyNon : PyData → Bool := dyK true false false false false false false
def dyLen : PyData → Option Int
  | .list xs => some (xs.length : Int)
  | .tuple xs => some (xs.length : Int)
  | _ => none
def dyIx (x : PyData) (k : Int) : Option PyData := match x with
  | .list xs => ixO xs k
  | .tuple xs => ixO xs k
  | _ => none
section
variable {K : PySem.W.Frag} {σ : St} {G H : Hp} {te ta tb : TE} {m : Option PyData} {x : PyData} {T : String} {b1 b2 b3 b4 b5 b6 : Bool}
theorem dy_ty {v : V} (s : Vw G H) (h : Dq K G v x) : TyX K H v (.type (dyTy x)) := by
  cases h with
  | non => exact .base .non
  | bl b => exact .base (.bl _)
  | int i => exact .base (.int _)
  | str x => exact .base (.str _)
  | lst e r => exact .base (.lst (s _ _ e))
  | tup e r => exact ty_tup (same_tup s e)
theorem se_isiY (h : SE K te σ G H m) (h1 : kitB "NoneType" T = some b1) (h2 : kitB "bool" T = some b2) (h3 : kitB "int" T = some b3) (h4 : kitB "str" T = some b4) (h5 : kitB "list" T = some b5) (h6 : kitB "tuple" T = some b6) :
    SE K (tCB (rIsi K) (tCons te (tCons (tC (.ty T)) tNil))) σ G H (m.bind fun d => some (dyK b1 b2 b3 b4 b5 b6 false d)) := fun G1 H1 e z hm Q q => by
  obtain ⟨d, hd, hm⟩ := bind_some hm
  cases hm
  refine h G1 H1 e d hd _ fun v G2 H2 e2 hv => ?_
  have hv : Dq K G2 v d := hv
  have ht := dy_ty e2.s hv
  cases hv with
  | non => exact ⟨_, .ty T, _, _, _, rfl, .ty T, ht, kit_ty h1, q _ G2 H2 e2 rfl⟩
  | bl b => exact ⟨_, .ty T, _, _, _, rfl, .ty T, ht, kit_ty h2, q _ G2 H2 e2 rfl⟩
  | int i => exact ⟨_, .ty T, _, _, _, rfl, .ty T, ht, kit_ty h3, q _ G2 H2 e2 rfl⟩
  | str x => exact ⟨_, .ty T, _, _, _, rfl, .ty T, ht, kit_ty h4, q _ G2 H2 e2 rfl⟩
  | lst e r => exact ⟨_, .ty T, _, _, _, rfl, .ty T, ht, kit_ty h5, q _ G2 H2 e2 rfl⟩
  | tup e r => exact ⟨_, .ty T, _, _, _, rfl, .ty T, ht, kit_ty h6, q _ G2 H2 e2 rfl⟩
theorem se_isiYp (h : SE K te σ G H (some x)) (h1 : kitB "NoneType" T = some b1) (h2 : kitB "bool" T = some b2) (h3 : kitB "int" T = some b3) (h4 : kitB "str" T = some b4) (h5 : kitB "list" T = some b5) (h6 : kitB "tuple" T = some b6) :
    SE K (tCB (rIsi K) (tCons te (tCons (tC (.ty T)) tNil))) σ G H (some (dyK b1 b2 b3 b4 b5 b6 false x)) := se_isiY h h1 h2 h3 h4 h5 h6
theorem ro_eqY : RO K (rEqD K) dyEq := fun {G H v w x y z} s hv hw hz Q q => by
  unfold dyEq at hz
  split at hz
  · rename_i hs
    obtain ⟨s1, s2⟩ := Bool.and_eq_true_iff.mp hs
    cases hz
    exact ⟨x, y, Dq.dp s.s _ _ hv, Dq.dp s.s _ _ hw, s1, s2, q _ G H (Ext.refl s) rfl⟩
  · cases hz
theorem ro_neY : RO K (rNeD K) dyNe := fun {G H v w x y z} s hv hw hz Q q => by
  unfold dyNe at hz
  split at hz
  · rename_i hs
    obtain ⟨s1, s2⟩ := Bool.and_eq_true_iff.mp hs
    cases hz
    exact ⟨x, y, Dq.dp s.s _ _ hv, Dq.dp s.s _ _ hw, s1, s2, q _ G H (Ext.refl s) rfl⟩
  · cases hz
theorem se_eqY {ma mb : Option PyData} (ha : SE K ta σ G H ma) (hb : SE K tb σ G H mb) : SE K (tOp (rEqD K) ta tb) σ G H (ma.bind fun x => mb.bind fun y => dyEq x y) := se_op ha hb ro_eqY
theorem se_eqYp {a b : PyData} (ha : SE K ta σ G H (some a)) (hb : SE K tb σ G H (some b)) : SE K (tOp (rEqD K) ta tb) σ G H (dyEq a b) := se_opp ha hb ro_eqY
theorem se_neY {ma mb : Option PyData} (ha : SE K ta σ G H ma) (hb : SE K tb σ G H mb) : SE K (tOp (rNeD K) ta tb) σ G H (ma.bind fun x => mb.bind fun y => dyNe x y) := se_op ha hb ro_neY
theorem se_neYp {a b : PyData} (ha : SE K ta σ G H (some a)) (hb : SE K tb σ G H (some b)) : SE K (tOp (rNeD K) ta tb) σ G H (dyNe a b) := se_opp ha hb ro_neY
omit [Tbs] in
theorem dy_non {v : V} {d : PyData} (h : rep K G v d) : decide (v = .non) = dyNon d := by
  have h : Dq K G v d := h
  cases h <;> rfl
theorem se_isNY (ha : SE K ta σ G H m) : SE K (tOp (fun x y H Q => y = .non ∧ Q (.bl (decide (x = .non))) H) ta (tC .non)) σ G H (m.bind fun d => some (dyNon d)) := fun G1 H1 e z hm Q q => by
  obtain ⟨d, hd, hm⟩ := bind_some hm
  cases hm
  refine ha G1 H1 e d hd _ fun v G2 H2 e2 hv => ⟨rfl, ?_⟩
  rw [dy_non hv]
  exact q _ G2 H2 e2 rfl
theorem se_isNYp (ha : SE K ta σ G H (some x)) : SE K (tOp (fun x y H Q => y = .non ∧ Q (.bl (decide (x = .non))) H) ta (tC .non)) σ G H (some (dyNon x)) := se_isNY ha
theorem se_notNY (ha : SE K ta σ G H m) : SE K (tOp (fun x y H Q => y = .non ∧ Q (.bl (!decide (x = .non))) H) ta (tC .non)) σ G H (m.bind fun d => some (!dyNon d)) := fun G1 H1 e z hm Q q => by
  obtain ⟨d, hd, hm⟩ := bind_some hm
  cases hm
  refine ha G1 H1 e d hd _ fun v G2 H2 e2 hv => ⟨rfl, ?_⟩
  rw [dy_non hv]
  exact q _ G2 H2 e2 rfl
theorem se_notNYp (ha : SE K ta σ G H (some x)) : SE K (tOp (fun x y H Q => y = .non ∧ Q (.bl (!decide (x = .non))) H) ta (tC .non)) σ G H (some (!dyNon x)) := se_notNY ha
theorem rc_lenY : RC1 K (fun xs H Q => ∃ p ys, xs = [.ref p] ∧ (SqL K H p ys ∨ SqT K H p ys) ∧ Q (.int ys.length) H) dyLen := fun {G H v x z} s hv hz Q q => by
  have hv : Dq K G v x := hv
  cases hv with
  | lst e r => cases hz; exact ⟨_, _, rfl, .inl (SqL.of (s _ _ e)), by rw [r.reps.len]; exact q _ G H (Ext.refl s) rfl⟩
  | tup e r => cases hz; exact ⟨_, _, rfl, .inr (same_tup s e), by rw [r.reps.len]; exact q _ G H (Ext.refl s) rfl⟩
  | _ => cases hz
theorem se_lenY (ha : SE K ta σ G H m) : SE K (tCB (fun xs H Q => ∃ p ys, xs = [.ref p] ∧ (SqL K H p ys ∨ SqT K H p ys) ∧ Q (.int ys.length) H) (tCons ta tNil)) σ G H (m.bind fun x => dyLen x) := se_cb1 ha rc_lenY
theorem se_lenYp (ha : SE K ta σ G H (some x)) : SE K (tCB (fun xs H Q => ∃ p ys, xs = [.ref p] ∧ (SqL K H p ys ∨ SqT K H p ys) ∧ Q (.int ys.length) H) (tCons ta tNil)) σ G H (dyLen x) := se_cb1p ha rc_lenY
theorem ro_ixY : RO K (rIxU K) dyIx := fun {G H v w x y z} s hv hw hz Q q => by
  have hv : Dq K G v x := hv
  cases hv with
  | lst e r =>
    obtain ⟨u, h1, h2⟩ := atI_reps r.reps (show ixO _ y = some z from hz)
    exact .inl ⟨_, _, y, u, rfl, hw, SqL.of (s _ _ e), h1, q u G H (Ext.refl s) h2⟩
  | tup e r =>
    obtain ⟨u, h1, h2⟩ := atI_reps r.reps (show ixO _ y = some z from hz)
    exact .inr ⟨_, _, y, u, rfl, hw, same_tup s e, h1, q u G H (Ext.refl s) h2⟩
  | _ => cases hz
theorem se_ixY {k : Option Int} (ha : SE K ta σ G H m) (hb : SE K tb σ G H k) : SE K (tOp (rIxU K) ta tb) σ G H (m.bind fun x => k.bind fun y => dyIx x y) := se_op ha hb ro_ixY
theorem se_ixYp {y : Int} (ha : SE K ta σ G H (some x)) (hb : SE K tb σ G H (some y)) : SE K (tOp (rIxU K) ta tb) σ G H (dyIx x y) := se_opp ha hb ro_ixY
/-- a cut out of a tuple -/
def dySl (x : PyData) (lo hi : Option Int) : Option PyData := match x with
  | .tuple xs => if xs.length ≤ 16000000 then some (.tuple (cutL xs lo hi)) else none
  | _ => none
theorem cutIx_eq (n d : Nat) (o : Option Int) : HT.sIx n d o = cutIx n d o := by
  cases o with
  | none => rfl
  | some v =>
    have q := HT.clip_eq v n d
    show _ = ((if v < 0 then max (v + (n : Int)) 0 else min v (n : Int))).toNat
    rw [q]
    rfl
theorem se_sliceY {tlo thi : TO} {mlo mhi : Option (Option Int)} (h : SE K te σ G H m) (h1 : SO tlo σ G H mlo) (h2 : SO thi σ G H mhi) : SE K (tSl (rSlA K) te tlo thi) σ G H (m.bind fun x => mlo.bind fun lo => mhi.bind fun hi => dySl x lo hi) := fun G1 H1 e r hm Q q => by
  obtain ⟨x, hx, hm⟩ := bind_some hm
  obtain ⟨lo, hlo, hm⟩ := bind_some hm
  obtain ⟨hi, hhi, hm⟩ := bind_some hm
  refine h G1 H1 e x hx _ fun v G2 H2 e2 hv => ?_
  refine h1 G2 H2 (e.trans e2) lo hlo _ fun G3 H3 e3 => ?_
  refine h2 G3 H3 ((e.trans e2).trans e3) hi hhi _ fun G4 H4 e4 => ?_
  cases x with
  | tuple xs =>
    by_cases hl : xs.length ≤ 16000000
    · have hm : (if xs.length ≤ 16000000 then some (PyData.tuple (cutL xs lo hi)) else none) = some r := hm
      rw [if_pos hl] at hm
      cases hm
      cases (show Dq K G2 v (.tuple xs) from hv) with
      | @tup a vs _ e9 r9 =>
        have er := e3.trans e4
        have h9 := same_tup er.g e9
        have rr := r9.reps
        refine ⟨a, vs, rfl, same_tup er.s.s h9, fun ⟨c1, c2⟩ => ?_, fun _ p hp => ?_⟩
        · refine q _ G4 H4 (e2.trans er) ?_
          have ec : cutL xs lo hi = xs := by
            unfold cutL
            rw [cutIx_eq, rr.len] at c1 c2
            rw [c1, c2, List.drop_zero, Nat.sub_zero, List.take_length]
          rw [ec]
          exact Dq.mono er.g _ _ hv
        · have en := Ext.new (o := .tup (cutV vs lo hi)) er.s hp
          refine q _ _ _ ((e2.trans er).trans en) ?_
          exact .tup (SqT.of upd_same) (reps_dq ((rr.mono (er.trans en).g).cut))
    · have hm : (if xs.length ≤ 16000000 then some (PyData.tuple (cutL xs lo hi)) else none) = some r := hm
      rw [if_neg hl] at hm
      cases hm
  | none => cases hm
  | bool _ => cases hm
  | int _ => cases hm
  | str _ => cases hm
  | list _ => cases hm
  | dict _ => cases hm
theorem se_sliceYp {tlo thi : TO} {lo hi : Option Int} (h : SE K te σ G H (some x)) (h1 : SO tlo σ G H (some lo)) (h2 : SO thi σ G H (some hi)) : SE K (tSl (rSlA K) te tlo thi) σ G H (dySl x lo hi) := se_sliceY h h1 h2
instance : RpY TK := ⟨fun {_ _ _ x} ⟨a, e, h, l⟩ => by
  rw [e]
  exact .tup (SqT.of h) (dq_map (reps_ints x.l))⟩
end
section
variable {α : Type} [Rp α] {K : PySem.W.Frag} {σ : St} {G H : Hp} {te : TE}
theorem se_tupleG {m : Option (List α)} (h : SE K te σ G H m) : SE K (tCB (fun xs H Q => ∃ p ys, xs = [.ref p] ∧ ((SqL K H p ys ∧ ∀ l, H l = none → Q (.ref l) (upd H l (.tup ys))) ∨ (SqT K H p ys ∧ Q (.ref p) H))) (tCons te tNil)) σ G H (m.bind fun xs => some (TL.mk xs)) := fun G1 H1 e r hm Q q => by
  obtain ⟨xs, hx, hm⟩ := bind_some hm
  cases hm
  refine h G1 H1 e xs hx _ fun v G2 H2 e2 ⟨a, vs, ea, ha, l, rs⟩ => ?_
  refine ⟨a, vs, by rw [ea], .inl ⟨SqL.of (e2.s _ _ ha), fun p np => ?_⟩⟩
  have en := Ext.new (o := .tup vs) e2.s np
  exact q (.ref p) _ _ (e2.trans en) ⟨p, vs, rfl, SqT.of upd_same, l, rs.mono en.g⟩
theorem se_tupleGp {xs : List α} (h : SE K te σ G H (some xs)) : SE K (tCB (fun xs H Q => ∃ p ys, xs = [.ref p] ∧ ((SqL K H p ys ∧ ∀ l, H l = none → Q (.ref l) (upd H l (.tup ys))) ∨ (SqT K H p ys ∧ Q (.ref p) H))) (tCons te tNil)) σ G H (some (TL.mk xs)) := se_tupleG h
end
/-! ### texts -/
def catS (x y : Str) : Option Str := if x.length + y.length ≤ 16000000 then some (x ++ y) else none
section
variable {K : PySem.W.Frag} {σ : St} {G H : Hp} {ta tb : TE}
theorem ro_catS : RO K (fun x y H Q => ∃ i j, x = .str i ∧ y = .str j ∧ i.length + j.length ≤ sizeLine ∧ Q (.str (i ++ j)) H) catS := fun {G H v w x y z} s hv hw hz Q q => by
  unfold catS at hz
  split at hz
  · rename_i hl
    cases hz
    exact ⟨x, y, hv, hw, by rw [sizeLine_eq]; omega, q _ G H (Ext.refl s) rfl⟩
  · cases hz
theorem se_catS {ma mb : Option Str} (ha : SE K ta σ G H ma) (hb : SE K tb σ G H mb) : SE K (tOp (fun x y H Q => ∃ i j, x = .str i ∧ y = .str j ∧ i.length + j.length ≤ sizeLine ∧ Q (.str (i ++ j)) H) ta tb) σ G H (ma.bind fun x => mb.bind fun y => catS x y) := se_op ha hb ro_catS
theorem se_catSp {a b : Str} (ha : SE K ta σ G H (some a)) (hb : SE K tb σ G H (some b)) : SE K (tOp (fun x y H Q => ∃ i j, x = .str i ∧ y = .str j ∧ i.length + j.length ≤ sizeLine ∧ Q (.str (i ++ j)) H) ta tb) σ G H (catS a b) := se_opp ha hb ro_catS
end
end Mi

/-! MiM: the place of a number in a list. -/
namespace Mi
variable [Tbs]
open PySem L2
open Rp (rep)
/-- the first place of a number -/
def idxN (x : Int) : List Int → Option Nat
  | [] => none
  | y :: r => if y = x then some 0 else (idxN x r).map (· + 1)
def idxO (xs : List Int) (x : Int) : Option Int := (idxN x xs).bind fun n : Nat => some (n : Int)
theorem idxN_at {x : Int} : ∀ {xs : List Int} {j : Nat}, idxN x xs = some j → xs[j]? = some x ∧ ∀ m, m < j → xs[m]? ≠ some x
  | [], j, h => by cases h
  | y :: r, j, h => by
    unfold idxN at h
    split at h
    · rename_i e
      cases h
      exact ⟨by rw [e]; rfl, fun m hm => absurd hm (by omega)⟩
    · rename_i e
      obtain ⟨i, hi, rfl⟩ := Option.map_eq_some_iff.mp h
      obtain ⟨h1, h2⟩ := idxN_at hi
      refine ⟨h1, fun m hm => ?_⟩
      cases m with
      | zero => exact fun z => e (Option.some.inj z)
      | succ m => exact h2 m (by omega)
section
variable {K : PySem.W.Frag} {σ : L2.St} {G H : Hp} {te ta : TE}
theorem se_idx {m : Option (List Int)} {n : Option Int} (h : SE K te σ G H m) (ha : SE K ta σ G H n) : SE K (tBM K "list" (rIndex K) te (tCons ta tNil)) σ G H (m.bind fun xs => n.bind fun b => idxO xs b) := fun G1 H1 e r hm Q q => by
  obtain ⟨xs, hx, hm⟩ := bind_some hm
  obtain ⟨b, hb, hm⟩ := bind_some hm
  obtain ⟨j, hj, hm⟩ := bind_some hm
  cases hm
  obtain ⟨h1, h2⟩ := idxN_at hj
  refine h G1 H1 e xs hx _ fun v G2 H2 e2 ⟨a, vs, ea, hg, l, rs⟩ => ?_
  have e3 := rs.ints
  subst e3 ea
  refine ⟨.inl ⟨rfl, _, SqL.of (e2.s _ _ hg)⟩, ha G2 H2 (e.trans e2) b hb _ fun u G3 H3 e4 ru => ?_⟩
  have ru : u = .int b := ru
  subst ru
  refine ⟨a, xs.map V.int, .int b, j, .int b, rfl, rfl, SqL.of (e4.s _ _ (e4.g _ _ hg)), rfl, ?_, ?_, ?_, fun m z hm hz => ?_, q _ G3 H3 (e2.trans e4) rfl⟩
  · rw [List.all_eq_true]
    intro v hv
    obtain ⟨i, _, rfl⟩ := List.mem_map.mp hv
    rfl
  · rw [List.getElem?_map, h1]
    rfl
  · show (b == b) = true
    exact beq_self_eq_true b
  · rw [List.getElem?_map] at hz
    obtain ⟨i, hi, rfl⟩ := Option.map_eq_some_iff.mp hz
    show (i == b) = false
    exact beq_eq_false_iff_ne.mpr fun e => h2 m hm (by rw [hi, e])
theorem se_idxp {xs : List Int} {b : Int} (h : SE K te σ G H (some xs)) (ha : SE K ta σ G H (some b)) : SE K (tBM K "list" (rIndex K) te (tCons ta tNil)) σ G H (idxO xs b) := se_idx h ha
end
/-! ### list(range(n)) -/
section
def tLstRng (te : TE) : TE := fun σ H Q => te σ H fun v H1 => ∃ n : Int, v = .int n ∧ 0 ≤ n ∧ n ≤ 16000000 ∧ ∀ q, H1 q = none → Q (.ref q) (upd H1 q (.lst ((List.range n.toNat).map fun k => V.int ((k : Nat) : Int))))
open PySem.Spec PyProof.Rows in
theorem vals_range {n : Nat} {acc : Array Value} (h : ItemsOf (fun i v => ∃ t, v = .int ((0 : Int) + i * 1) t) acc n) : Vals ((List.range n).map fun k => V.int ((k : Nat) : Int)) acc.toList := by
  obtain ⟨h1, h2⟩ := h
  have key : ∀ (l : List Value) (b : Nat), (∀ (j : Nat) (v : Value), l[j]? = some v → ∃ t, v = .int (((b + j : Nat) : Int)) t) → Vals ((List.range' b l.length).map fun k => V.int ((k : Nat) : Int)) l := by
    intro l
    induction l with
    | nil => intro b _; exact .nil
    | cons x r ih =>
      intro b h
      obtain ⟨t, e⟩ := h 0 x rfl
      refine .cons ⟨t, e⟩ (ih (b + 1) fun j v hj => ?_)
      obtain ⟨t, e⟩ := h (j + 1) v hj
      exact ⟨t, by rw [e]; congr 2; omega⟩
  have := key acc.toList 0 fun j v hj => by
    obtain ⟨t, e⟩ := h2 j v (by rw [← Array.getElem?_toList]; exact hj)
    exact ⟨t, by rw [e]; congr 1; omega⟩
  rw [Array.length_toList, h1, ← List.range_eq_range'] at this
  exact this
open PySem.Spec PyProof.Rows in
theorem pe_lstRng {X : Cx} {e : Expr} {te : TE} {p p2 pos pos2 : Pos} (hc : X.calm = true) (hg : Gl X "list") (hm : X.mg "list" = none) (hg2 : Gl X "range") (hm2 : X.mg "range" = none) (he : PE X e te)
    (hs : starEach [e] X.env = (false, eval e X.env) :: starEach [] X.env := by rfl) (hs2 : starEach [.Call (.Name "range" p2) [e] [] pos2] X.env = (false, eval (.Call (.Name "range" p2) [e] [] pos2) X.env) :: starEach [] X.env := by rfl) :
    PE X (.Call (.Name "list" p) [.Call (.Name "range" p2) [e] [] pos2] [] pos) (tLstRng te) := by
  refine ⟨fun pins s σ H Q I h => ?_⟩
  refine Call_ (ld_blt I hg hm boot_list (PyProof.Rows.callWith_type1 (args_cons (Call_ (ld_blt I hg2 hm2 boot_range (PyProof.Rows.callWith_type1 (args_cons (thn (he.run pins s σ H _ I h) fun u s1 ⟨v, H1, I1, r1, q1⟩ => args_nil ?_) hs) hs rfl))) hs2) hs2 rfl))
  obtain ⟨n, ev, n0, n1, q⟩ := q1
  subst ev
  obtain ⟨t, rfl⟩ := r1
  refine call_range_1 (args_nil ?_)
  have keep : ∀ b o, s1.heap.get? b = some o → (s1.heap.push { cls := .type "range", data := .fields #[.int 0 s1.toks, .int n t, .int 1 (s1.toks + 1)] }).get? b = some o := fun b o e => Heap.get?_push_of_some _ e
  have above : s1.heap.objs.size ≤ (s1.heap.push { cls := .type "range", data := .fields #[.int 0 s1.toks, .int n t, .int 1 (s1.toks + 1)] }).objs.size := by simp [Heap.push]
  refine call_list_range (n := n.toNat) (s := { s1 with heap := s1.heap.push { cls := .type "range", data := .fields #[.int 0 s1.toks, .int n t, .int 1 (s1.toks + 1)] }, toks := s1.toks + 1 + 1 }) (I1.ok.hd hc) (IsRange.new ..) (small_one (by decide) (by decide) (by omega) (by omega)) (by rw [rangeSize_one]; split <;> omega) (by omega) fun h' tk acc c' hk got all => ?_
  have keepAll : ∀ b o, s1.heap.get? b = some o → h'.get? b = some o := fun b o e => hk b o (keep b o e)
  refine ⟨V.ref (s1.heap.push { cls := .type "range", data := .fields #[.int 0 s1.toks, .int n t, .int 1 (s1.toks + 1)] }).objs.size, _, I1.laid (t' := tk) keepAll above (show ObjOk X.prog X.w _ _ _ (.lst ((List.range n.toNat).map fun k => V.int ((k : Nat) : Int))) from ⟨?_, acc.toList, c', vals_range all, ?_⟩), rfl, q _ (I1.hok.fresh above)⟩
  · rw [List.length_map, List.length_range]
    show n.toNat ≤ 2 ^ 24
    omega
  · rw [Array.toArray_toList]
    exact got
/-- the numbers below n -/
def lrngO (n : Int) : Option (List Int) := if 0 ≤ n ∧ n ≤ 16000000 then some ((List.range n.toNat).map fun k => ((k : Nat) : Int)) else none
variable {K : PySem.W.Frag} {σ : L2.St} {G H : Hp} {te : TE}
theorem fe_lstRng {m : Option Int} (h : SE K te σ G H m) : FE K (tLstRng te) σ G H (m.bind fun n => lrngO n) := fun G1 H1 e r hm Q q => by
  obtain ⟨n, hn, hm⟩ := bind_some hm
  unfold lrngO at hm
  split at hm
  · rename_i hb
    cases hm
    refine h G1 H1 e n hn _ fun v G2 H2 e2 hv => ⟨n, hv, hb.1, hb.2, fun p np => ?_⟩
    have rs : Reps K G2 ((List.range n.toNat).map fun k => V.int ((k : Nat) : Int)) ((List.range n.toNat).map fun k => ((k : Nat) : Int)) := by
      have := reps_ints (K := K) (G := G2) ((List.range n.toNat).map fun k => ((k : Nat) : Int))
      rw [List.map_map] at this
      exact this
    have o := own_new (K := K) e2.s np (by rw [List.length_map, List.length_range]; show n.toNat ≤ 2 ^ 24; omega) rs
    exact q p G2 _ (e2.trans (Ext.own e2.s np)) ⟨e2.h.free np, o.g, o.h⟩
  · cases hm
theorem fe_lstRngp {n : Int} (h : SE K te σ G H (some n)) : FE K (tLstRng te) σ G H (lrngO n) := fe_lstRng h
end
end Mi

/-! MiC: tuples of lists and tables of one's own, handed back, told apart, cleared. -/
namespace Mi
variable [Tbs]
open PySem L2
open Rp (rep)
section
variable {α β γ ρ : Type} [Rp α] [Rp β] [Rp γ] {K : PySem.W.Frag}
/-- two new lists; a value and a new table; a new list and a new table -/
def RFF (K : PySem.W.Frag) (H G' H' : Hp) (u : V) (r : List α × List β) : Prop := ∃ t p q, u = .ref t ∧ SqT K G' t [.ref p, .ref q] ∧ Own K H G' H' p r.1 ∧ Own K H G' H' q r.2 ∧ p ≠ q
def RVT (K : PySem.W.Frag) (H G' H' : Hp) (u : V) (r : α × List (List β)) : Prop := ∃ t y z qs, u = .ref t ∧ SqT K G' t [y, .ref z] ∧ rep K G' y r.1 ∧ Own2 K H G' H' z qs r.2
theorem rffm : ∀ H1 H2, HK H1 H2 → ∀ G' H' u (r : List α × List β), RFF K H2 G' H' u r → RFF K H1 G' H' u r := fun _ _ s _ _ _ _ ⟨t, p, q, e, h, a, b, n⟩ => ⟨t, p, q, e, h, a.up s, b.up s, n⟩
theorem rvtm : ∀ H1 H2, HK H1 H2 → ∀ G' H' u (r : α × List (List β)), RVT K H2 G' H' u r → RVT K H1 G' H' u r := fun _ _ s _ _ _ _ ⟨t, y, z, qs, e, h, a, b⟩ => ⟨t, y, z, qs, e, h, a, b.up s⟩
/-- None, or two lists and a table of one's own -/
def Own3 (K : PySem.W.Frag) (H0 G H : Hp) (w : V) (d : Option (T3 (List α) (List β) (List (List γ)))) : Prop := match d with
  | none => w = .non
  | some d => ∃ t p q z qs, w = .ref t ∧ SqT K G t [.ref p, .ref q, .ref z] ∧ Own K H0 G H p d.a ∧ Own K H0 G H q d.b ∧ Own2 K H0 G H z qs d.c ∧ p ≠ q ∧ p ∉ z :: qs ∧ q ∉ z :: qs
def R3 (K : PySem.W.Frag) (H G' H' : Hp) (u : V) (r : Option (T3 (List α) (List β) (List (List γ)))) : Prop := Own3 K H G' H' u r
section
variable {H0 G H G0 G1 H1 : Hp} {w : V} {d : Option (T3 (List α) (List β) (List (List γ)))}
theorem Own3.mono (x : Own3 K H0 G H w d) (e : Ext G H G1 H1) : Own3 K H0 G1 H1 w d := by
  cases d with
  | none => exact x
  | some d =>
    obtain ⟨t, p, q, z, qs, ew, h, a, b, c, n⟩ := x
    exact ⟨t, p, q, z, qs, ew, same_tup e.g h, a.mono e, b.mono e, c.mono e, n⟩
theorem Own3.up (x : Own3 K H G1 H1 w d) (s : HK H0 H) : Own3 K H0 G1 H1 w d := by
  cases d with
  | none => exact x
  | some d =>
    obtain ⟨t, p, q, z, qs, ew, h, a, b, c, n⟩ := x
    exact ⟨t, p, q, z, qs, ew, h, a.up s, b.up s, c.up s, n⟩
theorem Own3.show (x : Own3 K H0 G H w d) (e : Ext G0 H0 G H) : ∃ G', Ext G0 H0 G' H ∧ Same G G' ∧ rep K G' w d := by
  cases d with
  | none => exact ⟨G, e, Same.refl _, x⟩
  | some d =>
    obtain ⟨t, p, q, z, qs, ew, h, a, b, c, n1, n2, n3⟩ := x
    obtain ⟨vs, e1, s1, r1⟩ := a.show e
    have b1 := b.off2 (o := .lst vs) n1.symm a.g
    have c1 := c.off2 (o := .lst vs) n2 a.g
    obtain ⟨ws, e2, s2, r2⟩ := b1.show e1
    have c2 := c1.off2 (o := .lst ws) n3 b1.g
    obtain ⟨e3, s3, r3⟩ := c2.show e2
    subst ew
    have hr : rep K _ (V.ref t) d := ⟨t, .ref p, .ref q, .ref z, rfl, same_tup (s1.trans (s2.trans s3)) h, Rp.mono (s2.trans s3) r1, Rp.mono s3 r2, r3⟩
    exact ⟨_, e3, s1.trans (s2.trans s3), hr, RpN.nn hr⟩
theorem r3m : ∀ H1 H2, HK H1 H2 → ∀ G' H' u (r : Option (T3 (List α) (List β) (List (List γ)))), R3 K H2 G' H' u r → R3 K H1 G' H' u r := fun _ _ s _ _ _ _ h => Own3.up h s
end
section
variable {σ : St} {G H : Hp} {te ta tb tc : TE} {D : Ends} {i j k : Nat} {H0 G0 : Hp} {out : ρ}
theorem XE.ffse {m : Option (List α × List β)} (h : XE (RFF K) te σ G H m) : SE K te σ G H m := fun G1 H1 e r hm Q q =>
  h G1 H1 e r hm Q fun u G2 H2 e2 ⟨t, p, z, eu, ht, a, b, n⟩ => by
    obtain ⟨vs, e3, s1, r1⟩ := a.show e2
    have b1 := b.off2 (o := .lst vs) n.symm a.g
    obtain ⟨ws, e4, s2, r2⟩ := b1.show e3
    rw [eu]
    exact q (.ref t) _ H2 e4 ⟨t, .ref p, .ref z, rfl, same_tup (s1.trans s2) ht, Rp.mono s2 r1, r2⟩
theorem XE.vtse {m : Option (α × List (List β))} (h : XE (RVT K) te σ G H m) : SE K te σ G H m := fun G1 H1 e r hm Q q =>
  h G1 H1 e r hm Q fun u G2 H2 e2 ⟨t, y, z, qs, eu, ht, a, b⟩ => by
    obtain ⟨e3, s1, r1⟩ := b.show e2
    rw [eu]
    exact q (.ref t) _ H2 e3 ⟨t, y, .ref z, rfl, same_tup s1 ht, Rp.mono s1 a, r1⟩
theorem XE.n3se {m : Option (Option (T3 (List α) (List β) (List (List γ))))} (h : XE (R3 K) te σ G H m) : SE K te σ G H m := fun G1 H1 e r hm Q q =>
  h G1 H1 e r hm Q fun u G2 H2 e2 o => by
    obtain ⟨G', e3, s, hr⟩ := Own3.show o e2
    exact q u G' H2 e3 hr
theorem x3_none : XE (R3 K) (tC .non) σ G H (some (none : Option (T3 (List α) (List β) (List (List γ))))) := fun G1 H1 e r hm Q q => by
  cases hm
  exact q .non G1 H1 (Ext.refl e.s) rfl
/-- the table that is the second thing -/
theorem fe2_vt1 {m : Option (α × List (List β))} (h : XE (RVT K) te σ G H m) : FE2 K (tOp (rIxT K) te (tC (.int 1))) σ G H (m.bind fun t => some t.2) := fun G1 H1 e z hm Q q => by
  obtain ⟨t, ht, hm⟩ := bind_some hm
  cases hm
  refine h G1 H1 e t ht _ fun v G2 H2 e2 ⟨a, y, p, qs, ea, ha, hy, o⟩ => ?_
  exact ⟨a, [y, .ref p], 1, .ref p, ea, rfl, same_tup e2.s.s ha, rfl, q p qs G2 H2 e2 o⟩
/-! ### handed back -/
theorem st_retFF {ma : Option (List α)} {mb : Option (List β)} {r : List α × List β} (e : Ext G0 H0 G H) (fa : FE K ta σ G H ma) (fb : FE K tb σ G H mb) (hm : (ma.bind fun x => mb.bind fun y => some (x, y)) = some r) (q : ∀ u G' H', Ext G0 H0 G' H' → RFF K H0 G' H' u r → D.rt u H') : tRet (tTup (tCons ta (tCons tb tNil))) D σ H := by
  obtain ⟨x, hx, hm⟩ := bind_some hm
  obtain ⟨y, hy, hm⟩ := bind_some hm
  cases hm
  refine fa G H (Ext.refl e.s) x hx _ fun p G1 H1 e1 o => ?_
  refine fb G1 H1 e1 y hy _ fun z G2 H2 e2 o2 => ⟨by show 2 ≤ sizeLine; decide, fun t nt => ?_⟩
  have e3 := Ext.new (o := .tup [.ref p, .ref z]) e2.s nt
  have hne : p ≠ z := o.ne2 o2.z
  exact q _ _ _ (((e.trans e1).trans e2).trans e3) ⟨t, p, z, rfl, SqT.of upd_same, (((o.up e.h).mono e2).mono e3), ((o2.up (e.trans e1).h).mono e3), hne⟩
theorem st_retOF {p : Addr} {ds : List α} {mb : Option (List β)} {r : List α × List β} (hv : σ[i]? = some (some (.ref p))) (e : Ext G0 H0 G H) (o : Own K H0 G H p ds) (fb : FE K tb σ G H mb) (hm : (mb.bind fun y => some (ds, y)) = some r) (q : ∀ u G' H', Ext G0 H0 G' H' → RFF K H0 G' H' u r → D.rt u H') : tRet (tTup (tCons (tVar i) (tCons tb tNil))) D σ H := by
  obtain ⟨y, hy, hm⟩ := bind_some hm
  cases hm
  refine ⟨.ref p, hv, ?_⟩
  refine fb G H (Ext.refl e.s) y hy _ fun z G2 H2 e2 o2 => ⟨by show 2 ≤ sizeLine; decide, fun t nt => ?_⟩
  have e3 := Ext.new (o := .tup [.ref p, .ref z]) e2.s nt
  exact q _ _ _ ((e.trans e2).trans e3) ⟨t, p, z, rfl, SqT.of upd_same, ((o.mono e2).mono e3), ((o2.up e.h).mono e3), o.ne2 o2.z⟩
theorem st_retVT {z : Addr} {qs : List Nat} {ds : List (List β)} {ma : Option α} {r : α × List (List β)} (hv : σ[j]? = some (some (.ref z))) (e : Ext G0 H0 G H) (o : Own2 K H0 G H z qs ds) (sa : SE K ta σ G H ma) (hm : (ma.bind fun x => some (x, ds)) = some r) (q : ∀ u G' H', Ext G0 H0 G' H' → RVT K H0 G' H' u r → D.rt u H') : tRet (tTup (tCons ta (tCons (tVar j) tNil))) D σ H := by
  obtain ⟨x, hx, hm⟩ := bind_some hm
  cases hm
  refine sa G H (Ext.refl e.s) x hx _ fun v G2 H2 e2 hw => ⟨.ref z, hv, by show 2 ≤ sizeLine; decide, fun t nt => ?_⟩
  have e3 := Ext.new (o := .tup [v, .ref z]) e2.s nt
  exact q _ _ _ ((e.trans e2).trans e3) ⟨t, v, z, qs, rfl, SqT.of upd_same, Rp.mono e3.g hw, ((o.mono e2).mono e3)⟩
theorem st_ret3 {p z : Addr} {ds : List α} {es : List β} {mc : Option (List (List γ))} {r : Option (T3 (List α) (List β) (List (List γ)))} (hv : σ[i]? = some (some (.ref p))) (hw : σ[j]? = some (some (.ref z))) (e : Ext G0 H0 G H) (o : Own K H0 G H p ds) (o2 : Own K H0 G H z es) (hne : p ≠ z) (fc : FE2 K tc σ G H mc)
    (hm : (mc.bind fun y => some (some (T3.mk ds es y))) = some r) (q : ∀ u G' H', Ext G0 H0 G' H' → R3 K H0 G' H' u r → D.rt u H') : tRet (tTup (tCons (tVar i) (tCons (tVar j) (tCons tc tNil)))) D σ H := by
  obtain ⟨y, hy, hm⟩ := bind_some hm
  cases hm
  refine ⟨.ref p, hv, .ref z, hw, ?_⟩
  refine fc G H (Ext.refl e.s) y hy _ fun b qs G2 H2 e2 x => ⟨by show 3 ≤ sizeLine; decide, fun t nt => ?_⟩
  have e3 := Ext.new (o := .tup [.ref p, .ref z, .ref b]) e2.s nt
  have n2 : p ∉ b :: qs := fun h => o.ne (x.zs p h)
  have n3 : z ∉ b :: qs := fun h => o2.ne (x.zs z h)
  exact q _ _ _ ((e.trans e2).trans e3) ⟨t, p, z, b, qs, rfl, SqT.of upd_same, ((o.mono e2).mono e3), ((o2.mono e2).mono e3), ((x.up e.h).mono e3), hne, n2, n3⟩
/-! ### told apart, named -/
theorem st_un2FF {m : Option (List α × List β)} {kk : List α × List β → Option ρ} (hs : Vw G H) (se : XE (RFF K) te σ G H m) (hm : m.bind kk = some out) (kont : ∀ x p z G1 H1, Ext G H G1 H1 → Own K H G1 H1 p x.1 → Own K H G1 H1 z x.2 → p ≠ z → kk x = some out → D.nx ((σ.set i (some (.ref p))).set j (some (.ref z))) H1) :
    tAsg te (gTup K 2 (gCons (gName i) (gCons (gName j) gNil))) D σ H := by
  obtain ⟨x, hx, hk⟩ := bind_some hm
  refine se G H (Ext.refl hs) x hx _ fun v G1 H1 e ⟨a, p, z, ea, ha, h1, h2, n⟩ => ?_
  exact ⟨a, [.ref p, .ref z], ea, same_tup e.s.s ha, rfl, .ref p, [.ref z], rfl, .ref z, [], rfl, rfl, kont x p z G1 H1 e h1 h2 n hk⟩
theorem st_parFF {ma : Option (List α)} {mb : Option (List β)} {kk : List α → List β → Option ρ} (hs : Vw G H) (s1 : FE K ta σ G H ma) (s2 : FE K tb σ G H mb) (hm : (ma.bind fun x => mb.bind fun y => kk x y) = some out) (kont : ∀ x y p z G1 H1, Ext G H G1 H1 → Own K H G1 H1 p x → Own K H G1 H1 z y → p ≠ z → kk x y = some out → D.nx ((σ.set i (some (.ref p))).set j (some (.ref z))) H1) :
    tPar i j (tCons ta (tCons tb tNil)) D σ H := by
  obtain ⟨x, hx, hm⟩ := bind_some hm
  obtain ⟨y, hy, hm⟩ := bind_some hm
  refine s1 G H (Ext.refl hs) x hx _ fun p G1 H1 e1 o => ?_
  refine s2 G1 H1 e1 y hy _ fun z G2 H2 e2 o2 => ?_
  exact ⟨.ref p, .ref z, rfl, kont x y p z G2 H2 (e1.trans e2) (o.mono e2) (o2.up e1.h) (o.ne2 o2.z) hm⟩
theorem st_set3 {m : Option (Option (T3 (List α) (List β) (List (List γ))))} {kk : Option (T3 (List α) (List β) (List (List γ))) → Option ρ} (hs : Vw G H) (se : XE (R3 K) te σ G H m) (hm : m.bind kk = some out) (kont : ∀ x w G1 H1, Ext G H G1 H1 → Own3 K H G1 H1 w x → kk x = some out → D.nx (σ.set i (some w)) H1) : tAsg te (gName i) D σ H := by
  obtain ⟨x, hx, hk⟩ := bind_some hm
  exact se G H (Ext.refl hs) x hx _ fun u G1 H1 e o => kont x u G1 H1 e o hk
theorem st_tmp3 {w : V} {d : Option (T3 (List α) (List β) (List (List γ)))} {m : Option Bool} {tt : TT} (o : Own3 K H0 G H w d) (h : ∀ G', Same G G' → rep K G' w d → ST tt σ G' H m) : ST tt σ G H m := by
  cases d with
  | none => exact h G (Same.refl _) o
  | some d =>
    obtain ⟨t, p, q, z, qs, ew, ht, a, b, c, n1, n2, n3⟩ := o
    subst ew
    refine st_tmp a fun vs s1 r1 => ?_
    have b1 := b.off2 (o := .lst vs) n1.symm a.g
    have c1 := c.off2 (o := .lst vs) n2 a.g
    refine st_tmp b1 fun ws s2 r2 => ?_
    have c2 := c1.off2 (o := .lst ws) n3 b1.g
    refine st_tmp2 c2 fun s3 r3 => ?_
    have hr : rep K (Mi.shv (z :: qs) (upd (upd G p (.lst vs)) q (.lst ws)) H) (V.ref t) d := ⟨t, .ref p, .ref q, .ref z, rfl, same_tup (s1.trans (s2.trans s3)) ht, Rp.mono (s2.trans s3) r1, Rp.mono s3 r2, r3⟩
    exact h _ (s1.trans (s2.trans s3)) ⟨hr, RpN.nn hr⟩
/-! ### cleared -/
theorem st_clr0 {w : V} {d : Option (T3 (List α) (List β) (List (List γ)))} {kk : Option (T3 (List α) (List β) (List (List γ))) → Option ρ} (hs : Vw G H) (hv : σ[i]? = some (some w)) (o : Own3 K H0 G H w d) (hm : (d.bind fun x => some (some (T3.mk ([] : List α) x.b x.c))).bind kk = some out)
    (kont : ∀ d' p h, Own3 K H0 G (upd H p h) w d' → H0 p = none → G p = none → PnAt H p → kk d' = some out → D.nx σ (upd H p h)) : tDrop (tBM0 K "list" rClear (tOp (rIxT K) (tVar i) (tC (.int 0)))) D σ H := by
  cases d with
  | none => cases hm
  | some d =>
    obtain ⟨t, p, q, z, qs, ew, ht, a, b, c, n1, n2, n3⟩ := o
    obtain ⟨vs0, h0, l0, rs0⟩ := a.h
    refine ⟨w, hv, t, [.ref p, .ref q, .ref z], 0, .ref p, ew, rfl, same_tup hs.s ht, rfl, ?_⟩
    refine ⟨.inl ⟨rfl, _, SqL.of h0⟩, p, vs0, rfl, rfl, h0, ?_⟩
    exact kont (some ⟨[], d.b, d.c⟩) p _ ⟨t, p, q, z, qs, ew, ht, ⟨a.z, a.g, _, upd_same, Nat.zero_le _, .nil⟩, b.off n1.symm, c.off n2, n1, n2, n3⟩ a.z a.g a.pn hm
theorem st_clr1 {w : V} {d : Option (T3 (List α) (List β) (List (List γ)))} {kk : Option (T3 (List α) (List β) (List (List γ))) → Option ρ} (hs : Vw G H) (hv : σ[i]? = some (some w)) (o : Own3 K H0 G H w d) (hm : (d.bind fun x => some (some (T3.mk x.a ([] : List β) x.c))).bind kk = some out)
    (kont : ∀ d' p h, Own3 K H0 G (upd H p h) w d' → H0 p = none → G p = none → PnAt H p → kk d' = some out → D.nx σ (upd H p h)) : tDrop (tBM0 K "list" rClear (tOp (rIxT K) (tVar i) (tC (.int 1)))) D σ H := by
  cases d with
  | none => cases hm
  | some d =>
    obtain ⟨t, p, q, z, qs, ew, ht, a, b, c, n1, n2, n3⟩ := o
    obtain ⟨vs0, h0, l0, rs0⟩ := b.h
    refine ⟨w, hv, t, [.ref p, .ref q, .ref z], 1, .ref q, ew, rfl, same_tup hs.s ht, rfl, ?_⟩
    refine ⟨.inl ⟨rfl, _, SqL.of h0⟩, q, vs0, rfl, rfl, h0, ?_⟩
    exact kont (some ⟨d.a, [], d.c⟩) q _ ⟨t, p, q, z, qs, ew, ht, a.off n1, ⟨b.z, b.g, _, upd_same, Nat.zero_le _, .nil⟩, c.off n3, n1, n2, n3⟩ b.z b.g b.pn hm
theorem st_clr20 {w : V} {d : Option (T3 (List α) (List β) (List (List γ)))} {kk : Option (T3 (List α) (List β) (List (List γ))) → Option ρ} (hs : Vw G H) (hv : σ[i]? = some (some w)) (o : Own3 K H0 G H w d) (hm : (d.bind fun x => (clr2O x.c 0).bind fun y => some (some (T3.mk x.a x.b y))).bind kk = some out)
    (kont : ∀ d' p h, Own3 K H0 G (upd H p h) w d' → H0 p = none → G p = none → PnAt H p → kk d' = some out → D.nx σ (upd H p h)) : tDrop (tBM0 K "list" rClear (tOp (rIxL K) (tOp (rIxT K) (tVar i) (tC (.int 2))) (tC (.int 0)))) D σ H := by
  cases d with
  | none => cases hm
  | some d =>
    obtain ⟨t, p, q, z, qs, ew, ht, a, b, c, n1, n2, n3⟩ := o
    obtain ⟨d2, hd, hm⟩ := bind_some hm
    obtain ⟨es, he, hd2⟩ := bind_some (show (clr2O d.c 0).bind (fun y => some (some (T3.mk d.a d.b y))) = some d2 from hd)
    cases hd2
    unfold clr2O at he
    obtain ⟨r, hr, he⟩ := bind_some he
    obtain ⟨vs, q', n, h1, h2, h3, h4, h5, h6⟩ := c.item hr
    rw [h6] at he
    cases he
    obtain ⟨ws, g1, g2, g3⟩ := h5.h
    refine ⟨w, hv, t, [.ref p, .ref q, .ref z], 2, .ref z, ew, rfl, same_tup hs.s ht, rfl, ?_⟩
    refine ⟨z, vs, 0, .ref q', rfl, rfl, SqL.of h1, h2, .inl ⟨rfl, _, SqL.of g1⟩, q', ws, rfl, rfl, g1, ?_⟩
    have m1 : p ≠ q' := fun h => n2 (h ▸ List.mem_cons_of_mem _ h4)
    have m2 : q ≠ q' := fun h => n3 (h ▸ List.mem_cons_of_mem _ h4)
    exact kont (some ⟨d.a, d.b, d.c.set n []⟩) q' _ ⟨t, p, q, z, qs, ew, ht, a.off m1, b.off m2, c.put h3 ⟨h5.z, h5.g, _, upd_same, Nat.zero_le _, .nil⟩, n1, n2, n3⟩ h5.z h5.g h5.pn hm
end
end
end Mi

/-! MiI: a list and a table of one's own, handed back as a pair, read, cleared. -/
namespace Mi
variable [Tbs]
open PySem L2
open Rp (rep)
section
variable {α β ρ : Type} [Rp α] [Rp β] {K : PySem.W.Frag}
/-- a list and a table of one's own -/
def Own4 (K : PySem.W.Frag) (H0 G H : Hp) (w : V) (d : List α × List (List β)) : Prop := ∃ t p z qs, w = .ref t ∧ SqT K G t [.ref p, .ref z] ∧ Own K H0 G H p d.1 ∧ Own2 K H0 G H z qs d.2 ∧ p ∉ z :: qs
def R4 (K : PySem.W.Frag) (H G' H' : Hp) (u : V) (r : List α × List (List β)) : Prop := Own4 K H G' H' u r
section
variable {H0 G H G0 G1 H1 : Hp} {w : V} {d : List α × List (List β)}
theorem Own4.mono (x : Own4 K H0 G H w d) (e : Ext G H G1 H1) : Own4 K H0 G1 H1 w d := by
  obtain ⟨t, p, z, qs, ew, h, a, c, n⟩ := x
  exact ⟨t, p, z, qs, ew, same_tup e.g h, a.mono e, c.mono e, n⟩
theorem Own4.up (x : Own4 K H G1 H1 w d) (s : HK H0 H) : Own4 K H0 G1 H1 w d := by
  obtain ⟨t, p, z, qs, ew, h, a, c, n⟩ := x
  exact ⟨t, p, z, qs, ew, h, a.up s, c.up s, n⟩
theorem Own4.show (x : Own4 K H0 G H w d) (e : Ext G0 H0 G H) : ∃ G', Ext G0 H0 G' H ∧ Same G G' ∧ rep K G' w d := by
  obtain ⟨t, p, z, qs, ew, h, a, c, n⟩ := x
  obtain ⟨vs, e1, s1, r1⟩ := a.show e
  have c1 := c.off2 (o := .lst vs) n a.g
  obtain ⟨e3, s3, r3⟩ := c1.show e1
  subst ew
  exact ⟨_, e3, s1.trans s3, ⟨t, .ref p, .ref z, rfl, same_tup (s1.trans s3) h, Rp.mono s3 r1, r3⟩⟩
theorem r4m : ∀ H1 H2, HK H1 H2 → ∀ G' H' u (r : List α × List (List β)), R4 K H2 G' H' u r → R4 K H1 G' H' u r := fun _ _ s _ _ _ _ h => Own4.up h s
end
section
variable {σ : St} {G H : Hp} {te ta tb tc : TE} {D : Ends} {i j k : Nat} {H0 G0 : Hp} {out : ρ}
theorem XE.r4se {m : Option (List α × List (List β))} (h : XE (R4 K) te σ G H m) : SE K te σ G H m := fun G1 H1 e r hm Q q =>
  h G1 H1 e r hm Q fun u G2 H2 e2 o => by
    obtain ⟨G', e3, s, hr⟩ := Own4.show o e2
    exact q u G' H2 e3 hr
theorem st_ret4 {p z : Addr} {qs : List Nat} {ds : List α} {es : List (List β)} {r : List α × List (List β)} (hv : σ[i]? = some (some (.ref p))) (hw : σ[j]? = some (some (.ref z))) (e : Ext G0 H0 G H) (o : Own K H0 G H p ds) (x : Own2 K H0 G H z qs es) (n : p ∉ z :: qs)
    (hm : some (ds, es) = some r) (q : ∀ u G' H', Ext G0 H0 G' H' → R4 K H0 G' H' u r → D.rt u H') : tRet (tTup (tCons (tVar i) (tCons (tVar j) tNil))) D σ H := by
  cases hm
  refine ⟨.ref p, hv, .ref z, hw, by show 2 ≤ sizeLine; decide, fun t nt => ?_⟩
  have e3 := Ext.new (o := .tup [.ref p, .ref z]) e.s nt
  exact q _ _ _ (e.trans e3) ⟨t, p, z, qs, rfl, SqT.of upd_same, o.mono e3, x.mono e3, n⟩
theorem st_set4 {m : Option (List α × List (List β))} {kk : List α × List (List β) → Option ρ} (hs : Vw G H) (se : XE (R4 K) te σ G H m) (hm : m.bind kk = some out) (kont : ∀ x w G1 H1, Ext G H G1 H1 → Own4 K H G1 H1 w x → kk x = some out → D.nx (σ.set i (some w)) H1) : tAsg te (gName i) D σ H := by
  obtain ⟨x, hx, hk⟩ := bind_some hm
  exact se G H (Ext.refl hs) x hx _ fun u G1 H1 e o => kont x u G1 H1 e o hk
theorem st_tmp4 {w : V} {d : List α × List (List β)} {m : Option Bool} {tt : TT} (o : Own4 K H0 G H w d) (h : ∀ G', Same G G' → rep K G' w d → ST tt σ G' H m) : ST tt σ G H m := by
  obtain ⟨t, p, z, qs, ew, ht, a, c, n⟩ := o
  subst ew
  refine st_tmp a fun vs s1 r1 => ?_
  have c1 := c.off2 (o := .lst vs) n a.g
  refine st_tmp2 c1 fun s3 r3 => ?_
  exact h _ (s1.trans s3) ⟨t, .ref p, .ref z, rfl, same_tup (s1.trans s3) ht, Rp.mono s3 r1, r3⟩
/-! ### cleared -/
theorem st_clrA {w : V} {d : List α × List (List β)} {kk : List α × List (List β) → Option ρ} (hs : Vw G H) (hv : σ[i]? = some (some w)) (o : Own4 K H0 G H w d) (hm : (some (([] : List α), d.2)).bind kk = some out)
    (kont : ∀ d' p h, Own4 K H0 G (upd H p h) w d' → H0 p = none → G p = none → PnAt H p → kk d' = some out → D.nx σ (upd H p h)) : tDrop (tBM0 K "list" rClear (tOp (rIxT K) (tVar i) (tC (.int 0)))) D σ H := by
  obtain ⟨t, p, z, qs, ew, ht, a, c, n⟩ := o
  obtain ⟨vs0, h0, l0, rs0⟩ := a.h
  refine ⟨w, hv, t, [.ref p, .ref z], 0, .ref p, ew, rfl, same_tup hs.s ht, rfl, ?_⟩
  refine ⟨.inl ⟨rfl, _, SqL.of h0⟩, p, vs0, rfl, rfl, h0, ?_⟩
  exact kont ([], d.2) p _ ⟨t, p, z, qs, ew, ht, ⟨a.z, a.g, _, upd_same, Nat.zero_le _, .nil⟩, c.off n, n⟩ a.z a.g a.pn hm
theorem st_clrB {w : V} {d : List α × List (List β)} {kk : List α × List (List β) → Option ρ} (hs : Vw G H) (hv : σ[i]? = some (some w)) (o : Own4 K H0 G H w d) (hm : (some (d.1, ([] : List (List β)))).bind kk = some out)
    (kont : ∀ d' p h, Own4 K H0 G (upd H p h) w d' → H0 p = none → G p = none → PnAt H p → kk d' = some out → D.nx σ (upd H p h)) : tDrop (tBM0 K "list" rClear (tOp (rIxT K) (tVar i) (tC (.int 1)))) D σ H := by
  obtain ⟨t, p, z, qs, ew, ht, a, c, n⟩ := o
  obtain ⟨vs0, h0, l0, rs0⟩ := c.o.h
  refine ⟨w, hv, t, [.ref p, .ref z], 1, .ref z, ew, rfl, same_tup hs.s ht, rfl, ?_⟩
  refine ⟨.inl ⟨rfl, _, SqL.of h0⟩, z, vs0, rfl, rfl, h0, ?_⟩
  have hne : p ≠ z := fun h => n (h ▸ List.mem_cons_self)
  have hc : Own2 K H0 G (upd H z (.lst [])) z [] ([] : List (List β)) := ⟨⟨c.o.z, c.o.g, _, upd_same, Nat.zero_le _, .nil⟩, .nil, by simp⟩
  exact kont (d.1, []) z _ ⟨t, p, z, [], ew, ht, a.off hne, hc, by simp [hne]⟩ c.o.z c.o.g c.o.pn hm
theorem st_clrB0 {w : V} {d : List α × List (List β)} {kk : List α × List (List β) → Option ρ} (hs : Vw G H) (hv : σ[i]? = some (some w)) (o : Own4 K H0 G H w d) (hm : ((clr2O d.2 0).bind fun y => some (d.1, y)).bind kk = some out)
    (kont : ∀ d' p h, Own4 K H0 G (upd H p h) w d' → H0 p = none → G p = none → PnAt H p → kk d' = some out → D.nx σ (upd H p h)) : tDrop (tBM0 K "list" rClear (tOp (rIxL K) (tOp (rIxT K) (tVar i) (tC (.int 1))) (tC (.int 0)))) D σ H := by
  obtain ⟨t, p, z, qs, ew, ht, a, c, n2⟩ := o
  obtain ⟨d2, hd, hm⟩ := bind_some hm
  obtain ⟨es, he, hd2⟩ := bind_some (show (clr2O d.2 0).bind (fun y => some (d.1, y)) = some d2 from hd)
  cases hd2
  unfold clr2O at he
  obtain ⟨r, hr, he⟩ := bind_some he
  obtain ⟨vs, q', n, h1, h2, h3, h4, h5, h6⟩ := c.item hr
  rw [h6] at he
  cases he
  obtain ⟨ws, g1, g2, g3⟩ := h5.h
  refine ⟨w, hv, t, [.ref p, .ref z], 1, .ref z, ew, rfl, same_tup hs.s ht, rfl, ?_⟩
  refine ⟨z, vs, 0, .ref q', rfl, rfl, SqL.of h1, h2, .inl ⟨rfl, _, SqL.of g1⟩, q', ws, rfl, rfl, g1, ?_⟩
  have m1 : p ≠ q' := fun h => n2 (h ▸ List.mem_cons_of_mem _ h4)
  exact kont (d.1, d.2.set n []) q' _ ⟨t, p, z, qs, ew, ht, a.off m1, c.put h3 ⟨h5.z, h5.g, _, upd_same, Nat.zero_le _, .nil⟩, n2⟩ h5.z h5.g h5.pn hm
end
end
end Mi

/-! MiB: a list and a dict of one's own handed back; defs that change what they are given in place. -/
namespace Mi
variable [Tbs]
open PySem L2
open Rp (rep)
section
variable {α β γ ρ : Type} [Rp α] [Rp β] [Rp γ] {K : PySem.W.Frag}
/-- a new list and a new dict -/
def R5 (K : PySem.W.Frag) (H G' H' : Hp) (u : V) (r : List α × DI β) : Prop := ∃ t p q, u = .ref t ∧ SqT K G' t [.ref p, .ref q] ∧ Own K H G' H' p r.1 ∧ OwnD K H G' H' q r.2 ∧ p ≠ q
theorem r5m : ∀ H1 H2, HK H1 H2 → ∀ G' H' u (r : List α × DI β), R5 K H2 G' H' u r → R5 K H1 G' H' u r := fun _ _ s _ _ _ _ ⟨t, p, q, e, h, a, b, n⟩ => ⟨t, p, q, e, h, a.up s, b.up s, n⟩
section
variable {σ : St} {G H : Hp} {te t0 t2 : TE} {D : Ends} {i j : Nat} {H0 G0 : Hp} {out : ρ}
theorem st_ret5 {p z : Addr} {ds : List α} {es : DI β} {r : List α × DI β} (hv : σ[i]? = some (some (.ref p))) (hw : σ[j]? = some (some (.ref z))) (e : Ext G0 H0 G H) (o : Own K H0 G H p ds) (x : OwnD K H0 G H z es) (n : p ≠ z)
    (hm : some (ds, es) = some r) (q : ∀ u G' H', Ext G0 H0 G' H' → R5 K H0 G' H' u r → D.rt u H') : tRet (tTup (tCons (tVar i) (tCons (tVar j) tNil))) D σ H := by
  cases hm
  refine ⟨.ref p, hv, .ref z, hw, by show 2 ≤ sizeLine; decide, fun t nt => ?_⟩
  have e3 := Ext.new (o := .tup [.ref p, .ref z]) e.s nt
  exact q _ _ _ (e.trans e3) ⟨t, p, z, rfl, SqT.of upd_same, o.mono e3, x.mono e3, n⟩
theorem st_un2LD {m : Option (List α × DI β)} {kk : List α × DI β → Option ρ} (hs : Vw G H) (se : XE (R5 K) te σ G H m) (hm : m.bind kk = some out) (kont : ∀ x p z G1 H1, Ext G H G1 H1 → Own K H G1 H1 p x.1 → OwnD K H G1 H1 z x.2 → p ≠ z → kk x = some out → D.nx ((σ.set i (some (.ref p))).set j (some (.ref z))) H1) :
    tAsg te (gTup K 2 (gCons (gName i) (gCons (gName j) gNil))) D σ H := by
  obtain ⟨x, hx, hk⟩ := bind_some hm
  refine se G H (Ext.refl hs) x hx _ fun v G1 H1 e ⟨a, p, z, ea, ha, h1, h2, n⟩ => ?_
  exact ⟨a, [.ref p, .ref z], ea, same_tup e.s.s ha, rfl, .ref p, [.ref z], rfl, .ref z, [], rfl, rfl, kont x p z G1 H1 e h1 h2 n hk⟩
/-- a def that changes a list and a dict that it is given, and hands back None: (list, dict, value) -/
def SpM3 (K : PySem.W.Frag) (f : List α → DI β → γ → Option (List α × DI β)) : Sp := fun vs H Q _ => ∃ (G0 H0 G : Hp) (p q : Addr) (v2 : V) (x0 : List α) (x1 : DI β) (x2 : γ) (r : List α × DI β), vs = [.ref p, .ref q, v2] ∧ Ext G0 H0 G H ∧ Own K H0 G H p x0 ∧ OwnD K H0 G H q x1 ∧ p ≠ q ∧ rep K G v2 x2 ∧ f x0 x1 x2 = some r ∧
  ∀ G' H', Ext G0 H0 G' H' → Same G G' → Own K H0 G' H' p r.1 → OwnD K H0 G' H' q r.2 → Q .non H'
theorem SpM3.len {f : List α → DI β → γ → Option (List α × DI β)} {ps : List Str} (hp : ps.length = 3) : ∀ vs H Q E, SpM3 K f vs H Q E → vs.length = ps.length := by
  intro vs H Q E ⟨_, _, _, _, _, _, _, _, _, _, e, _⟩
  rw [e, hp]
  rfl
theorem st_callM3 {p q : Addr} {ds : List α} {dd : DI β} {m2 : Option γ} {f : List α → DI β → γ → Option (List α × DI β)} {kk : List α × DI β → Option ρ} {E : XK} (e : Ext G0 H0 G H) (hv : σ[i]? = some (some (.ref p))) (hw : σ[j]? = some (some (.ref q))) (o : Own K H0 G H p ds) (o2 : OwnD K H0 G H q dd) (n : p ≠ q) (h2 : SE K t2 σ G H m2) (hm : (m2.bind fun x2 => f ds dd x2).bind kk = some out)
    (kont : ∀ r G1 H1, Ext G0 H0 G1 H1 → Same G G1 → Own K H0 G1 H1 p r.1 → OwnD K H0 G1 H1 q r.2 → kk r = some out → D.nx σ H1) : tDrop (tCall (SpM3 K f) [] E (tCons (tVar i) (tCons (tVar j) (tCons t2 tNil)))) D σ H := by
  obtain ⟨r, hr, hk⟩ := bind_some hm
  obtain ⟨x2, hx2, hf⟩ := bind_some hr
  refine ⟨.ref p, hv, .ref q, hw, ?_⟩
  refine h2 _ _ (Ext.refl e.s) x2 hx2 _ fun v2 G2 H2 e2 r2 => ?_
  exact ⟨G0, H0, G2, p, q, v2, ds, dd, x2, r, rfl, e.trans e2, o.mono e2, o2.mono e2, n, r2, hf, fun G' H' e' s' a b => kont r G' H' e' (e2.g.trans s') a b hk⟩
/-- a def that walks a dict that it is given, of its caller's own: (value, dict) -/
def SpMD (K : PySem.W.Frag) (f : γ → DI β → Option α) : Sp := fun vs H Q _ => ∃ (G0 H0 G : Hp) (q : Addr) (v0 : V) (x0 : γ) (x1 : DI β) (r : α), vs = [v0, .ref q] ∧ Ext G0 H0 G H ∧ OwnD K H0 G H q x1 ∧ rep K G v0 x0 ∧ f x0 x1 = some r ∧
  ∀ u G' H', Ext G0 H0 G' H' → Same G G' → rep K G' u r → Q u H'
theorem SpMD.len {f : γ → DI β → Option α} {ps : List Str} (hp : ps.length = 2) : ∀ vs H Q E, SpMD K f vs H Q E → vs.length = ps.length := by
  intro vs H Q E ⟨_, _, _, _, _, _, _, _, e, _⟩
  rw [e, hp]
  rfl
theorem st_setMD {q : Addr} {dd : DI β} {m0 : Option γ} {f : γ → DI β → Option α} {kk : α → Option ρ} {E : XK} (e : Ext G0 H0 G H) (hw : σ[j]? = some (some (.ref q))) (o2 : OwnD K H0 G H q dd) (h0 : SE K t0 σ G H m0) (hm : (m0.bind fun x0 => f x0 dd).bind kk = some out)
    (kont : ∀ r w G1 H1, Ext G0 H0 G1 H1 → Same G G1 → rep K G1 w r → kk r = some out → D.nx (σ.set i (some w)) H1) : tAsg (tCall (SpMD K f) [] E (tCons t0 (tCons (tVar j) tNil))) (gName i) D σ H := by
  obtain ⟨r, hr, hk⟩ := bind_some hm
  obtain ⟨x0, hx0, hf⟩ := bind_some hr
  refine h0 _ _ (Ext.refl e.s) x0 hx0 _ fun v0 G2 H2 e2 r0 => ⟨.ref q, hw, ?_⟩
  exact ⟨G0, H0, G2, q, v0, x0, dd, r, rfl, e.trans e2, o2.mono e2, r0, hf, fun u G' H' e' s' hu => kont r u G' H' e' (e2.g.trans s') hu hk⟩
theorem same_off {Gm G : Hp} {p : Addr} {o : HO} (g : Gm p = none) (s : Same Gm G) : Same Gm (upd G p o) := fun b u e => by
  rw [upd_ne (ne_of_none e g)]
  exact s _ _ e
theorem st_lockM [ScV β] {p : Addr} {d : DI β} {t : TS} (e : Ext G0 H0 G H) (o : OwnD K H0 G H p d)
    (k : ∀ Gl Hl ks od, H0 p = none → G0 p = none → Ext G0 H0 Gl Hl → Same G Gl → Gl p = some (.frz od (.dK ks)) → rep K Gl (.ref p) (FZ.mk d) →
      t ⟨fun σ' H' => H' p = some (.frz od (.dK ks)) ∧ D.nx σ' (upd H' p (.dK ks)), fun v H' => H' p = some (.frz od (.dK ks)) ∧ D.rt v (upd H' p (.dK ks)), fun σ' H' => H' p = some (.frz od (.dK ks)) ∧ D.bk σ' (upd H' p (.dK ks)), fun σ' H' => H' p = some (.frz od (.dK ks)) ∧ D.ct σ' (upd H' p (.dK ks))⟩ σ Hl) : tLock t D σ H := by
  obtain ⟨ks, h, r⟩ := o.h
  have g := e.g.free o.g
  exact ⟨p, .dK ks, h, trivial, fun od => k _ _ ks od o.z g (ext_at e o.z g h pn_dK) (same_new o.g) upd_same ⟨p, od, ks, rfl, upd_same, reps_at (ks := []) r⟩⟩
theorem st_retMD {Gm : Hp} {m : Option α} {r : α} {Q : VK} (e : Ext G0 H0 G H) (s : Same Gm G) (se : SE K te σ G H m) (hm : m = some r) (q : ∀ u G' H', Ext G0 H0 G' H' → Same Gm G' → rep K G' u r → Q u H') (hD : D.rt = Q) : tRet te D σ H := by
  subst hD
  exact se G H (Ext.refl e.s) r hm _ fun u G1 H1 e1 hu => q u G1 H1 (e.trans e1) (s.trans e1.g) hu
end
end
end Mi

/-! MiTa: None, or a table of one's own. -/
namespace Mi
variable [Tbs]
open PySem L2
open Rp (rep)
section
variable {α ρ : Type} [Rp α] {K : PySem.W.Frag}
def OwnV2 (K : PySem.W.Frag) (H0 G H : Hp) (w : V) (d : Option (List (List α))) : Prop := match d with
  | none => w = .non
  | some d => ∃ p qs, w = .ref p ∧ Own2 K H0 G H p qs d
def RN2 (K : PySem.W.Frag) (H G' H' : Hp) (u : V) (r : Option (List (List α))) : Prop := OwnV2 K H G' H' u r
section
variable {H0 G H G0 G1 H1 : Hp} {w : V} {d : Option (List (List α))}
theorem OwnV2.mono (x : OwnV2 K H0 G H w d) (e : Ext G H G1 H1) : OwnV2 K H0 G1 H1 w d := by
  cases d with
  | none => exact x
  | some d =>
    obtain ⟨p, qs, ew, o⟩ := x
    exact ⟨p, qs, ew, o.mono e⟩
theorem OwnV2.up (x : OwnV2 K H G1 H1 w d) (s : HK H0 H) : OwnV2 K H0 G1 H1 w d := by
  cases d with
  | none => exact x
  | some d =>
    obtain ⟨p, qs, ew, o⟩ := x
    exact ⟨p, qs, ew, o.up s⟩
theorem OwnV2.show (x : OwnV2 K H0 G H w d) (e : Ext G0 H0 G H) : ∃ G', Ext G0 H0 G' H ∧ Same G G' ∧ rep K G' w d := by
  cases d with
  | none => exact ⟨G, e, Same.refl _, x⟩
  | some d =>
    obtain ⟨p, qs, ew, o⟩ := x
    obtain ⟨e2, s, r⟩ := o.show e
    subst ew
    exact ⟨_, e2, s, r, RpN.nn r⟩
theorem rn2m : ∀ H1 H2, HK H1 H2 → ∀ G' H' u (r : Option (List (List α))), RN2 K H2 G' H' u r → RN2 K H1 G' H' u r := fun _ _ s _ _ _ _ h => OwnV2.up h s
end
section
variable {σ : St} {G H : Hp} {te ta : TE} {D : Ends} {i : Nat} {H0 G0 : Hp} {out : ρ} {w : V} {d : Option (List (List α))}
theorem XE.n2se {m : Option (Option (List (List α)))} (h : XE (RN2 K) te σ G H m) : SE K te σ G H m := fun G1 H1 e r hm Q q =>
  h G1 H1 e r hm Q fun u G2 H2 e2 o => by
    obtain ⟨G', e3, s, hr⟩ := OwnV2.show o e2
    exact q u G' H2 e3 hr
theorem xn2_none : XE (RN2 K) (tC .non) σ G H (some (none : Option (List (List α)))) := fun G1 H1 e r hm Q q => by
  cases hm
  exact q .non G1 H1 (Ext.refl e.s) rfl
theorem FE2.xn2 {m : Option (List (List α))} (h : FE2 K te σ G H m) : XE (RN2 K) te σ G H (m.bind fun x => some (some x)) := fun G1 H1 e r hm Q q => by
  obtain ⟨x, hx, hm⟩ := bind_some hm
  cases hm
  exact h G1 H1 e x hx Q fun p qs G2 H2 e2 o => q (.ref p) G2 H2 e2 ⟨p, qs, rfl, o⟩
theorem st_setN2 {m : Option (Option (List (List α)))} {k : Option (List (List α)) → Option ρ} (hs : Vw G H) (se : XE (RN2 K) te σ G H m) (hm : m.bind k = some out) (kont : ∀ x w G1 H1, Ext G H G1 H1 → OwnV2 K H G1 H1 w x → k x = some out → D.nx (σ.set i (some w)) H1) : tAsg te (gName i) D σ H := by
  obtain ⟨x, hx, hk⟩ := bind_some hm
  exact se G H (Ext.refl hs) x hx _ fun u G1 H1 e o => kont x u G1 H1 e o hk
theorem se_tmpN2 {β : Type} [Rp β] [ScV β] {mb : Option β} (o : OwnV2 K H0 G H w d) (h : ∀ G', Same G G' → rep K G' w d → SE K te σ G' H mb) : SE K te σ G H mb := by
  cases d with
  | none => exact h G (Same.refl _) o
  | some d =>
    obtain ⟨p, qs, ew, o⟩ := o
    subst ew
    exact se_tmp2 o fun s r => h _ s ⟨r, RpN.nn r⟩
theorem st_tmpN2 {m : Option Bool} {tt : TT} (o : OwnV2 K H0 G H w d) (h : ∀ G', Same G G' → rep K G' w d → ST tt σ G' H m) : ST tt σ G H m := by
  cases d with
  | none => exact h G (Same.refl _) o
  | some d =>
    obtain ⟨p, qs, ew, o⟩ := o
    subst ew
    exact st_tmp2 o fun s r => h _ s ⟨r, RpN.nn r⟩
theorem st_rowclearN {mi : Option Int} {k : List (List α) → Option ρ} (hs : Vw G H) (hv : σ[i]? = some (some w)) (o : OwnV2 K H0 G H w d) (si : SE K ta σ G H mi) (hm : (d.bind fun ds => mi.bind fun i => (clr2O ds i).bind k) = some out)
    (kont : ∀ p qs (ds : List (List α)) (es : List (List α)) q h G1 H1, w = .ref p → Ext G H G1 H1 → Own2 K H0 G1 (upd H1 q h) p qs es → Own2 K H0 G1 H1 p qs ds → q ∈ p :: qs → k es = some out → D.nx σ (upd H1 q h)) : tDrop (tBM0 K "list" rClear (tOp (rIxL K) (tVar i) ta)) D σ H := by
  cases d with
  | none => cases hm
  | some d =>
    obtain ⟨p, qs, ew, o⟩ := o
    subst ew
    exact st_rowclear hs hv o si hm fun es q h G1 H1 e ro rb hq hk => kont p qs d es q h G1 H1 rfl e ro rb hq hk
end
end
end Mi

/-! MiTb: dicts of one's own whose values are tuples: written out, read beside, walked (locked) beside other things, given to another name. -/
namespace Mi
variable [Tbs]
open PySem L2
open Rp (rep)
/-- what a dict's cell is -/
def DKO (o : HO) : Prop := ∃ ks, o = .dK ks ∨ ∃ od, o = .frz od (.dK ks)
theorem tup_rm {K : PySem.W.Frag} {G : Hp} {p a : Addr} {o : HO} {xs : List V} (ho : DKO o) (h : SqT K (upd G p o) a xs) : SqT K G a xs := by
  obtain ⟨ks, ho⟩ := ho
  rcases h with (h | ⟨u, h⟩) | h
  · by_cases e : a = p
    · subst e
      rw [upd_same] at h
      rcases ho with rfl | ⟨od, rfl⟩ <;> cases h
    · rw [upd_ne e] at h
      exact .inl (.inl h)
  · by_cases e : a = p
    · subst e
      rw [upd_same] at h
      rcases ho with rfl | ⟨od, rfl⟩ <;> cases h
    · rw [upd_ne e] at h
      exact .inl (.inr ⟨u, h⟩)
  · exact .inr h
theorem tup_ch {K : PySem.W.Frag} {G : Hp} {p a : Addr} {o u : HO} {xs : List V} (hu : DKO u) (hp : G p = some u) (h : SqT K G a xs) : SqT K (upd G p o) a xs := by
  obtain ⟨ks, hu⟩ := hu
  rcases h with (h | ⟨v, h⟩) | h
  · have e : a ≠ p := fun e => by
      subst e
      rw [hp] at h
      rcases hu with rfl | ⟨od, rfl⟩ <;> cases h
    exact .inl (.inl (by rw [upd_ne e]; exact h))
  · have e : a ≠ p := fun e => by
      subst e
      rw [hp] at h
      rcases hu with rfl | ⟨od, rfl⟩ <;> cases h
    exact .inl (.inr ⟨v, by rw [upd_ne e]; exact h⟩)
  · exact .inr h
theorem lst_ch {G : Hp} {p a : Addr} {o u : HO} {xs : List V} (hu : DKO u) (hp : G p = some u) (h : G a = some (.lst xs)) : upd G p o a = some (.lst xs) := by
  obtain ⟨ks, hu⟩ := hu
  have e : a ≠ p := fun e => by
    subst e
    rw [hp] at h
    rcases hu with rfl | ⟨od, rfl⟩ <;> cases h
  rw [upd_ne e]
  exact h
theorem lst_rm {G : Hp} {p a : Addr} {o : HO} {xs : List V} (ho : DKO o) (h : upd G p o a = some (.lst xs)) : G a = some (.lst xs) := by
  obtain ⟨ks, ho⟩ := ho
  by_cases e : a = p
  · subst e
    rw [upd_same] at h
    rcases ho with rfl | ⟨od, rfl⟩ <;> cases h
  · rw [upd_ne e] at h
    exact h
/-- values that hold no dict -/
class NF (α : Type) [Rp α] : Prop where
  rm : ∀ {K : PySem.W.Frag} {G : Hp} {p : Addr} {o : HO} {v : V} {d : α}, DKO o → rep K (upd G p o) v d → rep K G v d
  ch : ∀ {K : PySem.W.Frag} {G : Hp} {p : Addr} {o u : HO} {v : V} {d : α}, DKO u → G p = some u → rep K G v d → rep K (upd G p o) v d
instance : NF Int := ⟨fun _ h => h, fun _ _ h => h⟩
instance : NF Bool := ⟨fun _ h => h, fun _ _ h => h⟩
instance : NF Unit := ⟨fun _ h => h, fun _ _ h => h⟩
instance : NF Str := ⟨fun _ h => h, fun _ _ h => h⟩
instance {α β : Type} [Rp α] [Rp β] [NF α] [NF β] : NF (α × β) := ⟨fun ho ⟨a, x, y, e, h, h1, h2⟩ => ⟨a, x, y, e, tup_rm ho h, NF.rm ho h1, NF.rm ho h2⟩, fun hu hp ⟨a, x, y, e, h, h1, h2⟩ => ⟨a, x, y, e, tup_ch hu hp h, NF.ch hu hp h1, NF.ch hu hp h2⟩⟩
theorem nf_reps_rm {α : Type} [Rp α] [NF α] {K : PySem.W.Frag} {G : Hp} {p : Addr} {o : HO} (ho : DKO o) : ∀ {vs : List V} {ds : List α}, Reps K (upd G p o) vs ds → Reps K G vs ds
  | _, _, .nil => .nil
  | _, _, .cons r t => .cons (NF.rm ho r) (nf_reps_rm ho t)
theorem nf_reps_ch {α : Type} [Rp α] [NF α] {K : PySem.W.Frag} {G : Hp} {p : Addr} {o u : HO} (hu : DKO u) (hp : G p = some u) : ∀ {vs : List V} {ds : List α}, Reps K G vs ds → Reps K (upd G p o) vs ds
  | _, _, .nil => .nil
  | _, _, .cons r t => .cons (NF.ch hu hp r) (nf_reps_ch hu hp t)
instance {α : Type} [Rp α] [NF α] : NF (List α) := ⟨fun ho ⟨a, vs, e, h, l, r⟩ => ⟨a, vs, e, lst_rm ho h, l, nf_reps_rm ho r⟩, fun hu hp ⟨a, vs, e, h, l, r⟩ => ⟨a, vs, e, lst_ch hu hp h, l, nf_reps_ch hu hp r⟩⟩
theorem nf_repsD_ch {β : Type} [Rp β] [NF β] {K : PySem.W.Frag} {G : Hp} {p : Addr} {o u : HO} (hu : DKO u) (hp : G p = some u) : ∀ {ks : List (Key × V)} {l : List (Int × β)}, RepsD K G ks l → RepsD K (upd G p o) ks l
  | _, _, .nil => .nil
  | _, _, .cons ⟨h1, h2⟩ t => .cons ⟨h1, NF.ch hu hp h2⟩ (nf_repsD_ch hu hp t)
section
variable {α β ρ : Type} [Rp α] [Rp β] {K : PySem.W.Frag} {σ : St} {G0 H0 G H G1 H1 Gl : Hp} {te tv : TE} {t : TS} {i j : Nat} {d : DI β} {D : Ends} {out : ρ} {p q : Addr} {od : Obj} {ks : List (Key × V)}
/-- {k: v} -/
theorem fd_one {k : Int} {mb : Option β} (hv : SE K tv σ G H mb) : FD K (tDisp [(tC (V.int k), tv)]) σ G H (mb.bind fun v => some (dmk [(k, v)])) := fun G1 H1 e r hm Q q => by
  obtain ⟨x, hx1, hm⟩ := bind_some hm
  cases hm
  intro p np
  have e1 : Ext G1 H1 G1 (upd H1 p (.dK [])) := Ext.own e.s np
  refine hv G1 _ (e.trans e1) x hx1 _ fun v G3 H3 e3 hv1 => ?_
  have gp : G1 p = none := e.s.free np
  have hp3 : H3 p = some (.dK []) := e3.h.k _ _ upd_same
  have gp3 : G3 p = none := by
    rw [e3.a p (by rw [upd_same]; exact fun z => nomatch z)]
    exact gp
  refine ⟨hp3, [(Sum.inl k, v)], rfl, by show 1 ≤ 15; decide, ?_⟩
  have e4 := e1.trans e3
  exact q p G3 _ (e4.put np gp3 ⟨_, hp3, pn_dK⟩) ⟨np, gp3, _, upd_same, repsD_put (l := []) .nil hv1⟩
theorem fd_onep {k : Int} {x : β} (hv : SE K tv σ G H (some x)) : FD K (tDisp [(tC (V.int k), tv)]) σ G H (some (dmk [(k, x)])) := fd_one hv
/-- read while shown -/
theorem sd_tmpL [NF α] {ma : Option α} (o : OwnD K H0 G H p d) (h : ∀ vs, Same G (upd G p (.dK vs)) → rep K (upd G p (.dK vs)) (.ref p) d → SE K te σ (upd G p (.dK vs)) H ma) : SE K te σ G H ma := fun G1 H1 e r hm Q q => by
  obtain ⟨vs, hp, rs⟩ := o.h
  have o1 := o.mono e
  have s0 := h vs (same_new o.g) ⟨p, vs, rfl, upd_same, repsD_mono (same_new o.g) rs⟩
  refine s0 _ _ (ext_up e (e.h.k _ _ hp)) r hm _ fun v G2 H2 e2 x => ?_
  have h2 : G2 p = some (.dK vs) := e2.g _ _ upd_same
  have e3 : Ext G1 H1 (hpDel G2 p) H2 := by
    refine ⟨fun b u eb => ?_, vw_del e2.s, e2.h, fun b hb => ?_⟩
    · have hne : b ≠ p := fun h => by
        subst h
        rw [o1.g] at eb
        cases eb
      rw [hpDel_ne hne]
      exact e2.g _ _ (by rw [upd_ne hne]; exact eb)
    · by_cases h : b = p
      · subst h
        rw [hpDel_same, o1.g]
      · rw [hpDel_ne h, e2.a b hb, upd_ne h]
  exact q v _ H2 e3 (NF.rm (p := p) (o := .dK vs) ⟨vs, .inl rfl⟩ (by rw [hpDel_upd h2]; exact x))
/-- given to another name -/
theorem st_mvD {k : DI β → Option ρ} (hv : σ[j]? = some (some (.ref p))) (o : OwnD K H0 G H p d) (hm : (some d).bind k = some out) (kont : ∀ x, OwnD K H0 G H p x → k x = some out → D.nx (σ.set i (some (.ref p))) H) : tAsg (tVar j) (gName i) D σ H := ⟨.ref p, hv, kont d o hm⟩
/-! ### the lock beside other things -/
theorem st_lockG (e : Ext G0 H0 G H) (o : OwnD K H0 G H p d)
    (k : ∀ Gl Hl ks od, H0 p = none → G0 p = none → G p = none → Ext G0 H0 Gl Hl → Same G Gl → Gl p = some (.frz od (.dK ks)) → rep K Gl (.ref p) (FZ.mk d) → (∀ {γ : Type} [Rp γ] (q : Addr) (d' : DI γ), OwnD K H0 G H q d' → q ≠ p → OwnD K H0 Gl Hl q d') →
      t ⟨fun σ' H' => H' p = some (.frz od (.dK ks)) ∧ D.nx σ' (upd H' p (.dK ks)), fun v H' => H' p = some (.frz od (.dK ks)) ∧ D.rt v (upd H' p (.dK ks)), fun σ' H' => H' p = some (.frz od (.dK ks)) ∧ D.bk σ' (upd H' p (.dK ks)), fun σ' H' => H' p = some (.frz od (.dK ks)) ∧ D.ct σ' (upd H' p (.dK ks))⟩ σ Hl) : tLock t D σ H := by
  obtain ⟨ks, h, r⟩ := o.h
  have g := e.g.free o.g
  exact ⟨p, .dK ks, h, trivial, fun od => k _ _ _ od o.z g o.g (ext_at e o.z g h pn_dK) (same_new o.g) upd_same ⟨p, od, ks, rfl, upd_same, repsD_mono (same_new o.g) r⟩ fun q d' x n => (x.off2 n o.g).off n⟩
theorem same_none {Gs : Hp} (s : Same Gs G) (g : G p = none) : Gs p = none := by
  cases h : Gs p with
  | none => rfl
  | some u =>
    have := s _ _ h
    rw [g] at this
    cases this
theorem lock_cell {Gl : Hp} (z : Gl p = some (.frz od (.dK ks))) (s : Same Gl G) : G p = some (.frz od (.dK ks)) := s _ _ z
theorem dko_frz : DKO (.frz od (.dK ks)) := ⟨ks, .inr ⟨od, rfl⟩⟩
/-- another dict of one's own, while p's lock is taken off -/
theorem OwnD.unl [NF β] {o : HO} (x : OwnD K H0 G H q d) (z : G p = some (.frz od (.dK ks))) : OwnD K H0 (upd G p o) (upd H p o) q d := by
  obtain ⟨ks2, h, r⟩ := x.h
  have e : q ≠ p := fun e => by
    subst e
    rw [x.g] at z
    cases z
  exact ⟨x.z, by rw [upd_ne e]; exact x.g, ks2, by rw [upd_ne e]; exact h, nf_repsD_ch dko_frz z r⟩
theorem nf_val [NF α] {v : V} {x : α} {o : HO} (z : G p = some (.frz od (.dK ks))) (h : rep K G v x) : rep K (upd G p o) v x := NF.ch dko_frz z h
end
end Mi

/-! MiTc: dicts whose keys are pairs of a number and a truth: an item read, d.get(k), d.setdefault(k, v). -/
namespace Mi
variable [Tbs]
open PySem PySem.Spec PyProof.Rows L2
open Rp (rep)
def vfind (xs : List (KB × Addr × Value)) (k : KB) : Option (Addr × Value) := (xs.find? fun x => decide (x.1 = k)).map (·.2)
def bfind {β : Type} (l : List (KB × β)) (k : KB) : Option β := (l.find? fun x => decide (x.1 = k)).map (·.2)
theorem atKey_up (k : KB) : ∀ xs : List (KB × Addr × Value), atKey (xs.map upB) (kB k) = vfind xs k
  | [] => rfl
  | x :: xs => by
    have ih := atKey_up k xs
    unfold atKey vfind at ih ⊢
    rw [List.map_cons, List.find?_cons, List.find?_cons]
    by_cases e : x.1 = k
    · rw [decide_eq_true (show (upB x).1 = kB k from kB_inj.mpr e), decide_eq_true e]
      rfl
    · rw [decide_eq_false (show ¬ (upB x).1 = kB k from fun h => e (kB_inj.mp h)), decide_eq_false e]
      exact ih
def bgetO {β : Type} (d : DB β) (k : KB) : Option β := bfind d.l k
def bsetdO {β : Type} (d : DB β) (k : KB) (v : β) : Option (DB β) := if bhas d k = true then some d else bputO d k v
theorem vfind_any {xs : List (KB × Addr × Value)} {k : KB} : (vfind xs k).isSome = xs.any fun x => decide (x.1 = k) := by
  unfold vfind
  rw [Option.isSome_map]
  induction xs with
  | nil => rfl
  | cons x xs ih =>
    rw [List.find?_cons, List.any_cons]
    cases decide (x.1 = k) with
    | true => rfl
    | false => rw [Bool.false_or]; exact ih
theorem repsB_find {β : Type} [Rp β] {K : PySem.W.Frag} {G : Hp} {k : KB} : ∀ {xs : List (KB × Addr × Value)} {l : List (KB × β)}, RepsB K G xs l → (bfind l k = none → vfind xs k = none) ∧ ∀ x, bfind l k = some x → ∃ p v, vfind xs k = some p ∧ RelV v p.2 ∧ rep K G v x
  | _, _, .nil => ⟨fun _ => rfl, fun x h => by cases h⟩
  | (a, c, w) :: xs, (a', y) :: l, .cons ⟨h1, h2, v, h3, h4⟩ r => by
    have ih := repsB_find (k := k) r
    simp only at h1
    subst h1
    unfold bfind vfind at ih ⊢
    rw [List.find?_cons, List.find?_cons]
    by_cases e : a = k
    · have e1 : decide (((a, y) : KB × β).1 = k) = true := decide_eq_true e
      have e2 : decide (((a, c, w) : KB × Addr × Value).1 = k) = true := decide_eq_true e
      rw [e1]
      exact ⟨fun h => (nomatch h), fun x h => ⟨(c, w), v, rfl, h3, by cases h; exact h4⟩⟩
    · have e1 : decide (((a, y) : KB × β).1 = k) = false := decide_eq_false e
      have e2 : decide (((a, c, w) : KB × Addr × Value).1 = k) = false := decide_eq_false e
      rw [e1]
      exact ih
/-- a dict seen, its keys in sight -/
def BAt (K : PySem.W.Frag) (H : Hp) (a : Addr) (xs : List (KB × Addr × Value)) : Prop := ∃ o, H a = some (hoB a o) ∧ ObB a xs o ∧ ∀ x ∈ xs, KeyAt K H x.1 x.2.1
def tDGetB (K : PySem.W.Frag) (td ty : TE) : TE := fun σ H Q => td σ H fun x H1 => ty σ H1 fun y H2 => ∃ a xs k b p v, x = .ref a ∧ y = .ref b ∧ BAt K H2 a xs ∧ KeyAt K H2 k b ∧ vfind xs k = some p ∧ RelV v p.2 ∧ Q v H2
def tDGet1B (K : PySem.W.Frag) (td ty : TE) : TE := fun σ H Q => td σ H fun x H1 => ∃ a xs, x = .ref a ∧ BAt K H1 a xs ∧ ty σ H1 fun y H2 => ∃ k b, y = .ref b ∧ BAt K H2 a xs ∧ KeyAt K H2 k b ∧ (vfind xs k = none → Q .non H2) ∧ ∀ p, vfind xs k = some p → ∃ v, RelV v p.2 ∧ Q v H2
def tDSetdB (K : PySem.W.Frag) (td ty tv : TE) : TE := fun σ H Q => td σ H fun x H1 => ∃ a xs0, x = .ref a ∧ BAt K H1 a xs0 ∧ ty σ H1 fun y H2 => tv σ H2 fun z H3 => ∃ o xs k b, y = .ref b ∧ H3 a = some (hoB a o) ∧ ObB a xs o ∧ (∀ x ∈ xs, KeyAt K H3 x.1 x.2.1) ∧ KeyAt K H3 k b ∧
  (∀ p, vfind xs k = some p → ∃ v, RelV v p.2 ∧ Q v H3) ∧ (vfind xs k = none → xs.length < sizeLine ∧ ∀ o' u, RelV z u → ObB a (storeB xs k b u) o' → Q z (upd H3 a (hoB a o')))
section
variable {X : Cx} {o e f i : Expr} {pos apos cpos : Pos} {td ty tv : TE}
theorem bat_is {pins : List (Addr × Obj)} {σ : L2.St} {H : Hp} {s : Shared} {a : Addr} {xs : List (KB × Addr × Value)} (I : Inv X pins σ H s) (h : BAt X.K H a xs) : s.heap.DictOfH (tupleKind (leafKind X.prog X.w)) a (xs.map upB) ∧ (a == sysModules) = false ∧ xs.length ≤ sizeLine := by
  obtain ⟨o, h1, h2, h3⟩ := h
  exact ⟨dict_atB I h1 h2 h3, h2.ne, h2.len⟩
theorem dictH_no {P : Program} {w : World} {s : Shared} {a : Addr} {xs : List (List Leaf × Addr × Value)} (d : s.heap.DictOfH (tupleKind (leafKind P w)) a xs) : ∀ b, Value.ref a = .ref b → ∃ ob, s.heap.get? b = some ob ∧ ob.dict = none := fun b q => by
  cases q
  obtain ⟨ob, _, _, h1, h2, _⟩ := d
  exact ⟨ob, h1, h2.2.1⟩
theorem pe_dgetB (hu : X.A.units + 1 < cLine) (ho : PE X o td) (hi : PE X i ty) (hs : NoSl i) : PE X (.Subscript o i pos) (tDGetB X.K td ty) := by
  refine ⟨fun pins s σ H Q I h => ?_⟩
  refine subD_of PySem.F.slot_dict_getitem.lookup hs (thn (ho.run pins s σ H _ I h) fun u s1 ⟨x, H1, I1, rx, q1⟩ => thn (hi.run pins s1 σ H1 _ I1 q1) fun iv s2 ⟨y, H2, I2, ry, a, xs, k, b, p, v, ex, ey, g, hk, hf, rv, q2⟩ => ?_)
  subst ex ey
  obtain rfl : u = Value.ref a := rx
  obtain rfl : iv = Value.ref b := ry
  obtain ⟨dd, hd, _⟩ := bat_is I2 g
  refine ⟨dd.typeIs, wpAny_getItem_heap (tupleKind_room_in1 hu) (key_atB I2 hk) dd (by rw [atKey_up]; exact hf) ?_⟩
  exact ⟨v, H2, I2.tok _, rv, q2⟩
theorem pe_dget1B (hu : X.A.units + 1 < cLine) (ho : PE X o td) (he : PE X e ty) (m : M1 X o "get" apos e cpos) : PE X (.Call (.Attribute o "get" apos) [e] [] cpos) (tDGet1B X.K td ty) := by
  refine ⟨fun pins s σ H Q I h => ?_⟩
  refine wpAny_Call_method m.base m.few m.line PySem.F.plainAttrs_dict PySem.F.slot_dict_get PySem.F.type_dict_get (thn (ho.run pins s σ H _ I h) fun u s1 ⟨x, H1, I1, rx, a, xs, ex, d, q1⟩ => ?_)
  subst ex
  obtain rfl : u = Value.ref a := rx
  obtain ⟨d1, _, _⟩ := bat_is I1 d
  refine ⟨d1.typeIs, dictH_no d1, ?_⟩
  rw [m.trees]
  refine Calls.callWith_builtin rfl (Calls.evalArgs_plain (Calls.spliced_cons (thn (he.run pins s1 σ H1 _ I1 q1) fun iv s2 ⟨y, H2, I2, ry, k, b, ey, g, hk, q2, q3⟩ => Calls.spliced_nil ?_)))
  subst ey
  obtain rfl : iv = Value.ref b := ry
  obtain ⟨dd, hd, _⟩ := bat_is I2 g
  refine call_meetsIn PySem.F.slot_dict_get dd.typeIs PySem.F.entry_dict_get (PySem.F.args_dict_get_2 _ _) (meetsH_dict_get (tupleKind (leafKind X.prog X.w)) a b hd) ⟨tupleKind_room_in1 hu, kB k, _, key_atB I2 hk, dd, ?_⟩
  rw [atKey_up]
  cases hf : vfind xs k with
  | none => exact ⟨.non, H2, I2.tok _, rfl, q2 hf⟩
  | some p =>
    obtain ⟨v, rv, q4⟩ := q3 p hf
    exact ⟨v, H2, I2.tok _, rv, q4⟩
theorem pe_dsetdB (hu : X.A.units + 1 < cLine) (ho : PE X o td) (he : PE X e ty) (hf : PE X f tv) (m : M2 X o "setdefault" apos e f cpos) : PE X (.Call (.Attribute o "setdefault" apos) [e, f] [] cpos) (tDSetdB X.K td ty tv) := by
  refine ⟨fun pins s σ H Q I h => ?_⟩
  refine wpAny_Call_method m.base m.few m.line PySem.F.plainAttrs_dict PySem.F.slot_dict_setdefault PySem.F.type_dict_setdefault (thn (ho.run pins s σ H _ I h) fun u s1 ⟨x, H1, I1, rx, a, xs0, ex, d, q1⟩ => ?_)
  subst ex
  obtain rfl : u = Value.ref a := rx
  obtain ⟨d1, _, _⟩ := bat_is I1 d
  refine ⟨d1.typeIs, dictH_no d1, ?_⟩
  rw [m.trees]
  refine Calls.callWith_builtin rfl (Calls.evalArgs_plain (Calls.spliced_cons (thn (he.run pins s1 σ H1 _ I1 q1) fun iv s2 ⟨y, H2, I2, ry, q2⟩ =>
    Calls.spliced_cons (thn (hf.run pins s2 σ H2 _ I2 q2) fun fv s3 ⟨z, H3, I3, rz, ob, xs, k, b, ey, g1, g2, g3, hk, q3, q4⟩ => Calls.spliced_nil ?_))))
  subst ey
  obtain rfl : iv = Value.ref b := ry
  have dd := dict_atB I3 g1 g2 g3
  refine call_meetsIn PySem.F.slot_dict_setdefault dd.typeIs PySem.F.entry_dict_setdefault (PySem.F.args_dict_setdefault_3 _ _ _) (meetsH_dict_setdefault (tupleKind (leafKind X.prog X.w)) a b g2.ne fv) ⟨tupleKind_room_in1 hu, kB k, _, key_atB I3 hk, dd, by rw [List.length_map]; exact g2.len, fun p hp => ?_, fun hn h' dd' hs => ?_⟩
  · rw [atKey_up] at hp
    obtain ⟨v, rv, q5⟩ := q3 p hp
    exact ⟨v, H3, I3.tok _, rv, q5⟩
  · rw [atKey_up] at hn
    rw [store_up] at dd'
    obtain ⟨q, hq, ho'⟩ := ob_ofB g2.ne (Nat.le_trans (length_storeB xs k b fv) (q4 hn).1) dd'
    exact ⟨z, _, d_write I3 (hoB_mut g1) hs ⟨q, hq⟩ (hoB_ok hq), rz, (q4 hn).2 q fv rz ho'⟩
end
section
variable {α β ρ : Type} [Rp α] [Rp β]
variable {K : PySem.W.Frag} {σ : L2.St} {G0 H0 G H G1 H1 : Hp} {te td ty tv tx : TE} {ma : Option α} {mb : Option β} {i : Nat} {d : DB β} {D : Ends} {out : ρ} {p q : Addr}
theorem bat_rep {G : Hp} {v : V} {x : DB β} (h : rep K G v x) : ∃ a xs, v = .ref a ∧ BAt K G a xs ∧ RepsB K G xs x.l := by
  obtain ⟨a, o, xs, ev, hg, ho, rs⟩ := h
  exact ⟨a, xs, ev, ⟨o, hg, ho, repsB_keys rs⟩, rs⟩
theorem BAt.up {G H : Hp} {a : Addr} {xs : List (KB × Addr × Value)} (s : Same G H) (h : BAt K G a xs) : BAt K H a xs := by
  obtain ⟨o, h1, h2, h3⟩ := h
  exact ⟨o, s _ _ h1, h2, fun x hx => same_tup s (h3 x hx)⟩
theorem se_bget {m : Option (DB β)} {n : Option KB} (hd : SE K td σ G H m) (hk : SE K ty σ G H n) : SE K (tDGetB K td ty) σ G H (m.bind fun x => n.bind fun y => bgetO x y) := fun G1 H1 e r hm Q q => by
  obtain ⟨d, hd1, hm⟩ := bind_some hm
  obtain ⟨k, hk1, hm⟩ := bind_some hm
  refine hd G1 H1 e d hd1 _ fun v G2 H2 e2 hv => ?_
  refine hk G2 H2 (e.trans e2) k hk1 _ fun w G3 H3 e3 hw => ?_
  obtain ⟨a, xs, ev, hb, rs⟩ := bat_rep (Rp.mono e3.g hv : rep K G3 v d)
  obtain ⟨b, z, c, ey, hkb, hz, hc⟩ := hw
  have hz : z = .int k.1 := hz
  have hc : c = .bl k.2 := hc
  subst hz hc
  obtain ⟨p, u, hp, ru, rx⟩ := (repsB_find rs).2 r hm
  exact ⟨a, xs, k, b, p, u, ev, ey, hb.up e3.s.s, same_tup e3.s.s hkb, hp, ru, q u G3 H3 (e2.trans e3) rx⟩
theorem se_bgetp {x : DB β} {y : KB} (hd : SE K td σ G H (some x)) (hk : SE K ty σ G H (some y)) : SE K (tDGetB K td ty) σ G H (bgetO x y) := se_bget hd hk
theorem se_bget1 [RpN β] {m : Option (DB β)} {n : Option KB} (hd : SE K td σ G H m) (hk : SE K ty σ G H n) : SE K (tDGet1B K td ty) σ G H (m.bind fun x => n.bind fun y => some (bgetO x y)) := fun G1 H1 e r hm Q q => by
  obtain ⟨d, hd1, hm⟩ := bind_some hm
  obtain ⟨k, hk1, hm⟩ := bind_some hm
  cases hm
  refine hd G1 H1 e d hd1 _ fun v G2 H2 e2 hv => ?_
  obtain ⟨a, xs, ev, hb, rs⟩ := bat_rep hv
  refine ⟨a, xs, ev, hb.up e2.s.s, ?_⟩
  refine hk G2 H2 (e.trans e2) k hk1 _ fun w G3 H3 e3 hw => ?_
  obtain ⟨b, z, c, ey, hkb, hz, hc⟩ := hw
  have hz : z = .int k.1 := hz
  have hc : c = .bl k.2 := hc
  subst hz hc
  have hb3 : BAt K G3 a xs := hb.up e3.g
  refine ⟨k, b, ey, hb3.up e3.s.s, same_tup e3.s.s hkb, fun hn => ?_, fun p hp => ?_⟩
  · cases hf : bfind d.l k with
    | none =>
      refine q .non G3 H3 (e2.trans e3) ?_
      unfold bgetO
      rw [hf]
      exact rfl
    | some x =>
      obtain ⟨p, u, hp, _⟩ := (repsB_find rs).2 x hf
      rw [hn] at hp
      cases hp
  · cases hf : bfind d.l k with
    | none =>
      rw [(repsB_find rs).1 hf] at hp
      cases hp
    | some x =>
      obtain ⟨p2, u, hp2, ru, rx⟩ := (repsB_find rs).2 x hf
      rw [hp] at hp2
      cases hp2
      refine ⟨u, ru, q u G3 H3 (e2.trans e3) ?_⟩
      unfold bgetO
      rw [hf]
      have h3 : rep K G3 u x := Rp.mono e3.g rx
      exact ⟨h3, RpN.nn h3⟩
theorem se_bget1p [RpN β] {x : DB β} {y : KB} (hd : SE K td σ G H (some x)) (hk : SE K ty σ G H (some y)) : SE K (tDGet1B K td ty) σ G H (some (bgetO x y)) := se_bget1 hd hk
theorem st_bsetd {n : Option KB} {k : DB β → Option ρ} (hs : Vw G H) (hv : σ[i]? = some (some (.ref p))) (o : OwnB K H0 G H p d) (sk : SE K ty σ G H n) (se : SE K tv σ G H mb) (hm : (n.bind fun j => mb.bind fun x => (bsetdO d j x).bind k) = some out)
    (kont : ∀ es h G1 H1, Ext G H G1 H1 → OwnB K H0 G1 (upd H1 p h) p es → G1 p = none → k es = some out → D.nx σ (upd H1 p h)) : tDrop (tDSetdB K (tVar i) ty tv) D σ H := by
  obtain ⟨j, hj, hm⟩ := bind_some hm
  obtain ⟨x, hx, hm⟩ := bind_some hm
  obtain ⟨es, he, hm⟩ := bind_some hm
  obtain ⟨ob0, xs0, hp0, ho0, rs0⟩ := o.h
  refine ⟨.ref p, hv, p, xs0, rfl, ⟨ob0, hp0, ho0, fun y hy => same_tup hs.s (repsB_keys rs0 y hy)⟩, ?_⟩
  refine sk G H (Ext.refl hs) j hj _ fun w G1 H1 e1 hw => ?_
  refine se G1 H1 e1 x hx _ fun v G2 H2 e2 hv1 => ?_
  obtain ⟨b, z, c, ey, hb, hz, hc⟩ := hw
  have hz : z = .int j.1 := hz
  have hc : c = .bl j.2 := hc
  subst hz hc
  have o2 := (o.mono e1).mono e2
  obtain ⟨ob, xs, hp, ho, rs⟩ := o2.h
  unfold bsetdO at he
  have hany : bhas d j = xs.any fun y => decide (y.1 = j) := (repsB_any rs).symm
  refine ⟨ob, xs, j, b, ey, hp, ho, fun y hy => same_tup e2.s.s (repsB_keys rs y hy), same_tup e2.s.s (same_tup e2.g hb), fun pp hpp => ?_, fun hn => ?_⟩
  · rw [hany, ← vfind_any, hpp, Option.isSome_some, if_pos rfl] at he
    cases he
    cases hf : bfind d.l j with
    | none =>
      rw [(repsB_find rs).1 hf] at hpp
      cases hpp
    | some y =>
      obtain ⟨p2, u, hp2, ru, rx⟩ := (repsB_find rs).2 y hf
      rw [hpp] at hp2
      cases hp2
      refine ⟨u, ru, ?_⟩
      have := kont d (hoB p ob) G2 H2 (e1.trans e2) (by
        rw [show upd H2 p (hoB p ob) = H2 from funext fun a => by
          by_cases ea : a = p
          · rw [ea, upd_same, hp]
          · rw [upd_ne ea]]
        exact o2) o2.g hm
      rwa [show upd H2 p (hoB p ob) = H2 from funext fun a => by
          by_cases ea : a = p
          · rw [ea, upd_same, hp]
          · rw [upd_ne ea]] at this
  · rw [hany, ← vfind_any, hn, Option.isSome_none, if_neg (by decide)] at he
    unfold bputO at he
    split at he
    · rename_i hl
      cases he
      refine ⟨by rw [Paired.length rs]; exact Nat.lt_of_lt_of_le hl (by decide), fun o' u hu ho' => ?_⟩
      exact kont _ _ G2 H2 (e1.trans e2) ⟨o2.z, o2.g, o', _, upd_same, ho', repsB_put rs (same_tup e2.g hb) hu hv1⟩ o2.g hm
    · cases he
end
end Mi

/-! MiTd: more of values of any kind. -/
namespace Mi
variable [Tbs]
open PySem PySem.Spec PyProof.Rows L2
open Rp (rep)
theorem ix_anyK {X : Cx} {K : PySem.W.Frag} (h : X.K = K) : IxR X (rIxU K) := by subst h; exact ix_any
section
variable {α : Type} [Rp α] {K : PySem.W.Frag} {σ : L2.St} {G H : Hp}
theorem se_tup0 : SE K (tTup tNil) σ G H (some (TL.mk ([] : List α))) := fun G1 H1 e z hm Q q => by
  cases hm
  refine ⟨by show 0 ≤ sizeLine; decide, fun p np => ?_⟩
  exact q (.ref p) _ _ (Ext.new (o := .tup []) e.s np) ⟨p, [], rfl, SqT.of upd_same, by show 0 ≤ sizeLine; decide, .nil⟩
end
section
variable {α β γ δ α' β' γ' δ' : Type} [Rp α] [Rp β] [Rp γ] [Rp δ] [Rp α'] [Rp β'] [Rp γ'] [Rp δ'] {f : α → Option α'} {g : β → Option β'} {h : γ → Option γ'} {k : δ → Option δ'}
omit [Tbs] in
theorem prj_four (hf : Prj f) (hg : Prj g) (hh : Prj h) (hk : Prj k) : Prj (fun t : T4 α β γ δ => (f t.a).bind fun x => (g t.b).bind fun y => (h t.c).bind fun z => (k t.d).bind fun u => some (T4.mk x y z u)) := fun ⟨a, x, y, z, u, e, h0, h1, h2, h3, h4⟩ hm => by
  obtain ⟨x', hx, hm⟩ := bind_some hm
  obtain ⟨y', hy, hm⟩ := bind_some hm
  obtain ⟨z', hz, hm⟩ := bind_some hm
  obtain ⟨u', hu, hm⟩ := bind_some hm
  cases hm
  exact ⟨a, x, y, z, u, e, h0, hf h1 hx, hg h2 hy, hh h3 hz, hk h4 hu⟩
end
/-! ### two rows of a table of one's own change places -/
section
theorem ixO_of {α : Type} {xs : List α} {i : Int} {n : Nat} {x : α} (h : plc xs.length i = some n) (hx : xs[n]? = some x) : ixO xs i = some x := by
  unfold plc at h
  unfold ixO
  split at h
  · rename_i h0
    cases h
    rw [if_pos h0]
    exact hx
  · rename_i h0
    split at h
    · rename_i h1
      cases h
      rw [if_neg h0, if_pos h1]
      exact hx
    · cases h
theorem pset {α β : Type} {R : α → β → Prop} : ∀ {xs : List α} {ys : List β} {n : Nat} {a : α} {b : β}, Paired R xs ys → R a b → Paired R (xs.set n a) (ys.set n b)
  | _, _, _, _, _, .nil, _ => .nil
  | _, _, 0, _, _, .cons _ t, h => .cons h t
  | _, _, n + 1, _, _, .cons r t, h => .cons r (pset (n := n) t h)
theorem nodup_swap {l : List Nat} {n m a b : Nat} (h : l.Nodup) (ha : l[n]? = some a) (hb : l[m]? = some b) : ((l.set m a).set n b).Nodup := by
  have hi : ∀ i j x, l[i]? = some x → l[j]? = some x → i = j := fun i j x h1 h2 => by
    obtain ⟨l1, e1⟩ := List.getElem?_eq_some_iff.mp h1
    obtain ⟨l2, e2⟩ := List.getElem?_eq_some_iff.mp h2
    rcases Nat.lt_trichotomy i j with g | g | g
    · exact absurd (e1.trans e2.symm) (List.pairwise_iff_getElem.mp h i j l1 l2 g)
    · exact g
    · exact absurd (e2.trans e1.symm) (List.pairwise_iff_getElem.mp h j i l2 l1 g)
  have ln := (List.getElem?_eq_some_iff.mp ha).1
  have lm := (List.getElem?_eq_some_iff.mp hb).1
  have get : ∀ i, i < l.length → ∃ j, ((l.set m a).set n b)[i]? = l[j]? ∧ j < l.length ∧ (i = n → j = m) ∧ (i ≠ n → i = m → j = n) ∧ (i ≠ n → i ≠ m → j = i) := fun i hil => by
    rw [List.getElem?_set, List.getElem?_set]
    by_cases e1 : n = i
    · subst e1
      refine ⟨m, ?_, lm, fun _ => rfl, fun g => absurd rfl g, fun g => absurd rfl g⟩
      rw [if_pos rfl, if_pos (by rw [List.length_set]; exact ln), hb]
    · rw [if_neg e1]
      by_cases e2 : m = i
      · subst e2
        refine ⟨n, ?_, ln, fun g => absurd g.symm e1, fun _ _ => rfl, fun _ g => absurd rfl g⟩
        rw [if_pos rfl, if_pos lm, ha]
      · rw [if_neg e2]
        exact ⟨i, rfl, hil, fun g => absurd g.symm e1, fun _ g => absurd g.symm e2, fun _ _ => rfl⟩
  refine List.pairwise_iff_getElem.mpr fun i j h1 h2 hij e => ?_
  rw [List.length_set, List.length_set] at h1 h2
  obtain ⟨i', g1, g2, g3, g4, g5⟩ := get i h1
  obtain ⟨j', k1, k2, k3, k4, k5⟩ := get j h2
  have e1 : ((l.set m a).set n b)[i]? = some ((l.set m a).set n b)[i] := List.getElem?_eq_getElem (by rw [List.length_set, List.length_set]; exact h1)
  have e2 : ((l.set m a).set n b)[j]? = some ((l.set m a).set n b)[i] := by rw [e]; exact List.getElem?_eq_getElem (by rw [List.length_set, List.length_set]; exact h2)
  have := hi i' j' _ (g1 ▸ e1) (k1 ▸ e2)
  by_cases a1 : i = n
  · have := g3 a1
    by_cases b1 : j = n
    · omega
    · by_cases b2 : j = m
      · have := k4 b1 b2; omega
      · have := k5 b1 b2; omega
  · by_cases a2 : i = m
    · have := g4 a1 a2
      by_cases b1 : j = n
      · have := k3 b1; omega
      · by_cases b2 : j = m
        · omega
        · have := k5 b1 b2; omega
    · have := g5 a1 a2
      by_cases b1 : j = n
      · have := k3 b1; omega
      · by_cases b2 : j = m
        · have := k4 b1 b2; omega
        · have := k5 b1 b2; omega
variable {α ρ : Type} [Rp α] {K : PySem.W.Frag} {σ : L2.St} {G H H0 : Hp} {s : Nat} {p : Addr} {qs : List Nat} {ds : List (List α)} {mi mk : Option Int} {out : ρ} {ti tk : TE} {D : Ends}
theorem DJ.sub1 {p : Nat} {as as' bs : List Nat} (h : DJ (p :: as) bs) (m : ∀ z ∈ as', z ∈ as) : DJ (p :: as') bs := fun z hz => by
  rcases List.mem_cons.mp hz with e | hz
  · rw [e]; exact h p List.mem_cons_self
  · exact h z (List.mem_cons_of_mem _ (m z hz))
theorem st_swap2 {kk : List (List α) → Option ρ} (hs : Vw G H) (hv : σ[s]? = some (some (.ref p))) (o : Own2 K H0 G H p qs ds) (si : ∀ d, mi = some d → ∀ H1, te_ok ti σ H1 d) (sk : ∀ d, mk = some d → ∀ H1, te_ok tk σ H1 d)
    (hm : (mi.bind fun i => mk.bind fun k => (ixO ds i).bind fun x => (ixO ds k).bind fun y => (setO ds k x).bind fun es => (setO es i y).bind kk) = some out)
    (kont : ∀ es qs' h G1 H1, Ext G H G1 H1 → Own2 K H0 G1 (upd H1 p h) p qs' es → Own2 K H0 G1 H1 p qs ds → p ∈ p :: qs → (∀ z ∈ qs', z ∈ qs) → kk es = some out → D.nx σ (upd H1 p h)) :
    tAsg (tTup (tCons (tOp (rIxL K) (tVar s) ti) (tCons (tOp (rIxL K) (tVar s) tk) tNil))) (gTup K 2 (gCons (gSub (tVar s) tk L2.rSetL) (gCons (gSub (tVar s) ti L2.rSetL) gNil))) D σ H := by
  obtain ⟨i, hi, hm⟩ := bind_some hm
  obtain ⟨k, hk, hm⟩ := bind_some hm
  obtain ⟨x, hx, hm⟩ := bind_some hm
  obtain ⟨y, hy, hm⟩ := bind_some hm
  obtain ⟨es, he, hm⟩ := bind_some hm
  obtain ⟨fs, hf, hm⟩ := bind_some hm
  have hl := Paired.length o.rows
  obtain ⟨n, a1, a2, a3⟩ := ixO_at hx
  obtain ⟨m, b1, b2, b3⟩ := ixO_at hy
  obtain ⟨q, c1, c2, c3⟩ := rows_at o.rows a2
  obtain ⟨q2, d1, d2, d3⟩ := rows_at o.rows b2
  rw [setO_at b1 b3] at he
  cases he
  rw [setO_at (n := n) (by rw [List.length_set]; exact a1) (by rw [List.length_set]; exact a3)] at hf
  cases hf
  refine st_swap (α := Nat) (ρ := Unit) (out := ()) (ds := qs) (mi := mi) (mk := mk) (kk := fun es => if es = (qs.set m q).set n q2 then some () else none) hs hv o.o si sk ?_ fun es h G1 H1 e ho hg hes => ?_
  · rw [hi, hk]
    show ((ixO qs i).bind fun x => (ixO qs k).bind fun y => (setO qs k x).bind fun es => (setO es i y).bind fun es => if es = (qs.set m q).set n q2 then some () else none) = some ()
    rw [ixO_of (by rw [hl]; exact a1) c1, ixO_of (by rw [hl]; exact b1) d1]
    show ((setO qs k q).bind fun es => (setO es i q2).bind fun es => if es = (qs.set m q).set n q2 then some () else none) = some ()
    rw [setO_at (n := m) (by rw [hl]; exact b1) (by omega)]
    show ((setO (qs.set m q) i q2).bind fun es => if es = (qs.set m q).set n q2 then some () else none) = some ()
    rw [setO_at (n := n) (by rw [List.length_set, hl]; exact a1) (by rw [List.length_set]; omega)]
    show (if (qs.set m q).set n q2 = (qs.set m q).set n q2 then some () else none) = some ()
    rw [if_pos rfl]
  · have hes2 : es = (qs.set m q).set n q2 := by
      by_cases g : es = (qs.set m q).set n q2
      · exact g
      · simp only [if_neg g] at hes
        cases hes
    subst hes2
    have hn := List.nodup_cons.mp o.nd
    have ox := o.mono e
    have mem : ∀ z ∈ (qs.set m q).set n q2, z ∈ qs := fun z hz => by
      rcases List.mem_or_eq_of_mem_set hz with hz | hz
      · rcases List.mem_or_eq_of_mem_set hz with hz | hz
        · exact hz
        · rw [hz]; exact c3
      · rw [hz]; exact d3
    refine kont _ _ h G1 H1 e ⟨ho, ?_, ?_⟩ ox List.mem_cons_self mem hm
    · have r1 : Paired (fun q d => Own K H0 G1 (upd H1 p h) q d) qs ds := Pmap ox.rows fun z d hz hd => hd.off fun g => hn.1 (g ▸ hz)
      have own : ∀ {z : Nat} {d : List α} {j : Nat}, qs[j]? = some z → ds[j]? = some d → Own K H0 G1 (upd H1 p h) z d := fun h1 h2 => by
        obtain ⟨z', g1, g2, _⟩ := rows_at (H := upd H1 p h) r1 h2
        rw [h1] at g1
        cases g1
        exact g2
      exact pset (pset r1 (own c1 a2)) (own d1 b2)
    · exact List.nodup_cons.mpr ⟨fun g => hn.1 (mem _ g), nodup_swap hn.2 c1 d1⟩
end
/-! ### xs[i], xs[k] = x, y, the list one's own -/
section
variable {α ρ : Type} [Rp α] {K : PySem.W.Frag} {σ : L2.St} {G H H0 : Hp} {ti tk t1 t2 : TE} {D : Ends} {out : ρ} {s : Nat}
theorem st_pair {p : Addr} {ds : List α} {mi mk : Option Int} {m1 m2 : Option α} {kk : List α → Option ρ} (hs : Vw G H) (hv : σ[s]? = some (some (.ref p))) (o : Own K H0 G H p ds) (si : ∀ d, mi = some d → ∀ H1, te_ok ti σ H1 d) (sk : ∀ d, mk = some d → ∀ H1, te_ok tk σ H1 d) (s1 : SE K t1 σ G H m1) (s2 : SE K t2 σ G H m2)
    (hm : (mi.bind fun i => mk.bind fun k => m1.bind fun x => m2.bind fun y => (setO ds i x).bind fun es => (setO es k y).bind kk) = some out)
    (kont : ∀ es h G1 H1, Ext G H G1 H1 → Own K H0 G1 (upd H1 p h) p es → G1 p = none → kk es = some out → D.nx σ (upd H1 p h)) :
    tAsg (tTup (tCons t1 (tCons t2 tNil))) (gTup K 2 (gCons (gSub (tVar s) ti L2.rSetL) (gCons (gSub (tVar s) tk L2.rSetL) gNil))) D σ H := by
  obtain ⟨i, hi, hm⟩ := bind_some hm
  obtain ⟨k, hk, hm⟩ := bind_some hm
  have si := si i hi
  have sk := sk k hk
  obtain ⟨x, hx, hm⟩ := bind_some hm
  obtain ⟨y, hy, hm⟩ := bind_some hm
  obtain ⟨es, he, hm⟩ := bind_some hm
  obtain ⟨fs, hf, hm⟩ := bind_some hm
  refine se_tup2p (s1.is hx) (s2.is hy) G H (Ext.refl hs) _ rfl _ fun v G1 H1 e1 hw => ?_
  obtain ⟨a, v1, v2, ea, ha, r1, r2⟩ := hw
  have o1 := o.mono e1
  obtain ⟨vs, j, h1, h2, o2⟩ := setO_in o1 he r1
  refine ⟨a, [v1, v2], ea, same_tup e1.s.s ha, rfl, v1, [v2], rfl, ⟨.ref p, hv, si _ _ ⟨p, vs, i, j, rfl, rfl, h1, h2, ?_⟩⟩⟩
  obtain ⟨ws, l, h3, h4, o3⟩ := setO_in o2 hf r2
  refine ⟨v2, [], rfl, ⟨.ref p, hv, sk _ _ ⟨p, ws, k, l, rfl, rfl, h3, h4, ?_⟩⟩⟩
  rw [upd_upd] at o3 ⊢
  exact ⟨rfl, kont _ _ G1 H1 e1 o3 o1.g hm⟩
end
section
variable {α β γ α' β' γ' : Type} [Rp α] [Rp β] [Rp γ] [Rp α'] [Rp β'] [Rp γ'] {f1 : α → α'} {f2 : β → β'} {f3 : γ → γ'}
theorem co_tup3 (h1 : Co f1) (h2 : Co f2) (h3 : Co f3) : Co (fun t : T3 α β γ => T3.mk (f1 t.a) (f2 t.b) (f3 t.c)) := fun ⟨a, x, y, z, e, h0, r1, r2, r3⟩ => ⟨a, x, y, z, e, h0, h1 r1, h2 r2, h3 r3⟩
end
end Mi

/-! MiTn: lists that stand in an object's fields (self.table, self.columns) -/
namespace Mi
variable [Tbs]
open PySem L2
open Rp (rep)
set_option simprocs false
/-- a reading that tells a list's address as long as an object stands -/
theorem nodup_set1 {q : Nat} : ∀ {qs : List Nat} {n : Nat}, qs.Nodup → q ∉ qs → (qs.set n q).Nodup
  | [], _, h, _ => h
  | a :: qs, 0, h, hq => List.nodup_cons.mpr ⟨fun g => hq (List.mem_cons_of_mem _ g), (List.nodup_cons.mp h).2⟩
  | a :: qs, n + 1, h, hq => by
    have h2 := List.nodup_cons.mp h
    refine List.nodup_cons.mpr ⟨fun g => ?_, nodup_set1 h2.2 fun g => hq (List.mem_cons_of_mem _ g)⟩
    rcases List.mem_or_eq_of_mem_set g with g | g
    · exact h2.1 g
    · exact hq (g ▸ List.mem_cons_self)
structure Rd (tl : TE) (σ : L2.St) (s : Addr) (ob : HO) (p : Addr) : Prop where
  rd : ∀ (H' : Hp) (Q : VK), H' s = some ob → Q (.ref p) H' → tl σ H' Q
  nt : NT ob
section
variable {α β ρ : Type} [Rp α] [Rp β] [Rp ρ] {K : PySem.W.Frag} {σ : L2.St} {G H H0 G1 H1 : Hp} {s p : Addr} {ob : HO} {qs : List Nat} {tl tb tc ti tk te : TE} {D : Ends} {out : ρ}
theorem Rd.ext (r : Rd tl σ s ob p) (h : H s = some ob) (e : Ext G H G1 H1) : H1 s = some ob := e.h.k _ _ h r.nt
/-- an item of the list -/
theorem se_rd_ix {ds : List α} {mk : Option Int} (r : Rd tl σ s ob p) (h0 : H s = some ob) (o : Own K H0 G H p ds) (hk : SE K tb σ G H mk) : SE K (tOp (rIxL K) tl tb) σ G H (mk.bind fun k => ixO ds k) := fun G1 H1 e z hm Q q => by
  obtain ⟨k, hk2, hm⟩ := bind_some hm
  refine r.rd _ _ (r.ext h0 e) ?_
  refine hk G1 H1 e k hk2 _ fun w G2 H2 e2 hw => ?_
  obtain ⟨vs, h, l, rs⟩ := (o.mono (e.trans e2)).h
  obtain ⟨u, h1, h2⟩ := atI_reps rs hm
  exact ⟨p, vs, k, u, rfl, hw, SqL.of h, h1, q u G2 H2 e2 h2⟩
/-- an item of a row -/
theorem se_rd_ix2 {ds : List (List α)} {mi mj : Option Int} (r : Rd tl σ s ob p) (h0 : H s = some ob) (o : Own2 K H0 G H p qs ds) (hi : SE K tb σ G H mi) (hj : SE K tc σ G H mj) : SE K (tOp (rIxL K) (tOp (rIxL K) tl tb) tc) σ G H (mi.bind fun a => mj.bind fun b => (ixO ds a).bind fun r => ixO r b) := fun G1 H1 e z hm Q q => by
  obtain ⟨a, ha, hm⟩ := bind_some hm
  obtain ⟨b, hb, hm⟩ := bind_some hm
  obtain ⟨x, hr, hm⟩ := bind_some hm
  refine r.rd _ _ (r.ext h0 e) ?_
  refine hi G1 H1 e a ha _ fun w G2 H2 e2 hw => ?_
  obtain ⟨vs, q', n, h1, h2, h3, h4, h5, h6⟩ := (o.mono (e.trans e2)).item hr
  refine ⟨p, vs, a, .ref q', rfl, hw, SqL.of h1, h2, ?_⟩
  refine hj G2 H2 (e.trans e2) b hb _ fun w2 G3 H3 e3 hw2 => ?_
  obtain ⟨ws, g1, g2, g3⟩ := (h5.mono e3).h
  obtain ⟨u, g4, g5⟩ := atI_reps g3 hm
  exact ⟨q', ws, b, u, rfl, hw2, SqL.of g1, g4, q u G3 H3 ((e2.trans e3)) g5⟩
theorem se_rd_len {ds : List α} (r : Rd tl σ s ob p) (h0 : H s = some ob) (o : Own K H0 G H p ds) : SE K (tCB (fun xs H Q => ∃ p ys, xs = [.ref p] ∧ (SqL K H p ys ∨ SqT K H p ys) ∧ Q (.int ys.length) H) (tCons tl tNil)) σ G H (some (ds.length : Int)) := fun G1 H1 e z hm Q q => by
  cases hm
  obtain ⟨vs, h, l, rs⟩ := (o.mono e).h
  refine r.rd _ _ (r.ext h0 e) ?_
  refine ⟨p, vs, rfl, .inl (SqL.of h), ?_⟩
  rw [rs.len]
  exact q _ G1 H1 (Ext.refl e.s) rfl
theorem se_rd_len2 {ds : List (List α)} (r : Rd tl σ s ob p) (h0 : H s = some ob) (o : Own2 K H0 G H p qs ds) : SE K (tCB (fun xs H Q => ∃ p ys, xs = [.ref p] ∧ (SqL K H p ys ∨ SqT K H p ys) ∧ Q (.int ys.length) H) (tCons tl tNil)) σ G H (some (ds.length : Int)) := by
  rw [← Paired.length o.rows]
  exact se_rd_len r h0 o.o
/-- two items change places -/
theorem st_rd_swap {ds : List α} {mi mk : Option Int} {kk : List α → Option ρ} (hs : Vw G H) (r : Rd tl σ s ob p) (h0 : H s = some ob) (ne : s ≠ p) (o : Own K H0 G H p ds) (si : ∀ d, mi = some d → ∀ H1, te_ok ti σ H1 d) (sk : ∀ d, mk = some d → ∀ H1, te_ok tk σ H1 d)
    (hm : (mi.bind fun i => mk.bind fun k => (ixO ds i).bind fun x => (ixO ds k).bind fun y => (setO ds k x).bind fun es => (setO es i y).bind kk) = some out)
    (kont : ∀ es h G1 H1, Ext G H G1 H1 → Own K H0 G1 (upd H1 p h) p es → G1 p = none → kk es = some out → D.nx σ (upd H1 p h)) :
    tAsg (tTup (tCons (tOp (rIxL K) tl ti) (tCons (tOp (rIxL K) tl tk) tNil))) (gTup K 2 (gCons (gSub tl tk L2.rSetL) (gCons (gSub tl ti L2.rSetL) gNil))) D σ H := by
  obtain ⟨i, hi, hm⟩ := bind_some hm
  obtain ⟨k, hk, hm⟩ := bind_some hm
  have si := si i hi
  have sk := sk k hk
  obtain ⟨x, hx, hm⟩ := bind_some hm
  obtain ⟨y, hy, hm⟩ := bind_some hm
  obtain ⟨es, he, hm⟩ := bind_some hm
  obtain ⟨fs, hf, hm⟩ := bind_some hm
  have s1 : SE K (tOp (rIxL K) tl ti) σ G H (some x) := (show SE K _ _ _ _ (ixO ds i) from se_rd_ix r h0 o (te_se si)).is hx
  have s2 : SE K (tOp (rIxL K) tl tk) σ G H (some y) := (show SE K _ _ _ _ (ixO ds k) from se_rd_ix r h0 o (te_se sk)).is hy
  refine se_tup2p s1 s2 G H (Ext.refl hs) _ rfl _ fun v G1 H1 e1 hw => ?_
  obtain ⟨a, v1, v2, ea, ha, r1, r2⟩ := hw
  have o1 := o.mono e1
  have h1s := r.ext h0 e1
  obtain ⟨vs, j, h1, h2, o2⟩ := setO_in o1 he r1
  refine ⟨a, [v1, v2], ea, same_tup e1.s.s ha, rfl, v1, [v2], rfl, r.rd _ _ h1s (sk _ _ ⟨p, vs, k, j, rfl, rfl, h1, h2, ?_⟩)⟩
  obtain ⟨ws, l, h3, h4, o3⟩ := setO_in o2 hf r2
  refine ⟨v2, [], rfl, r.rd _ _ (by rw [upd_ne ne]; exact h1s) (si _ _ ⟨p, ws, i, l, rfl, rfl, h3, h4, ?_⟩)⟩
  rw [upd_upd] at o3 ⊢
  exact ⟨rfl, kont _ _ G1 H1 e1 o3 o1.g hm⟩
/-- two rows change places -/
theorem st_rd_swap2 {ds : List (List α)} {mi mk : Option Int} {kk : List (List α) → Option ρ} (hs : Vw G H) (r : Rd tl σ s ob p) (h0 : H s = some ob) (ne : s ≠ p) (o : Own2 K H0 G H p qs ds) (si : ∀ d, mi = some d → ∀ H1, te_ok ti σ H1 d) (sk : ∀ d, mk = some d → ∀ H1, te_ok tk σ H1 d)
    (hm : (mi.bind fun i => mk.bind fun k => (ixO ds i).bind fun x => (ixO ds k).bind fun y => (setO ds k x).bind fun es => (setO es i y).bind kk) = some out)
    (kont : ∀ es qs' h G1 H1, Ext G H G1 H1 → Own2 K H0 G1 (upd H1 p h) p qs' es → Own2 K H0 G1 H1 p qs ds → p ∈ p :: qs → (∀ z ∈ qs', z ∈ qs) → kk es = some out → D.nx σ (upd H1 p h)) :
    tAsg (tTup (tCons (tOp (rIxL K) tl ti) (tCons (tOp (rIxL K) tl tk) tNil))) (gTup K 2 (gCons (gSub tl tk L2.rSetL) (gCons (gSub tl ti L2.rSetL) gNil))) D σ H := by
  obtain ⟨i, hi, hm⟩ := bind_some hm
  obtain ⟨k, hk, hm⟩ := bind_some hm
  obtain ⟨x, hx, hm⟩ := bind_some hm
  obtain ⟨y, hy, hm⟩ := bind_some hm
  obtain ⟨es, he, hm⟩ := bind_some hm
  obtain ⟨fs, hf, hm⟩ := bind_some hm
  have hl := Paired.length o.rows
  obtain ⟨n, a1, a2, a3⟩ := ixO_at hx
  obtain ⟨m, b1, b2, b3⟩ := ixO_at hy
  obtain ⟨q, c1, c2, c3⟩ := rows_at o.rows a2
  obtain ⟨q2, d1, d2, d3⟩ := rows_at o.rows b2
  rw [setO_at b1 b3] at he
  cases he
  rw [setO_at (n := n) (by rw [List.length_set]; exact a1) (by rw [List.length_set]; exact a3)] at hf
  cases hf
  refine st_rd_swap (α := Nat) (ρ := Unit) (out := ()) (ds := qs) (mi := mi) (mk := mk) (kk := fun es => if es = (qs.set m q).set n q2 then some () else none) hs r h0 ne o.o si sk ?_ fun es h G1 H1 e ho hg hes => ?_
  · rw [hi, hk]
    show ((ixO qs i).bind fun x => (ixO qs k).bind fun y => (setO qs k x).bind fun es => (setO es i y).bind fun es => if es = (qs.set m q).set n q2 then some () else none) = some ()
    rw [ixO_of (by rw [hl]; exact a1) c1, ixO_of (by rw [hl]; exact b1) d1]
    show ((setO qs k q).bind fun es => (setO es i q2).bind fun es => if es = (qs.set m q).set n q2 then some () else none) = some ()
    rw [setO_at (n := m) (by rw [hl]; exact b1) (by omega)]
    show ((setO (qs.set m q) i q2).bind fun es => if es = (qs.set m q).set n q2 then some () else none) = some ()
    rw [setO_at (n := n) (by rw [List.length_set, hl]; exact a1) (by rw [List.length_set]; omega)]
    show (if (qs.set m q).set n q2 = (qs.set m q).set n q2 then some () else none) = some ()
    rw [if_pos rfl]
  · have hes2 : es = (qs.set m q).set n q2 := by
      by_cases g : es = (qs.set m q).set n q2
      · exact g
      · simp only [if_neg g] at hes
        cases hes
    subst hes2
    have hn := List.nodup_cons.mp o.nd
    have ox := o.mono e
    have mem : ∀ z ∈ (qs.set m q).set n q2, z ∈ qs := fun z hz => by
      rcases List.mem_or_eq_of_mem_set hz with hz | hz
      · rcases List.mem_or_eq_of_mem_set hz with hz | hz
        · exact hz
        · rw [hz]; exact c3
      · rw [hz]; exact d3
    refine kont _ _ h G1 H1 e ⟨ho, ?_, ?_⟩ ox List.mem_cons_self mem hm
    · have r1 : Paired (fun q d => Own K H0 G1 (upd H1 p h) q d) qs ds := Pmap ox.rows fun z d hz hd => hd.off fun g => hn.1 (g ▸ hz)
      have own : ∀ {z : Nat} {d : List α} {j : Nat}, qs[j]? = some z → ds[j]? = some d → Own K H0 G1 (upd H1 p h) z d := fun h1 h2 => by
        obtain ⟨z', g1, g2, _⟩ := rows_at (H := upd H1 p h) r1 h2
        rw [h1] at g1
        cases g1
        exact g2
      exact pset (pset r1 (own c1 a2)) (own d1 b2)
    · exact List.nodup_cons.mpr ⟨fun g => hn.1 (mem _ g), nodup_swap hn.2 c1 d1⟩
/-- an item put -/
theorem st_rd_put {ds : List α} {mi : Option Int} {ma : Option α} {kk : List α → Option ρ} (hs : Vw G H) (r : Rd tl σ s ob p) (h0 : H s = some ob) (o : Own K H0 G H p ds) (se : SE K te σ G H ma) (si : SE K ti σ G H mi)
    (hm : (ma.bind fun x => mi.bind fun i => (setO ds i x).bind kk) = some out)
    (kont : ∀ es h G1 H1, Ext G H G1 H1 → Own K H0 G1 (upd H1 p h) p es → G1 p = none → kk es = some out → D.nx σ (upd H1 p h)) : tAsg te (gSub tl ti L2.rSetL) D σ H := by
  obtain ⟨x, hx, hm⟩ := bind_some hm
  obtain ⟨i, hi, hm⟩ := bind_some hm
  obtain ⟨es, he, hm⟩ := bind_some hm
  refine se G H (Ext.refl hs) x hx _ fun v G1 H1 e1 hw => ?_
  refine r.rd _ _ (r.ext h0 e1) ?_
  refine si G1 H1 e1 i hi _ fun w G2 H2 e2 hwi => ?_
  have o2 := o.mono (e1.trans e2)
  obtain ⟨vs, j, h1, h2, o3⟩ := setO_in o2 he (Rp.mono e2.g hw)
  exact ⟨p, vs, i, j, rfl, hwi, h1, h2, kont _ _ G2 H2 (e1.trans e2) o3 o2.g hm⟩
/-- a row put: a new list of one's own -/
theorem st_rd_putrow {ds : List (List α)} {mi : Option Int} {ma : Option (List α)} {kk : List (List α) → Option ρ} (hs : Vw G H) (r : Rd tl σ s ob p) (h0 : H s = some ob) (z : HK H0 H) (o : Own2 K H0 G H p qs ds) (fe : FE K te σ G H ma) (si : SE K ti σ G H mi)
    (hm : (ma.bind fun x => mi.bind fun i => (setO ds i x).bind kk) = some out)
    (kont : ∀ es q n h G1 H1, Ext G H G1 H1 → Own2 K H0 G1 (upd H1 p h) p (qs.set n q) es → H q = none → Own2 K H0 G1 H1 p qs ds → kk es = some out → D.nx σ (upd H1 p h)) : tAsg te (gSub tl ti L2.rSetL) D σ H := by
  obtain ⟨x, hx, hm⟩ := bind_some hm
  obtain ⟨i, hi, hm⟩ := bind_some hm
  obtain ⟨es, he, hm⟩ := bind_some hm
  refine fe G H (Ext.refl hs) x hx _ fun q G1 H1 e1 oq => ?_
  refine r.rd _ _ (r.ext h0 e1) ?_
  refine si G1 H1 e1 i hi _ fun w G2 H2 e2 hwi => ?_
  have o2 := o.mono (e1.trans e2)
  have oq2 := (oq.mono e2).up z
  have hq : H q = none := oq.z
  have nq : q ∉ p :: qs := fun h => o.nes q h hq
  obtain ⟨vs, h1, l1, rs⟩ := o2.o.h
  have hlen := Paired.length o2.rows
  have hl2 := rs.len
  obtain ⟨n, a1, a2, a3⟩ : ∃ n, ixN ds.length i = some n ∧ n < ds.length ∧ setO ds i x = some (ds.set n x) := by
    unfold setO at he ⊢
    split at he
    · rename_i hc
      refine ⟨i.toNat, ?_, by omega, by rw [if_pos hc]⟩
      unfold ixN
      rw [if_pos hc.1, if_pos (by omega)]
    · rename_i hc
      split at he
      · rename_i hc2
        refine ⟨(i + ds.length).toNat, ?_, by omega, by rw [if_neg hc, if_pos hc2]⟩
        unfold ixN
        rw [if_neg (by omega), if_pos (by omega)]
      · cases he
  rw [a3] at he
  cases he
  have hj : ixN vs.length i = some n := by rw [hl2, ← hlen] at *; first | exact a1 | (rw [hlen]; exact a1)
  refine ⟨p, vs, i, n, rfl, hwi, h1, hj, ?_⟩
  have hn := List.nodup_cons.mp o2.nd
  have neq : q ≠ p := fun e => nq (e ▸ List.mem_cons_self)
  refine kont _ q n (.lst (vs.set n (.ref q))) G2 H2 (e1.trans e2) ⟨⟨o2.o.z, o2.o.g, _, upd_same, by rw [List.length_set]; exact l1, rs.set _ rfl⟩, ?_, ?_⟩ hq o2 hm
  · have r1 : Paired (fun q d => Own K H0 G2 (upd H2 p (.lst (vs.set n (.ref q)))) q d) qs ds := Pmap o2.rows fun z d hz hd => hd.off fun g => hn.1 (g ▸ hz)
    exact pset (Pmap o2.rows fun z d hz hd => hd.off fun g => hn.1 (g ▸ hz)) (oq2.off neq)
  · refine List.nodup_cons.mpr ⟨fun g => ?_, ?_⟩
    · rcases List.mem_or_eq_of_mem_set g with g | g
      · exact hn.1 g
      · exact neq g.symm
    · exact nodup_set1 hn.2 fun g => nq (List.mem_cons_of_mem _ g)
theorem mapO_at {γ δ : Type} {f : γ → Option δ} : ∀ {xs : List γ} {ys : List δ}, mapO f xs = some ys → ys.length = xs.length ∧ ∀ (k : Nat) (x : γ), xs[k]? = some x → ∃ y, f x = some y ∧ ys[k]? = some y
  | [], ys, h => by
    cases (show some [] = some ys from h)
    exact ⟨rfl, fun k x hx => by cases hx⟩
  | x :: xs, ys, h => by
    unfold mapO at h
    obtain ⟨y, h1, h⟩ := bind_some h
    obtain ⟨zs, h2, h⟩ := bind_some h
    cases h
    obtain ⟨l, g⟩ := mapO_at h2
    refine ⟨by rw [List.length_cons, List.length_cons, l], fun k u hu => ?_⟩
    cases k with
    | zero => cases hu; exact ⟨y, h1, rfl⟩
    | succ k => exact g k u hu
theorem own_refs {qs : List Nat} {G' H' : Hp} (o : Own K H0 G' H' p qs) : H' p = some (.lst (qs.map V.ref)) ∧ (qs.map V.ref).length ≤ sizeLine := by
  obtain ⟨vs, h, l, rs⟩ := o.h
  have e : vs = qs.map V.ref := by
    clear h l o
    induction rs with
    | nil => rfl
    | cons r _ ih => rw [ih, show _ = V.ref _ from r]; rfl
  rw [← e]
  exact ⟨h, l⟩
/-- a loop over the rows of a table of one's own, each row changed in place -/
theorem st_rd_rows {ds es : List (List α)} {f : List α → Option (List α)} {j : Nat} {t : TS} (r : Rd tl σ s ob p) (h0 : H s = some ob) (Rel : List (List α) → St → Hp → Hp → Prop) (hm : mapO f ds = some es)
    (hR : Rel ds σ G H) (hg : ∀ ds σ G' H', Rel ds σ G' H' → Own2 K H0 G' H' p qs ds)
    (hb : ∀ ds n d d' q σ G1 H1 N, Rel ds σ G1 H1 → ds[n]? = some d → qs[n]? = some q → f d = some d' → (∀ σ' G' H', Rel (ds.set n d') σ' G' H' → N σ' H') → t { D with nx := N, ct := N, bk := D.nx } (σ.set j (some (.ref q))) H1)
    (hd : ∀ σ G H, Rel es σ G H → D.nx σ H) : tFor (iList K tl) (gName j) t D σ H := by
  obtain ⟨hle, hat⟩ := mapO_at hm
  have o := hg _ _ _ _ hR
  have hql := Paired.length o.rows
  obtain ⟨hp, hl⟩ := own_refs o.o
  refine r.rd _ _ h0 ⟨p, rfl, ⟨_, SqL.of hp⟩, ?_⟩
  refine ⟨fun i m σ H => ∃ di G', Rel di σ G' H ∧ di.length = ds.length ∧ (∀ k, i ≤ k → di[k]? = ds[k]?) ∧ (∀ k, k < i → di[k]? = es[k]?) ∧ m = ds.length - i, ⟨_, ds, G, hR, rfl, fun _ _ => rfl, fun k hk => absurd hk (Nat.not_lt_zero k), rfl⟩, fun i m σ H ⟨di, G', hRi, hli, hi1, hi2, em⟩ => ?_⟩
  have oi := hg _ _ _ _ hRi
  obtain ⟨hpi, hl2⟩ := own_refs oi.o
  by_cases hi : i < ds.length
  · right
    have hq : i < qs.length := by omega
    have hqi : qs[i]? = some qs[i] := List.getElem?_eq_getElem hq
    have hv : (qs.map V.ref)[i]? = some (V.ref qs[i]) := by rw [List.getElem?_map, hqi]; rfl
    refine ⟨⟨_, _, SqL.of hpi, hv⟩, fun σ' H' => ∃ d', f ds[i] = some d' ∧ ∃ G', Rel (di.set i d') σ' G' H', fun σ' H' ⟨d', hf, G2, hR2⟩ => ?_, fun v H' ⟨eH, hy⟩ => ?_⟩
    · subst eH
      have eu := hy _ (SqL.of hpi)
      rw [hv] at eu
      cases eu
      obtain ⟨y, y1, y2⟩ := hat i _ (List.getElem?_eq_getElem hi)
      exact hb di i ds[i] y qs[i] σ G' H' _ hRi (by rw [hi1 i (Nat.le_refl i)]; exact List.getElem?_eq_getElem hi) hqi y1 fun σ' G2 H2 h => ⟨y, y1, G2, h⟩
    · obtain ⟨y, y1, y2⟩ := hat i _ (List.getElem?_eq_getElem hi)
      rw [hf] at y1
      cases y1
      refine ⟨m - 1, by omega, di.set i d', G2, hR2, by rw [List.length_set]; exact hli, fun k hk => ?_, fun k hk => ?_, by omega⟩
      · rw [List.getElem?_set_ne (by omega)]
        exact hi1 k (by omega)
      · by_cases e : k = i
        · subst e
          rw [List.getElem?_set_self (by omega), y2]
        · rw [List.getElem?_set_ne (by omega)]
          exact hi2 k (by omega)
  · left
    have e : di = es := List.ext_getElem? fun k => by
      by_cases hk : k < i
      · exact hi2 k hk
      · rw [hi1 k (by omega), List.getElem?_eq_none (by omega), List.getElem?_eq_none (by omega)]
    subst e
    exact ⟨⟨_, SqL.of hpi, by rw [List.length_map]; omega⟩, hd σ G' H hRi⟩
end
section
variable {α β : Type} [Rp α] [Rp β] {K : PySem.W.Frag} {σ : L2.St} {G H H0 : Hp} {s p : Addr} {ob : HO} {qs : List Nat} {tl te : TE}
/-- the list itself, where it is shown -/
theorem se_rd_val {x : α} (r : Rd tl σ s ob p) (h0 : H s = some ob) (hv : rep K G (.ref p) x) : SE K tl σ G H (some x) := fun G1 H1 e z hm Q q => by
  cases hm
  exact r.rd _ _ (r.ext h0 e) (q _ G1 H1 (Ext.refl e.s) (Rp.mono e.g hv))
theorem fe_tmp1 [NL β] {a : Addr} {vs : List V} {mb : Option (List β)} (g : G a = none) (hp : H a = some (.lst vs)) (h : FE K te σ (upd G a (.lst vs)) H mb) : FE K te σ G H mb := fun G1 H1 e r hm Q q => by
  have hp1 : H1 a = some (.lst vs) := e.h.k _ _ hp
  have g1 : G1 a = none := (e.a a (by rw [hp]; exact fun z => by cases z)).trans g
  refine h _ _ (ext_tmp e g hp g1) r hm Q fun p2 G2 H2 e2 x => ?_
  obtain ⟨h2, e3⟩ := ext_del e2 g1
  obtain ⟨ws, w1, w2, w3⟩ := x.h
  have hne : p2 ≠ a := fun hh => by
    have z := x.z
    rw [hh, hp1] at z
    cases z
  exact q p2 _ H2 e3 ⟨x.z, by rw [hpDel_ne hne]; exact x.g, ws, w1, w2, nl_reps (p := a) (us := vs) (by rw [hpDel_upd h2]; exact w3)⟩
theorem fe_tmpS [NL β] {mb : Option (List β)} : ∀ {as : List Nat}, as.Nodup → (∀ a ∈ as, ∃ vs, H a = some (.lst vs)) → (∀ a ∈ as, G a = none) → FE K te σ (Mi.shv as G H) H mb → FE K te σ G H mb
  | [], _, _, _, h => by
    have e : Mi.shv [] G H = G := funext fun b => shv_out List.not_mem_nil
    rw [e] at h
    exact h
  | a :: as, hn, hl, hg, h => by
    obtain ⟨vs, hp⟩ := hl a List.mem_cons_self
    have h2 := List.nodup_cons.mp hn
    have e : Mi.shv (a :: as) G H = upd (Mi.shv as G H) a (.lst vs) := funext fun b => by
      by_cases hb : b = a
      · subst hb
        rw [shv_in List.mem_cons_self, upd_same, hp]
      · rw [upd_ne hb]
        by_cases hm : b ∈ as
        · rw [shv_in hm, shv_in (List.mem_cons_of_mem _ hm)]
        · rw [shv_out hm, shv_out fun g => (List.mem_cons.mp g).elim hb hm]
    rw [e] at h
    refine fe_tmpS h2.2 (fun b hb => hl b (List.mem_cons_of_mem _ hb)) (fun b hb => hg b (List.mem_cons_of_mem _ hb)) (fe_tmp1 ?_ hp h)
    rw [shv_out h2.1]
    exact hg a List.mem_cons_self
/-- a new list made while a table of one's own is shown -/
theorem fe_tmpO2 [NL β] {ds : List (List α)} {mb : Option (List β)} (o : Own2 K H0 G H p qs ds) (h : Same G (Mi.shv (p :: qs) G H) → Rp.rep K (Mi.shv (p :: qs) G H) (.ref p) ds → FE K te σ (Mi.shv (p :: qs) G H) H mb) : FE K te σ G H mb :=
  fe_tmpS o.nd (fun a ha => by
    rcases List.mem_cons.mp ha with e | ha
    · rw [e]; exact o.o.lst
    · obtain ⟨d, hd⟩ := Pmem o.rows ha
      exact hd.lst) o.gs (h (same_shv o.gs) o.shown)
theorem fe2_tmp1 [NL β] {a : Addr} {vs : List V} {mb : Option (List (List β))} (g : G a = none) (hp : H a = some (.lst vs)) (h : FE2 K te σ (upd G a (.lst vs)) H mb) : FE2 K te σ G H mb := fun G1 H1 e r hm Q q => by
  have hp1 : H1 a = some (.lst vs) := e.h.k _ _ hp
  have g1 : G1 a = none := (e.a a (by rw [hp]; exact fun z => by cases z)).trans g
  refine h _ _ (ext_tmp e g hp g1) r hm Q fun p2 qs G2 H2 e2 x => ?_
  obtain ⟨h2, e3⟩ := ext_del e2 g1
  exact q p2 qs _ H2 e3 ⟨own_del h2 hp1 x.o, Pmap x.rows fun _ _ _ hd => own_del h2 hp1 hd, x.nd⟩
theorem fe2_tmpS [NL β] {mb : Option (List (List β))} : ∀ {as : List Nat}, as.Nodup → (∀ a ∈ as, ∃ vs, H a = some (.lst vs)) → (∀ a ∈ as, G a = none) → FE2 K te σ (Mi.shv as G H) H mb → FE2 K te σ G H mb
  | [], _, _, _, h => by
    have e : Mi.shv [] G H = G := funext fun b => shv_out List.not_mem_nil
    rw [e] at h
    exact h
  | a :: as, hn, hl, hg, h => by
    obtain ⟨vs, hp⟩ := hl a List.mem_cons_self
    have h2 := List.nodup_cons.mp hn
    have e : Mi.shv (a :: as) G H = upd (Mi.shv as G H) a (.lst vs) := funext fun b => by
      by_cases hb : b = a
      · subst hb
        rw [shv_in List.mem_cons_self, upd_same, hp]
      · rw [upd_ne hb]
        by_cases hm : b ∈ as
        · rw [shv_in hm, shv_in (List.mem_cons_of_mem _ hm)]
        · rw [shv_out hm, shv_out fun g => (List.mem_cons.mp g).elim hb hm]
    rw [e] at h
    refine fe2_tmpS h2.2 (fun b hb => hl b (List.mem_cons_of_mem _ hb)) (fun b hb => hg b (List.mem_cons_of_mem _ hb)) (fe2_tmp1 ?_ hp h)
    rw [shv_out h2.1]
    exact hg a List.mem_cons_self
/-- a new table made while a table of one's own is shown -/
theorem fe2_tmpO2 [NL β] {ds : List (List α)} {mb : Option (List (List β))} (o : Own2 K H0 G H p qs ds) (h : Same G (Mi.shv (p :: qs) G H) → Rp.rep K (Mi.shv (p :: qs) G H) (.ref p) ds → FE2 K te σ (Mi.shv (p :: qs) G H) H mb) : FE2 K te σ G H mb :=
  fe2_tmpS o.nd (fun a ha => by
    rcases List.mem_cons.mp ha with e | ha
    · rw [e]; exact o.o.lst
    · obtain ⟨d, hd⟩ := Pmem o.rows ha
      exact hd.lst) o.gs (h (same_shv o.gs) o.shown)
end
/-! ### a pair of a list and a table of one's own, taken apart, made -/
section
variable {α β : Type} [Rp α] [Rp β] {K : PySem.W.Frag} {σ : L2.St} {G H H0 : Hp} {i j l : Nat} {D : L2.Ends} {ta tb : TE}
theorem DJ.cons1 {p : Nat} {bs : List Nat} (n : p ∉ bs) : DJ [p] bs := fun a ha => by rw [List.mem_singleton.mp ha]; exact n
theorem st_unR {w : V} {d : List α × List (List β)} (hs : Vw G H) (hv : σ[l]? = some (some w)) (o : Own4 K H0 G H w d) (kont : ∀ p z qs, Own K H0 G H p d.1 → Own2 K H0 G H z qs d.2 → p ∉ z :: qs → D.nx ((σ.set i (some (.ref p))).set j (some (.ref z))) H) : tAsg (tVar l) (gTup K 2 (gCons (gName i) (gCons (gName j) gNil))) D σ H := by
  obtain ⟨t, p, z, qs, ew, ht, a, c, n⟩ := o
  subst ew
  exact ⟨.ref t, hv, t, [.ref p, .ref z], rfl, same_tup hs.s ht, rfl, .ref p, [.ref z], rfl, .ref z, [], rfl, rfl, kont p z qs a c n⟩
theorem se_tupFT {ma : Option (List α)} {mb : Option (List (List β))} (fa : FE K ta σ G H ma) (fb : FE2 K tb σ G H mb) : SE K (tTup (tCons ta (tCons tb tNil))) σ G H (ma.bind fun x => mb.bind fun y => some (x, y)) := fun G1 H1 e r hm Q q => by
  obtain ⟨x, hx, hm⟩ := bind_some hm
  obtain ⟨y, hy, hm⟩ := bind_some hm
  cases hm
  refine fa G1 H1 e x hx _ fun a G4 H4 e4 o4 => ?_
  refine fb G4 H4 (e.trans e4) y hy _ fun b bs G5 H5 e5 o5 => ⟨by show 2 ≤ sizeLine; decide, fun t nt => ?_⟩
  have e6 := Ext.new (o := .tup [.ref a, .ref b]) e5.s nt
  have o : Own4 K H1 _ _ (.ref t) (x, y) := ⟨t, a, b, bs, rfl, SqT.of upd_same, (o4.mono e5).mono e6, (o5.up e4.h).mono e6, fun h => o4.ne (o5.zs a h)⟩
  obtain ⟨G', e7, s, hr⟩ := o.show ((e4.trans e5).trans e6)
  exact q _ G' _ e7 hr
end
/-! ### powers of great numbers -/
def powBO (a b : Int) : Option Int := if 0 ≤ b ∧ (PySem.Builtin.Int.intBits a : Int) * b ≤ 2 ^ 27 then some (a ^ b.toNat) else none
def CPowB (i j : Int) : Prop := 0 ≤ j ∧ (PySem.Builtin.Int.intBits i : Int) * j ≤ 2 ^ 27
theorem op_powB {X : Cx} : OpR X (binaryOp .Pow) (rI CPowB fun i j => .int (i ^ j.toNat)) := opI fun _ _ _ _ _ _ _ hc q => PyProof.Rows.pow_int hc.1 hc.2 q
section
variable {K : PySem.W.Frag} {σ : L2.St} {G H : Hp} {ta tb : TE}
theorem ro_powB : RO K (rI CPowB fun i j => .int (i ^ j.toNat)) powBO := ro_i fun i j z h => by
  unfold powBO at h
  split at h
  · rename_i c
    exact ⟨c, (Option.some.inj h).symm⟩
  · cases h
theorem se_powB {m n : Option Int} (ha : SE K ta σ G H m) (hb : SE K tb σ G H n) : SE K (tOp (rI CPowB fun i j => .int (i ^ j.toNat)) ta tb) σ G H (m.bind fun x => n.bind fun y => powBO x y) := se_op (f := fun x y => powBO x y) ha hb ro_powB
theorem se_powBp {x y : Int} (ha : SE K ta σ G H (some x)) (hb : SE K tb σ G H (some y)) : SE K (tOp (rI CPowB fun i j => .int (i ^ j.toNat)) ta tb) σ G H (powBO x y) := se_opp (f := fun x y => powBO x y) ha hb ro_powB
end
/-! ### a loop that is broken off -/
section
variable {α ρ S R : Type} [Rp α] {K : PySem.W.Frag} {σ : L2.St} {G H Gs : Hp} {D : Ends} {t : TS}
theorem lg_RB {J : It} {g : TG} {xs : List α} {b : S → α → Option (Fl S R)} {s : S} {o : Sum S R} (Rel : S → St → Hp → Hp → Prop) (it : ItOk K J Gs xs) (hm : forR b xs s = some o) (h0 : Rel s σ Gs H) (hg : ∀ s σ G H, Rel s σ G H → Same Gs G ∧ Vw G H)
    (hb : ∀ s x f v σ G H G1 H1 N, x ∈ xs → Rel s σ G H → Ext G H G1 H1 → rep K G1 v x → b s x = some f → (∀ s' σ' G' H', f = .nx s' → Rel s' σ' G' H' → N σ' H') → (∀ s', f = .ex s' → o = .inl s') → (∀ x, f = .rt x → o = .inr x) → (∀ s' σ' G' H', f = .ex s' → Rel s' σ' G' H' → D.nx σ' H') → g v σ H1 fun σ2 H2 => t { D with nx := N, ct := N, bk := D.nx } σ2 H2)
    (hd : ∀ s' σ G H, o = .inl s' → Rel s' σ G H → D.nx σ H) : LG J g t D σ H :=
  lg_R Rel it hm h0 hg (fun s x f v σ G H G1 H1 N hx hR e hv hbx hN hX hRt => hb s x f v σ G H G1 H1 N hx hR e hv hbx hN hX hRt (fun s' σ' G' H' ef hr => hd s' σ' G' H' (hX s' ef) hr)) hd
end
/-! ### the mirrors of the class Turner -/
abbrev QF : Type := Int × Int
abbrev QT : Type := List (List (Int × Int))
def Mir.tn_swap {α : Type} (xs : List α) (a b : Int) : Option (List α) := (some a).bind fun i => (some b).bind fun k => (ixO xs i).bind fun x => (ixO xs k).bind fun y => (setO xs k x).bind fun es => setO es i y
def Mir.tn_exchange (tb cs : QT) (i j : Int) : Option (QT × QT) :=
  (Mir.tn_swap cs j i).bind fun cs' => (Mir.tn_swap tb j i).bind fun tb' => (mapO (fun row => Mir.tn_swap row j i) tb').bind fun tb'' => some (tb'', cs')
section
variable (lc : List QF → QF → List QF → Option (List QF)) (mi ti ov : QF → QF → Option QF)
def Mir.tn_row (j : Int) (many : QF) (k : Int) (row : List QF) : Option (List QF) :=
  (((some j).bind fun a => ixO row a).bind fun x0 => ((some many).bind fun y0 => ((some k).bind fun b => ixO row b).bind fun y1 => ti y0 y1).bind fun x1 => mi x0 x1).bind fun x => (some j).bind fun a => setO row a x
def Mir.tn_take (tb cs : QT) (j : Int) (many : QF) (k : Int) : Option (QT × QT) :=
  (((some j).bind fun a => ixO cs a).bind fun x0 => (some many).bind fun x1 => ((some k).bind fun b => ixO cs b).bind fun x2 => lc x0 x1 x2).bind fun x => (some j).bind fun a => (setO cs a x).bind fun cs' =>
  (((some tb).bind fun t => (some j).bind fun a => ixO t a).bind fun x0 => (some many).bind fun x1 => ((some tb).bind fun t => (some k).bind fun b => ixO t b).bind fun x2 => lc x0 x1 x2).bind fun x => (some j).bind fun a => (setO tb a x).bind fun tb' =>
  (mapO (Mir.tn_row mi ti j many k) tb').bind fun tb'' => some (tb'', cs')
end
def Mir.tn_from (tb : QT) (k : Int) : Option (Option Int) :=
  (rangeO k (tb.length : Int)).bind fun xs => (forR (fun (s1 : Unit) (j : Int) => (((some j).bind fun a => (some j).bind fun b => (ixO tb a).bind fun r => ixO r b).bind fun x => (some ((0, 1) : QF)).bind fun y => some (!decide (x = y))).bind fun b => cond b ((some (some j)).bind fun x => some (.rt x)) (some (.nx ()))) xs ()).bind fun o1 => Sum.elim (fun z1 => some none) (fun x => some x) o1
def Mir.tn_pair (tb : QT) (k : Int) : Option (Option (Int × Int)) :=
  (rangeO k (tb.length : Int)).bind fun xs => (forR (fun (s1 : Unit) (i : Int) => (rangeO (i + 1) (tb.length : Int)).bind fun ys => (forR (fun (s2 : Unit) (j : Int) => (((some i).bind fun a => (some j).bind fun b => (ixO tb a).bind fun r => ixO r b).bind fun x => (some ((0, 1) : QF)).bind fun y => some (!decide (x = y))).bind fun b => cond b ((some (some (i, j))).bind fun x => some (.rt x)) (some (.nx ()))) ys ()).bind fun o2 => Sum.elim (fun z2 => some (.nx ())) (fun x => some (.rt x)) o2) xs ()).bind fun o1 => Sum.elim (fun z1 => some none) (fun x => some x) o1
section
variable (lc : List QF → QF → List QF → Option (List QF)) (mi ti ov : QF → QF → Option QF)
def Mir.tn_bring2 (tb cs : QT) (k j : Int) : Option (Bool × QT × QT) :=
  (some (!decide (j = k))).bind fun b => cond b ((Mir.tn_exchange tb cs k j).bind fun r => some (true, r.1, r.2)) (some (true, tb, cs))
def Mir.tn_bring (tb cs : QT) (k : Int) : Option (Bool × QT × QT) :=
  (Mir.tn_from tb k).bind fun oj => (some oj.isNone).bind fun b => cond b
    ((Mir.tn_pair tb k).bind fun op => (some op.isNone).bind fun b => cond b (some (false, tb, cs)) (op.bind fun pr => (Mir.tn_take lc mi ti tb cs pr.1 (-1, 1) pr.2).bind fun r => Mir.tn_bring2 r.1 r.2 k pr.1))
    (oj.bind fun j => Mir.tn_bring2 tb cs k j)
def Mir.tn_clear (tb cs : QT) (k : Int) : Option (QT × QT) :=
  (rangeO (k + 1) (tb.length : Int)).bind fun xs => forN (fun (s : QT × QT) (j : Int) => ((((some k).bind fun a => (some j).bind fun b => (ixO s.1 a).bind fun r => ixO r b).bind fun x0 => ((some k).bind fun a => (some k).bind fun b => (ixO s.1 a).bind fun r => ixO r b).bind fun x1 => ov x0 x1)).bind fun many => Mir.tn_take lc mi ti s.1 s.2 j many k) xs (tb, cs)
end
section
variable (lc : List QF → QF → List QF → Option (List QF)) (mi ti ov : QF → QF → Option QF) (tn : QT → Option QT) (pl : Int → Option QT)
def Mir.tn_go (n : Nat) : Nat → QT → QT → Option (QT × QT)
  | 0, tb, cs => some (tb, cs)
  | m + 1, tb, cs => (Mir.tn_bring lc mi ti tb cs ((n - (m + 1) : Nat) : Int)).bind fun r => cond r.1 ((Mir.tn_clear lc mi ti ov r.2.1 r.2.2 ((n - (m + 1) : Nat) : Int)).bind fun s => Mir.tn_go n m s.1 s.2) (some (r.2.1, r.2.2))
def Mir.tn_upright (F : QT) : Option (List QF × QT) :=
  (pl (F.length : Int)).bind fun cs0 => (Mir.tn_go lc mi ti ov F.length F.length F cs0).bind fun s => ((rangeC 0 (F.length : Int)).bind fun xs => mapO (fun i => (some i).bind fun a => (some i).bind fun b => (ixO s.1 a).bind fun r => ixO r b) xs).bind fun ns => (tn s.2).bind fun ch => some (ns, ch)
end
end Mi

/-! MiTx: texts: their signs, parts, numbers written and read, the least of some. -/
namespace Mi
variable [Tbs]
open PySem L2
open Rp (rep)
/-! ### partial functions of plain Lean -/
def sgn (c : Nat) : Str := ⟨#[c]⟩
def lenS (x : Str) : Option Int := if x.length ≤ 16000000 then some (x.length : Int) else none
def ixS (x : Str) (i : Int) : Option Str := if x.length ≤ 16000000 then (ixO x.cps.toList i).bind fun c => some (sgn c) else none
def cutSO (x : Str) (lo hi : Option Int) : Option Str := if x.length ≤ 16000000 then some (cutS x lo hi) else none
def inS (x y : Str) : Bool := !(Builtin.Str.occurrences y x 0 y.length 1).isEmpty
def strI (i : Int) : Option Str := if i.natAbs.log2 < 1920 then some (Str.ofString (toString i)) else none
def intS (x : Str) : Option Int := if x.length ≤ 640 then PySem.intText? x else none
def splitO (x y : Str) : Option (List Str) := if (y.length == 0) = false ∧ x.length + 2 ≤ 16000000 ∧ (Txt.split x y).length ≤ 16000000 then some (Txt.split x y) else none
def partO (x y : Str) : Option (T3 Str Str Str) := if (y.length == 0) = false ∧ x.length ≤ 16000000 then some (T3.mk (Txt.partition x y).1 (Txt.partition x y).2.1 (Txt.partition x y).2.2) else none
def joinO (y : Str) (xs : List Str) : Option Str := if (xs.map (·.length)).sum + xs.length * y.length ≤ 16000000 then some (Txt.join y xs) else none
def idx0 (x y : Str) : Option Nat := match Builtin.Str.occurrences x y 0 x.length 1 with
  | k :: _ => some k
  | [] => none
def idxSO (x y : Str) : Option Int := (idx0 x y).bind fun k : Nat => some (k : Int)
def sgnsO (x : Str) : Option (List Str) := if x.length ≤ 16000000 then some (x.cps.toList.map sgn) else none
def minSO (xs : List Str) : Option Str := if 0 < xs.length then some (xs.getD (PySem.argBest (fun i j => decide ((xs.getD i Str.empty).cps.toList < (xs.getD j Str.empty).cps.toList)) (xs.length - 1)) Str.empty) else none
def maxSO (xs : List Str) : Option Str := if 0 < xs.length then some (xs.getD (PySem.argBest (fun i j => decide ((xs.getD j Str.empty).cps.toList < (xs.getD i Str.empty).cps.toList)) (xs.length - 1)) Str.empty) else none
def idxL (x : Str) : List Str → Option Nat
  | [] => none
  | y :: r => if y = x then some 0 else (idxL x r).map (· + 1)
def idxLO (xs : List Str) (x : Str) : Option Int := (idxL x xs).bind fun n : Nat => some (n : Int)
/-- all texts in it may be laid -/
class OkQ (α : Type) where
  ok : α → Bool
instance (priority := low) {α : Type} : OkQ α := ⟨fun _ => true⟩
instance : OkQ Str := ⟨fun x => (PyData.str x).canLay0⟩
instance {α : Type} [OkQ α] : OkQ (List α) := ⟨fun xs => xs.all OkQ.ok⟩
instance {α β : Type} [OkQ α] [OkQ β] : OkQ (α × β) := ⟨fun p => OkQ.ok p.1 && OkQ.ok p.2⟩
instance {α β γ : Type} [OkQ α] [OkQ β] [OkQ γ] : OkQ (T3 α β γ) := ⟨fun p => OkQ.ok p.a && (OkQ.ok p.b && OkQ.ok p.c)⟩
def memB {α : Type} [DecidableEq α] (x : α) (xs : List α) : Bool := decide (x ∈ xs)
def eqQO {α : Type} [OkQ α] [DecidableEq α] (x y : α) : Option Bool := if (OkQ.ok x && OkQ.ok y) = true then some (decide (x = y)) else none
def neQO {α : Type} [OkQ α] [DecidableEq α] (x y : α) : Option Bool := if (OkQ.ok x && OkQ.ok y) = true then some (!decide (x = y)) else none
theorem le16 {n : Nat} (h : n ≤ 16000000) : n ≤ sizeLine := by rw [sizeLine_eq]; omega
theorem atI_of_ixO {α : Type} {xs : List α} {i : Int} {x : α} (h : ixO xs i = some x) : atI xs i = some x := by
  unfold ixO at h
  unfold atI L2.ixN
  by_cases h0 : 0 ≤ i
  · rw [if_pos h0] at h ⊢
    have hl : i.toNat < xs.length := by
      rcases Nat.lt_or_ge i.toNat xs.length with g | g
      · exact g
      · rw [List.getElem?_eq_none g] at h; cases h
    rw [if_pos (by omega)]
    exact h
  · rw [if_neg h0] at h ⊢
    split at h
    · rename_i g
      rw [if_pos g]
      exact h
    · cases h
section
variable {K : PySem.W.Frag} {σ : L2.St} {G H : Hp} {te ta tb : TE}
theorem ro_ixS : RO K rIxS ixS := fun {G H v w x y z} s hv hw hz Q q => by
  unfold ixS at hz
  split at hz
  · rename_i hl
    obtain ⟨c, hc, e⟩ := bind_some hz
    cases e
    exact ⟨x, y, c, hv, hw, le16 hl, atI_of_ixO hc, q _ G H (Ext.refl s) rfl⟩
  · cases hz
theorem se_ixS {m : Option Str} {n : Option Int} (ha : SE K ta σ G H m) (hb : SE K tb σ G H n) : SE K (tOp rIxS ta tb) σ G H (m.bind fun x => n.bind fun y => ixS x y) := se_op (f := fun x y => ixS x y) ha hb ro_ixS
theorem se_ixSp {x : Str} {y : Int} (ha : SE K ta σ G H (some x)) (hb : SE K tb σ G H (some y)) : SE K (tOp rIxS ta tb) σ G H (ixS x y) := se_opp (f := fun x y => ixS x y) ha hb ro_ixS
theorem rc_lenS : RC1 K (fun xs H Q => ∃ z, xs = [.str z] ∧ z.length ≤ sizeLine ∧ Q (.int z.length) H) lenS := fun {G H v x z} s hv hz Q q => by
  unfold lenS at hz
  split at hz
  · rename_i hl
    cases hz
    exact ⟨x, by rw [show v = .str x from hv], le16 hl, q _ G H (Ext.refl s) rfl⟩
  · cases hz
theorem se_lenS {m : Option Str} (ha : SE K ta σ G H m) : SE K (tCB (fun xs H Q => ∃ z, xs = [.str z] ∧ z.length ≤ sizeLine ∧ Q (.int z.length) H) (tCons ta tNil)) σ G H (m.bind fun x => lenS x) := se_cb1 (f := lenS) ha rc_lenS
theorem se_lenSp {x : Str} (ha : SE K ta σ G H (some x)) : SE K (tCB (fun xs H Q => ∃ z, xs = [.str z] ∧ z.length ≤ sizeLine ∧ Q (.int z.length) H) (tCons ta tNil)) σ G H (lenS x) := se_cb1p (f := lenS) ha rc_lenS
theorem se_cutS {m : Option Str} {tlo thi : TO} {mlo mhi : Option (Option Int)} (h : SE K te σ G H m) (h1 : SO tlo σ G H mlo) (h2 : SO thi σ G H mhi) : SE K (tSl rSlS te tlo thi) σ G H (m.bind fun xs => mlo.bind fun lo => mhi.bind fun hi => cutSO xs lo hi) := fun G1 H1 e r hm Q q => by
  obtain ⟨xs, hx, hm⟩ := bind_some hm
  obtain ⟨lo, hlo, hm⟩ := bind_some hm
  obtain ⟨hi, hhi, hm⟩ := bind_some hm
  unfold cutSO at hm
  split at hm
  · rename_i hl
    cases hm
    refine h G1 H1 e xs hx _ fun v G2 H2 e2 hv => ?_
    refine h1 G2 H2 (e.trans e2) lo hlo _ fun G3 H3 e3 => ?_
    refine h2 G3 H3 ((e.trans e2).trans e3) hi hhi _ fun G4 H4 e4 => ?_
    exact ⟨xs, hv, le16 hl, q _ G4 H4 ((e2.trans e3).trans e4) rfl⟩
  · cases hm
theorem se_cutSp {x : Str} {tlo thi : TO} {lo hi : Option Int} (h : SE K te σ G H (some x)) (h1 : SO tlo σ G H (some lo)) (h2 : SO thi σ G H (some hi)) : SE K (tSl rSlS te tlo thi) σ G H (cutSO x lo hi) := se_cutS h h1 h2
theorem ro_inS : RO K (fun x y H Q => ∃ i j, x = .str i ∧ y = .str j ∧ Q (.bl (!(Builtin.Str.occurrences j i 0 j.length 1).isEmpty)) H) (fun x y => some (inS x y)) := fun {G H v w x y z} s hv hw hz Q q => by
  cases hz
  exact ⟨x, y, hv, hw, q _ G H (Ext.refl s) rfl⟩
theorem se_inS {m n : Option Str} (ha : SE K ta σ G H m) (hb : SE K tb σ G H n) : SE K (tOp (fun x y H Q => ∃ i j, x = .str i ∧ y = .str j ∧ Q (.bl (!(Builtin.Str.occurrences j i 0 j.length 1).isEmpty)) H) ta tb) σ G H (m.bind fun x => n.bind fun y => some (inS x y)) := se_op (f := fun x y => some (inS x y)) ha hb ro_inS
theorem se_inSp {x y : Str} (ha : SE K ta σ G H (some x)) (hb : SE K tb σ G H (some y)) : SE K (tOp (fun x y H Q => ∃ i j, x = .str i ∧ y = .str j ∧ Q (.bl (!(Builtin.Str.occurrences j i 0 j.length 1).isEmpty)) H) ta tb) σ G H (some (inS x y)) := se_opp (f := fun x y => some (inS x y)) ha hb ro_inS
theorem op_notIn_str2 {X : Cx} : OpR X (compareOp .NotIn) (fun x y H Q => ∃ i j, x = .str i ∧ y = .str j ∧ Q (.bl (!!(Builtin.Str.occurrences j i 0 j.length 1).isEmpty)) H) := by
  intro pins s σ H x y v u Q I rx ry h
  obtain ⟨c, z, rfl, rfl, q⟩ := h
  obtain ⟨t, rfl⟩ := rx
  obtain ⟨t', rfl⟩ := ry
  exact PyProof.Rows.notIn_str (fin_bl I q rfl)
theorem ro_notInS : RO K (fun x y H Q => ∃ i j, x = .str i ∧ y = .str j ∧ Q (.bl (!!(Builtin.Str.occurrences j i 0 j.length 1).isEmpty)) H) (fun x y => some (!inS x y)) := fun {G H v w x y z} s hv hw hz Q q => by
  cases hz
  exact ⟨x, y, hv, hw, q _ G H (Ext.refl s) rfl⟩
theorem se_notInS {m n : Option Str} (ha : SE K ta σ G H m) (hb : SE K tb σ G H n) : SE K (tOp (fun x y H Q => ∃ i j, x = .str i ∧ y = .str j ∧ Q (.bl (!!(Builtin.Str.occurrences j i 0 j.length 1).isEmpty)) H) ta tb) σ G H (m.bind fun x => n.bind fun y => some (!inS x y)) := se_op (f := fun x y => some (!inS x y)) ha hb ro_notInS
theorem se_notInSp {x y : Str} (ha : SE K ta σ G H (some x)) (hb : SE K tb σ G H (some y)) : SE K (tOp (fun x y H Q => ∃ i j, x = .str i ∧ y = .str j ∧ Q (.bl (!!(Builtin.Str.occurrences j i 0 j.length 1).isEmpty)) H) ta tb) σ G H (some (!inS x y)) := se_opp (f := fun x y => some (!inS x y)) ha hb ro_notInS
/-! ### numbers written, read -/
theorem rc_strI : RC1 K (fun xs H Q => ∃ i, xs = [.int i] ∧ i.natAbs.log2 < 1920 ∧ Q (.str (toString i)) H) strI := fun {G H v x z} s hv hz Q q => by
  unfold strI at hz
  split at hz
  · rename_i hl
    cases hz
    exact ⟨x, by rw [show v = .int x from hv], hl, q _ G H (Ext.refl s) rfl⟩
  · cases hz
theorem se_strI {m : Option Int} (ha : SE K ta σ G H m) : SE K (tCB (fun xs H Q => ∃ i, xs = [.int i] ∧ i.natAbs.log2 < 1920 ∧ Q (.str (toString i)) H) (tCons ta tNil)) σ G H (m.bind fun x => strI x) := se_cb1 (f := strI) ha rc_strI
theorem se_strIp {x : Int} (ha : SE K ta σ G H (some x)) : SE K (tCB (fun xs H Q => ∃ i, xs = [.int i] ∧ i.natAbs.log2 < 1920 ∧ Q (.str (toString i)) H) (tCons ta tNil)) σ G H (strI x) := se_cb1p (f := strI) ha rc_strI
theorem rc_intS : RC1 K (fun xs H Q => ∃ a n, xs = [.str a] ∧ PySem.intText? a = some n ∧ a.length ≤ 640 ∧ Q (.int n) H) intS := fun {G H v x z} s hv hz Q q => by
  unfold intS at hz
  split at hz
  · rename_i hl
    exact ⟨x, z, by rw [show v = .str x from hv], hz, hl, q _ G H (Ext.refl s) rfl⟩
  · cases hz
theorem se_intS {m : Option Str} (ha : SE K ta σ G H m) : SE K (tCB (fun xs H Q => ∃ a n, xs = [.str a] ∧ PySem.intText? a = some n ∧ a.length ≤ 640 ∧ Q (.int n) H) (tCons ta tNil)) σ G H (m.bind fun x => intS x) := se_cb1 (f := intS) ha rc_intS
theorem se_intSp {x : Str} (ha : SE K ta σ G H (some x)) : SE K (tCB (fun xs H Q => ∃ a n, xs = [.str a] ∧ PySem.intText? a = some n ∧ a.length ≤ 640 ∧ Q (.int n) H) (tCons ta tNil)) σ G H (intS x) := se_cb1p (f := intS) ha rc_intS
/-! ### cut up, put together -/
theorem reps_strs {G : Hp} : ∀ (xs : List Str), Reps K G (xs.map V.str) xs
  | [] => .nil
  | x :: xs => .cons rfl (reps_strs xs)
theorem fe_split {m n : Option Str} (ha : SE K ta σ G H m) (hb : SE K tb σ G H n) : FE K (tM1 (fun x xs H Q => ∃ a b, x = .str a ∧ xs = [.str b] ∧ (b.length == 0) = false ∧ a.length + 2 ≤ sizeLine ∧ rNewStrs (Txt.split a b) H Q) ta tb) σ G H (m.bind fun x => n.bind fun y => splitO x y) := fun G1 H1 e r hm Q q => by
  obtain ⟨x, hx, hm⟩ := bind_some hm
  obtain ⟨y, hy, hm⟩ := bind_some hm
  unfold splitO at hm
  split at hm
  · rename_i c
    cases hm
    refine ha G1 H1 e x hx _ fun v G2 H2 e2 hv => ?_
    refine ⟨⟨x, hv⟩, hb G2 H2 (e.trans e2) y hy _ fun u G3 H3 e3 hu => ?_⟩
    refine ⟨x, y, hv, by rw [show u = .str y from hu], c.1, le16 c.2.1, fun p np => ?_⟩
    have o := own_new (K := K) (vs := (Txt.split x y).map V.str) e3.s np (by rw [List.length_map]; exact le16 c.2.2) (reps_strs _)
    exact q p G3 _ ((e2.trans e3).trans (Ext.own e3.s np)) ⟨(e2.trans e3).h.free np, o.g, o.h⟩
  · cases hm
theorem fe_splitp {x y : Str} (ha : SE K ta σ G H (some x)) (hb : SE K tb σ G H (some y)) : FE K (tM1 (fun x xs H Q => ∃ a b, x = .str a ∧ xs = [.str b] ∧ (b.length == 0) = false ∧ a.length + 2 ≤ sizeLine ∧ rNewStrs (Txt.split a b) H Q) ta tb) σ G H (splitO x y) := fe_split ha hb
theorem se_part {m n : Option Str} (ha : SE K ta σ G H m) (hb : SE K tb σ G H n) : SE K (tM1 (fun x xs H Q => ∃ a b, x = .str a ∧ xs = [.str b] ∧ (b.length == 0) = false ∧ a.length ≤ sizeLine ∧
      ∀ p, H p = none → Q (.ref p) (upd H p (.tup [.str (Txt.partition a b).1, .str (Txt.partition a b).2.1, .str (Txt.partition a b).2.2]))) ta tb) σ G H (m.bind fun x => n.bind fun y => partO x y) := fun G1 H1 e r hm Q q => by
  obtain ⟨x, hx, hm⟩ := bind_some hm
  obtain ⟨y, hy, hm⟩ := bind_some hm
  unfold partO at hm
  split at hm
  · rename_i c
    cases hm
    refine ha G1 H1 e x hx _ fun v G2 H2 e2 hv => ?_
    refine ⟨⟨x, hv⟩, hb G2 H2 (e.trans e2) y hy _ fun u G3 H3 e3 hu => ?_⟩
    refine ⟨x, y, hv, by rw [show u = .str y from hu], c.1, le16 c.2, fun p np => ?_⟩
    have e4 := Ext.new (o := .tup [.str (Txt.partition x y).1, .str (Txt.partition x y).2.1, .str (Txt.partition x y).2.2]) e3.s np
    exact q _ _ _ ((e2.trans e3).trans e4) ⟨p, _, _, _, rfl, SqT.of upd_same, rfl, rfl, rfl⟩
  · cases hm
theorem se_partp {x y : Str} (ha : SE K ta σ G H (some x)) (hb : SE K tb σ G H (some y)) : SE K (tM1 (fun x xs H Q => ∃ a b, x = .str a ∧ xs = [.str b] ∧ (b.length == 0) = false ∧ a.length ≤ sizeLine ∧
      ∀ p, H p = none → Q (.ref p) (upd H p (.tup [.str (Txt.partition a b).1, .str (Txt.partition a b).2.1, .str (Txt.partition a b).2.2]))) ta tb) σ G H (partO x y) := se_part ha hb
theorem se_starts {m n : Option Str} (ha : SE K ta σ G H m) (hb : SE K tb σ G H n) : SE K (tM1 (fun x xs H Q => ∃ a b, x = .str a ∧ xs = [.str b] ∧ Q (.bl (Txt.startswith a b)) H) ta tb) σ G H (m.bind fun x => n.bind fun y => some (Txt.startswith x y)) := fun G1 H1 e r hm Q q => by
  obtain ⟨x, hx, hm⟩ := bind_some hm
  obtain ⟨y, hy, hm⟩ := bind_some hm
  cases hm
  refine ha G1 H1 e x hx _ fun v G2 H2 e2 hv => ?_
  refine ⟨⟨x, hv⟩, hb G2 H2 (e.trans e2) y hy _ fun u G3 H3 e3 hu => ?_⟩
  exact ⟨x, y, hv, by rw [show u = .str y from hu], q _ G3 H3 (e2.trans e3) rfl⟩
theorem se_startsp {x y : Str} (ha : SE K ta σ G H (some x)) (hb : SE K tb σ G H (some y)) : SE K (tM1 (fun x xs H Q => ∃ a b, x = .str a ∧ xs = [.str b] ∧ Q (.bl (Txt.startswith a b)) H) ta tb) σ G H (some (Txt.startswith x y)) := se_starts ha hb
theorem strs_reps {G : Hp} : ∀ {vs : List V} {xs : List Str}, Reps K G vs xs → vs = xs.map V.str
  | _, _, .nil => rfl
  | _, _, .cons h t => by
    rw [List.map_cons, strs_reps t]
    exact congrArg (· :: _) h
theorem se_join {m : Option Str} {n : Option (List Str)} (ha : SE K ta σ G H m) (hb : SE K tb σ G H n) : SE K (tM1 (fun x xs H Q => ∃ a p, ∃ ys : List Str, x = .str a ∧ xs = [.ref p] ∧ (SqL K H p (ys.map V.str) ∨ SqT K H p (ys.map V.str)) ∧
      (ys.map (·.length)).sum + ys.length * a.length ≤ 16777216 ∧ Q (.str (Txt.join a ys)) H) ta tb) σ G H (m.bind fun x => n.bind fun y => joinO x y) := fun G1 H1 e r hm Q q => by
  obtain ⟨x, hx, hm⟩ := bind_some hm
  obtain ⟨y, hy, hm⟩ := bind_some hm
  unfold joinO at hm
  split at hm
  · rename_i c
    cases hm
    refine ha G1 H1 e x hx _ fun v G2 H2 e2 hv => ?_
    refine ⟨⟨x, hv⟩, hb G2 H2 (e.trans e2) y hy _ fun u G3 H3 e3 ⟨a, vs, eu, hg, l, rs⟩ => ?_⟩
    have ev := strs_reps rs
    subst ev
    exact ⟨x, a, y, hv, by rw [eu], .inl (SqL.of (e3.s _ _ hg)), by omega, q _ G3 H3 (e2.trans e3) rfl⟩
  · cases hm
theorem se_joinp {x : Str} {y : List Str} (ha : SE K ta σ G H (some x)) (hb : SE K tb σ G H (some y)) : SE K (tM1 (fun x xs H Q => ∃ a p, ∃ ys : List Str, x = .str a ∧ xs = [.ref p] ∧ (SqL K H p (ys.map V.str) ∨ SqT K H p (ys.map V.str)) ∧
      (ys.map (·.length)).sum + ys.length * a.length ≤ 16777216 ∧ Q (.str (Txt.join a ys)) H) ta tb) σ G H (joinO x y) := se_join ha hb
theorem mt_indexF {X : Cx} : MtR X "str.index" (fun x xs H Q => ∃ (a b : Str) (k : Nat), x = .str a ∧ xs = [.str b] ∧ idx0 a b = some k ∧ Q (.int (k : Nat)) H) := by
  intro pins s σ H x xs v us Q I rx rs h
  obtain ⟨a, b, k, rfl, rfl, hk, hy⟩ := h
  obtain ⟨t, rfl⟩ := rx
  cases rs with
  | cons r1 rs =>
    cases rs
    obtain ⟨u, rfl⟩ := r1
    cases q : Builtin.Str.occurrences a b 0 a.length 1 with
    | nil =>
      unfold idx0 at hk
      rw [q] at hk
      cases hk
    | cons k' rest =>
      unfold idx0 at hk
      rw [q] at hk
      cases hk
      exact PySem.SC.index q ⟨.int (k : Nat), H, I.tok _, ⟨_, rfl⟩, hy⟩
theorem se_idxS {m n : Option Str} (ha : SE K ta σ G H m) (hb : SE K tb σ G H n) : SE K (tM1 (fun x xs H Q => ∃ (a b : Str) (k : Nat), x = .str a ∧ xs = [.str b] ∧ idx0 a b = some k ∧ Q (.int (k : Nat)) H) ta tb) σ G H (m.bind fun x => n.bind fun y => idxSO x y) := fun G1 H1 e r hm Q q => by
  obtain ⟨x, hx, hm⟩ := bind_some hm
  obtain ⟨y, hy, hm⟩ := bind_some hm
  obtain ⟨k, hk, hm⟩ := bind_some hm
  cases hm
  refine ha G1 H1 e x hx _ fun v G2 H2 e2 hv => ?_
  refine ⟨⟨x, hv⟩, hb G2 H2 (e.trans e2) y hy _ fun u G3 H3 e3 hu => ?_⟩
  exact ⟨x, y, k, hv, by rw [show u = .str y from hu], hk, q _ G3 H3 (e2.trans e3) rfl⟩
theorem se_idxSp {x y : Str} (ha : SE K ta σ G H (some x)) (hb : SE K tb σ G H (some y)) : SE K (tM1 (fun x xs H Q => ∃ (a b : Str) (k : Nat), x = .str a ∧ xs = [.str b] ∧ idx0 a b = some k ∧ Q (.int (k : Nat)) H) ta tb) σ G H (idxSO x y) := se_idxS ha hb
/-! ### signs one by one -/
theorem ib_str {m : Option Str} (h : SE K te σ G H m) : IB K (iStr te) σ G H (m.bind fun x => sgnsO x) := fun G1 H1 e xs hm R q => by
  obtain ⟨x, hx, hm⟩ := bind_some hm
  unfold sgnsO at hm
  split at hm
  · rename_i hl
    cases hm
    refine h G1 H1 e x hx _ fun v G2 H2 e2 hv => ?_
    have lx : x.cps.size = x.cps.toList.length := (Array.length_toList).symm
    refine ⟨x, hv, q _ G2 H2 e2 ⟨fun i G H s1 s2 hi => ?_, fun i y G H s1 s2 hi => ?_⟩ (by rw [List.length_map, ← lx]; exact le16 hl)⟩
    · show x.cps.size ≤ i
      rw [lx]
      have h3 := hi
      rw [List.length_map] at h3
      exact h3
    · rw [List.getElem?_map] at hi
      obtain ⟨c, hc, e3⟩ := Option.map_eq_some_iff.mp hi
      have hlt : i < x.cps.toList.length := by
        rcases Nat.lt_or_ge i x.cps.toList.length with g | g
        · exact g
        · rw [List.getElem?_eq_none g] at hc; cases hc
      refine ⟨by show i < x.cps.size; rw [lx]; exact hlt, fun v' H' ⟨e4, c', hc', ev⟩ => ?_⟩
      subst e4
      rw [← Array.getElem?_toList, hc] at hc'
      cases hc'
      exact ⟨G, Ext.refl s2, by rw [ev, ← e3]; rfl⟩
  · cases hm
/-! ### the least, the greatest, the place in a list -/
theorem strs_val {us : List Value} {xs : List Str} (h : PyProof.Rows.StrsAre us xs) (i : Nat) (v : Value) (hv : us.toArray[i]? = some v) : ∃ t, v = .str (xs.getD i Str.empty) t := SS.strs_at h i v (by rw [← hv]; simp)
theorem CmpOf.strs_lt {prog : Program} {w : World} {A : Around} {P : Nat → Value → Prop} (val : Nat → Str) (hval : ∀ i v, P i v → ∃ t, v = .str (val i) t) : PySem.CmpOf prog w A .Lt P (fun i j => decide ((val i).cps.toList < (val j).cps.toList)) := fun i j vi vj s Q E hi hj h => by
  obtain ⟨t, rfl⟩ := hval i vi hi
  obtain ⟨u, rfl⟩ := hval j vj hj
  exact PyProof.Rows.lt_str h
theorem CmpOf.strs_gt {prog : Program} {w : World} {A : Around} {P : Nat → Value → Prop} (val : Nat → Str) (hval : ∀ i v, P i v → ∃ t, v = .str (val i) t) : PySem.CmpOf prog w A .Gt P (fun i j => decide ((val j).cps.toList < (val i).cps.toList)) := fun i j vi vj s Q E hi hj h => by
  obtain ⟨t, rfl⟩ := hval i vi hi
  obtain ⟨u, rfl⟩ := hval j vj hj
  exact PySem.P.gt_str h
section
variable {prog : Program} {w : World} {A : Around} {E : Value → Shared → Prop} {s : Shared} {l : Addr} {its : Array Value}
theorem iter_items {Q : Value → Shared → Prop} (hl : s.heap.IsList l its)
    (h : ∀ s₂ : Shared, s₂ = { s with heap := s.heap.push { cls := .type "list_iterator", data := .fields #[.ref l, .int 0 0] } } →
      (s₂.heap.IsListIter s.heap.objs.size l 0 ∧ s₂.heap.IsList l its) → (∀ b ∈ [s.heap.objs.size, l], b < s₂.heap.objs.size) → l ≠ s.heap.objs.size → Q (.ref s.heap.objs.size) s₂) :
    wpAny (model prog w) A (pyIter (.ref l)) Q E s := by
  have hlt : l < s.heap.objs.size := by obtain ⟨_, e, _⟩ := hl; exact Heap.lt_size e
  refine wpAny_pyIter_list hl (h _ rfl ⟨⟨_, Heap.get?_push_size _ rfl, rfl, rfl⟩, hl.push _⟩ (fun b hb => ?_) (Nat.ne_of_lt hlt))
  show b < (s.heap.push _).objs.size
  rw [Heap.size_push]
  rcases List.mem_cons.mp hb with rfl | hb
  · exact Nat.lt_succ_self _
  · rcases List.mem_cons.mp hb with rfl | hb
    · exact Nat.lt_succ_of_lt hlt
    · cases hb
end
section
variable {X : Cx}
def rMinS (K : PySem.W.Frag) : List V → Hp → VK → Prop := fun vs H Q => ∃ (a : Addr) (xs : List Str) (y : Str), vs = [V.ref a] ∧ SqL K H a (xs.map V.str) ∧ minSO xs = some y ∧ Q (.str y) H
def rMaxS (K : PySem.W.Frag) : List V → Hp → VK → Prop := fun vs H Q => ∃ (a : Addr) (xs : List Str) (y : Str), vs = [V.ref a] ∧ SqL K H a (xs.map V.str) ∧ maxSO xs = some y ∧ Q (.str y) H
theorem cr_minS (hc : X.calm = true) : CallR X (.builtin "min") (rMinS X.K) := by
  intro pins s σ H vs us Q I r h
  obtain ⟨a, xs, y, rfl, hs, hm, q⟩ := h
  unfold minSO at hm
  split at hm
  · rename_i hne
    cases hm
    obtain ⟨its, rv, hl, _⟩ := I.list hs
    rw [Vals.ref1 r]
    have hi := rv.strs
    have hz : its.toArray.size = xs.length := by rw [List.size_toArray]; exact PyProof.Rows.StrsAre.len_eq hi
    refine PySem.call_min_walk (iter_items hl.isList fun s₂ e st hfp hlI => ?_)
    subst e
    refine ⟨_, _, _, _, _, _, _, rfl, PySem.Walks.list (A := X.A.in1) (I.ok.hd hc) _ a hlI its.toArray, st, hfp, by omega, CmpOf.strs_lt (fun i => xs.getD i Str.empty) (fun i v hv => strs_val hi i v hv), fun v h' tk hP hk => ?_⟩
    obtain ⟨t, rfl⟩ := strs_val hi _ v hP
    rw [hz]
    exact ⟨.str _, H, I.kept (PySem.old_kept hk), ⟨t, rfl⟩, q⟩
  · cases hm
theorem cr_maxS (hc : X.calm = true) : CallR X (.builtin "max") (rMaxS X.K) := by
  intro pins s σ H vs us Q I r h
  obtain ⟨a, xs, y, rfl, hs, hm, q⟩ := h
  unfold maxSO at hm
  split at hm
  · rename_i hne
    cases hm
    obtain ⟨its, rv, hl, _⟩ := I.list hs
    rw [Vals.ref1 r]
    have hi := rv.strs
    have hz : its.toArray.size = xs.length := by rw [List.size_toArray]; exact PyProof.Rows.StrsAre.len_eq hi
    refine PySem.call_max_walk (iter_items hl.isList fun s₂ e st hfp hlI => ?_)
    subst e
    refine ⟨_, _, _, _, _, _, _, rfl, PySem.Walks.list (A := X.A.in1) (I.ok.hd hc) _ a hlI its.toArray, st, hfp, by omega, CmpOf.strs_gt (fun i => xs.getD i Str.empty) (fun i v hv => strs_val hi i v hv), fun v h' tk hP hk => ?_⟩
    obtain ⟨t, rfl⟩ := strs_val hi _ v hP
    rw [hz]
    exact ⟨.str _, H, I.kept (PySem.old_kept hk), ⟨t, rfl⟩, q⟩
  · cases hm
end
theorem rc_minS : RC1 K (rMinS K) minSO := fun {G H v x z} s ⟨a, vs, ev, hg, l, rs⟩ hz Q q => by
  have e := strs_reps rs
  subst e
  exact ⟨a, x, z, by rw [ev], SqL.of (s _ _ hg), hz, q _ G H (Ext.refl s) rfl⟩
theorem rc_maxS : RC1 K (rMaxS K) maxSO := fun {G H v x z} s ⟨a, vs, ev, hg, l, rs⟩ hz Q q => by
  have e := strs_reps rs
  subst e
  exact ⟨a, x, z, by rw [ev], SqL.of (s _ _ hg), hz, q _ G H (Ext.refl s) rfl⟩
theorem se_minS {m : Option (List Str)} (ha : SE K ta σ G H m) : SE K (tCB (rMinS K) (tCons ta tNil)) σ G H (m.bind fun x => minSO x) := se_cb1 (f := minSO) ha rc_minS
theorem se_minSp {x : List Str} (ha : SE K ta σ G H (some x)) : SE K (tCB (rMinS K) (tCons ta tNil)) σ G H (minSO x) := se_cb1p (f := minSO) ha rc_minS
theorem se_maxS {m : Option (List Str)} (ha : SE K ta σ G H m) : SE K (tCB (rMaxS K) (tCons ta tNil)) σ G H (m.bind fun x => maxSO x) := se_cb1 (f := maxSO) ha rc_maxS
theorem se_maxSp {x : List Str} (ha : SE K ta σ G H (some x)) : SE K (tCB (rMaxS K) (tCons ta tNil)) σ G H (maxSO x) := se_cb1p (f := maxSO) ha rc_maxS
theorem idxL_at {x : Str} : ∀ {xs : List Str} {j : Nat}, idxL x xs = some j → xs[j]? = some x ∧ ∀ m, m < j → xs[m]? ≠ some x
  | [], j, h => by cases h
  | y :: r, j, h => by
    unfold idxL at h
    split at h
    · rename_i e
      cases h
      exact ⟨by rw [e]; rfl, fun m hm => absurd hm (by omega)⟩
    · rename_i e
      obtain ⟨i, hi, rfl⟩ := Option.map_eq_some_iff.mp h
      obtain ⟨h1, h2⟩ := idxL_at hi
      refine ⟨h1, fun m hm => ?_⟩
      cases m with
      | zero => exact fun z => e (Option.some.inj z)
      | succ m => exact h2 m (by omega)
theorem se_idxL {m : Option (List Str)} {n : Option Str} (h : SE K te σ G H m) (ha : SE K ta σ G H n) : SE K (tBM K "list" (rIndex K) te (tCons ta tNil)) σ G H (m.bind fun xs => n.bind fun b => idxLO xs b) := fun G1 H1 e r hm Q q => by
  obtain ⟨xs, hx, hm⟩ := bind_some hm
  obtain ⟨b, hb, hm⟩ := bind_some hm
  obtain ⟨j, hj, hm⟩ := bind_some hm
  cases hm
  obtain ⟨h1, h2⟩ := idxL_at hj
  refine h G1 H1 e xs hx _ fun v G2 H2 e2 ⟨a, vs, ea, hg, l, rs⟩ => ?_
  have e3 := strs_reps rs
  subst e3 ea
  refine ⟨.inl ⟨rfl, _, SqL.of (e2.s _ _ hg)⟩, ha G2 H2 (e.trans e2) b hb _ fun u G3 H3 e4 ru => ?_⟩
  have ru : u = .str b := ru
  subst ru
  refine ⟨a, xs.map V.str, .str b, j, .str b, rfl, rfl, SqL.of (e4.s _ _ (e4.g _ _ hg)), rfl, ?_, ?_, ?_, fun m z hm hz => ?_, q _ G3 H3 (e2.trans e4) rfl⟩
  · rw [List.all_eq_true]
    intro v hv
    obtain ⟨i, _, rfl⟩ := List.mem_map.mp hv
    rfl
  · rw [List.getElem?_map, h1]
    rfl
  · show (b == b) = true
    exact beq_self_eq_true b
  · rw [List.getElem?_map] at hz
    obtain ⟨i, hi, rfl⟩ := Option.map_eq_some_iff.mp hz
    show (i == b) = false
    exact beq_eq_false_iff_ne.mpr fun e => h2 m hm (by rw [hi, e])
theorem se_idxLp {xs : List Str} {b : Str} (h : SE K te σ G H (some xs)) (ha : SE K ta σ G H (some b)) : SE K (tBM K "list" (rIndex K) te (tCons ta tNil)) σ G H (idxLO xs b) := se_idxL h ha
end
/-! ### the last two of three -/
section
variable {α β γ : Type} [Rp α] [Rp β] [Rp γ] {K : PySem.W.Frag} {σ : L2.St} {G H : Hp} {te : TE}
theorem se_tsl3 {m : Option (T3 α β γ)} (h : SE K te σ G H m) : SE K (tSl (rSlA K) te (tPart (tC (.int 1))) tNoPart) σ G H (m.bind fun t => some (t.b, t.c)) := fun G1 H1 e r hm Q q => by
  obtain ⟨t, ht, hm⟩ := bind_some hm
  cases hm
  refine h G1 H1 e t ht _ fun v G2 H2 e2 ⟨a, x, y, z, ev, hg, h1, h2, h3⟩ => ?_
  refine ⟨1, rfl, a, [x, y, z], ev, same_tup e2.s hg, fun c => absurd (show (1 : Nat) = 0 from c.1) (by decide), fun _ p np => ?_⟩
  have e4 := Ext.new (o := .tup [y, z]) e2.s np
  exact q _ _ _ (e2.trans e4) ⟨p, y, z, rfl, SqT.of upd_same, Rp.mono e4.g h2, Rp.mono e4.g h3⟩
theorem se_tsl3p {t : T3 α β γ} (h : SE K te σ G H (some t)) : SE K (tSl (rSlA K) te (tPart (tC (.int 1))) tNoPart) σ G H (some (t.b, t.c)) := se_tsl3 h
end
/-! ### == of data with texts in it; in a list of data -/
instance : RpF Str := ⟨fun h => by rw [show _ = V.str _ from h]; rfl, fun {_ _ _ _ x y} h h' => by
  rw [show _ = V.str _ from h, show _ = V.str _ from h']
  show (x == y) = _
  rw [Bool.eq_iff_iff]
  simp⟩
instance : RpTy Str := ⟨"str", fun _ h => by rw [show _ = V.str _ from h]; exact .base (.str _)⟩
theorem sl_tupAK {X : Cx} {K : PySem.W.Frag} (h : X.K = K) : SlR X (rSlA K) := h ▸ sl_tupA
theorem hu65 {k : Nat} {A : Around} (h : Room k A) : A.units + 65 < cLine := by have := h.un; omega
class RpQ (α : Type) [Rp α] [DecidableEq α] [OkQ α] where
  py : α → PyData
  dp : ∀ {K : PySem.W.Frag} {G H : Hp} {v : V} {x : α}, Vw G H → rep K G v x → Dp K H v (py x)
  eqv : ∀ x y : α, PyData.eqv (py x) (py y) = decide (x = y)
  lay : ∀ x : α, OkQ.ok x = true → (py x).canLay0 = true
  dep : Nat
  depth : ∀ x : α, (py x).depth ≤ dep
instance (priority := low) {α : Type} [Rp α] [DecidableEq α] [OkQ α] [RpD α] : RpQ α := ⟨RpD.py, RpD.dp, RpD.eqv, fun x _ => RpD.lay x, RpD.dep α, RpD.depth⟩
instance : RpQ Str := ⟨.str, fun _ h => by rw [show _ = V.str _ from h]; exact .str _, fun x y => by
  show (x == y) = _
  rw [Bool.eq_iff_iff]
  simp, fun _ h => h, 0, fun _ => Nat.le_refl 0⟩
section
variable {α β γ : Type} [Rp α] [DecidableEq α] [OkQ α] [RpQ α] [Rp β] [DecidableEq β] [OkQ β] [RpQ β] [Rp γ] [DecidableEq γ] [OkQ γ] [RpQ γ]
theorem dallQ {K : PySem.W.Frag} {G H : Hp} (s : Vw G H) : ∀ {vs : List V} {ds : List α}, Reps K G vs ds → DpAll K H vs (ds.map RpQ.py)
  | _, _, .nil => .nil
  | _, _, .cons r t => .cons (RpQ.dp s r) (dallQ s t)
theorem eqvAllQ : ∀ xs ys : List α, PyData.eqvAll (xs.map RpQ.py) (ys.map RpQ.py) = decide (xs = ys)
  | [], [] => rfl
  | [], _ :: _ => rfl
  | _ :: _, [] => rfl
  | x :: xs, y :: ys => by
    show (PyData.eqv (RpQ.py x) (RpQ.py y) && PyData.eqvAll (xs.map RpQ.py) (ys.map RpQ.py)) = _
    rw [eqvAllQ xs ys, RpQ.eqv, Bool.eq_iff_iff]
    simp
theorem layAllQ : ∀ xs : List α, xs.all OkQ.ok = true → PyData.canLayAll0 (xs.map RpQ.py) = true
  | [], _ => rfl
  | x :: xs, h => by
    rw [List.all_cons, Bool.and_eq_true] at h
    show (PyData.canLay0 (RpQ.py x) && PyData.canLayAll0 (xs.map RpQ.py)) = true
    rw [layAllQ xs h.2, RpQ.lay x h.1]
    rfl
theorem depAllQ : ∀ xs : List α, PyData.depthAll (xs.map RpQ.py) ≤ RpQ.dep α
  | [] => Nat.zero_le _
  | x :: xs => by
    show max (PyData.depth (RpQ.py x)) (PyData.depthAll (xs.map RpQ.py)) ≤ _
    exact Nat.max_le.mpr ⟨RpQ.depth x, depAllQ xs⟩
instance : RpQ (List α) := ⟨fun xs => .list (xs.map RpQ.py), fun s ⟨a, vs, e, h, _, r⟩ => by
  rw [e]
  exact .lst (SqL.of (s _ _ h)) (dallQ s r), fun x y => eqvAllQ x y, fun x h => layAllQ x h, RpQ.dep α + 1, fun x => Nat.succ_le_succ (depAllQ x)⟩
instance : RpQ (α × β) := ⟨fun p => .tuple [RpQ.py p.1, RpQ.py p.2], fun s ⟨a, x, y, e, h, h1, h2⟩ => by
  rw [e]
  exact .tup (same_tup s h) (.cons (RpQ.dp s h1) (.cons (RpQ.dp s h2) .nil)), fun x y => by
  rw [eqv2, RpQ.eqv, RpQ.eqv, Bool.eq_iff_iff]
  simp [Prod.ext_iff], fun x h => by
  have h : (OkQ.ok x.1 && OkQ.ok x.2) = true := h
  rw [Bool.and_eq_true] at h
  show (PyData.canLay0 (RpQ.py x.1) && (PyData.canLay0 (RpQ.py x.2) && true)) = true
  rw [RpQ.lay _ h.1, RpQ.lay _ h.2]
  rfl, max (RpQ.dep α) (RpQ.dep β) + 1, fun x => by
  show max (PyData.depth (RpQ.py x.1)) (max (PyData.depth (RpQ.py x.2)) 0) + 1 ≤ _
  have h1 := RpQ.depth x.1
  have h2 := RpQ.depth x.2
  omega⟩
theorem eqvQ3 {a b c a' b' c' : PyData} : PyData.eqv (.tuple [a, b, c]) (.tuple [a', b', c']) = (PyData.eqv a a' && (PyData.eqv b b' && PyData.eqv c c')) := by
  show (PyData.eqv a a' && (PyData.eqv b b' && (PyData.eqv c c' && true))) = _
  rw [Bool.and_true]
instance : RpQ (T3 α β γ) := ⟨fun p => .tuple [RpQ.py p.a, RpQ.py p.b, RpQ.py p.c], fun s ⟨a, x, y, z, e, h, h1, h2, h3⟩ => by
  rw [e]
  exact .tup (same_tup s h) (.cons (RpQ.dp s h1) (.cons (RpQ.dp s h2) (.cons (RpQ.dp s h3) .nil))), fun x y => by
  rw [eqvQ3, RpQ.eqv, RpQ.eqv, RpQ.eqv, Bool.eq_iff_iff]
  cases x
  cases y
  simp, fun x h => by
  have h : (OkQ.ok x.a && (OkQ.ok x.b && OkQ.ok x.c)) = true := h
  rw [Bool.and_eq_true, Bool.and_eq_true] at h
  show (PyData.canLay0 (RpQ.py x.a) && (PyData.canLay0 (RpQ.py x.b) && (PyData.canLay0 (RpQ.py x.c) && true))) = true
  rw [RpQ.lay _ h.1, RpQ.lay _ h.2.1, RpQ.lay _ h.2.2]
  rfl, max (RpQ.dep α) (max (RpQ.dep β) (RpQ.dep γ)) + 1, fun x => by
  show max (PyData.depth (RpQ.py x.a)) (max (PyData.depth (RpQ.py x.b)) (max (PyData.depth (RpQ.py x.c)) 0)) + 1 ≤ _
  have h1 := RpQ.depth x.a
  have h2 := RpQ.depth x.b
  have h3 := RpQ.depth x.c
  omega⟩
theorem shapedQ (x : α) (h : RpQ.dep α ≤ 64) (hk : OkQ.ok x = true) : SeqAt.shaped (RpQ.py x) = true := by
  unfold SeqAt.shaped
  rw [RpQ.lay x hk, Bool.true_and, decide_eq_true_eq]
  exact Nat.le_trans (RpQ.depth x) h
variable {K : PySem.W.Frag} {σ : L2.St} {G H : Hp} {ta tb : TE}
theorem ro_eqQ (h : RpQ.dep α ≤ 64) : RO K (rEqD K) (fun (x y : α) => eqQO x y) := fun {G H v w x y z} s hv hw hz Q q => by
  have hz : (if (OkQ.ok x && OkQ.ok y) = true then some (decide (x = y)) else none) = some z := hz
  split at hz
  · rename_i c
    rw [Bool.and_eq_true] at c
    cases hz
    exact ⟨RpQ.py x, RpQ.py y, RpQ.dp s hv, RpQ.dp s hw, shapedQ x h c.1, shapedQ y h c.2, by rw [RpQ.eqv]; exact q _ G H (Ext.refl s) rfl⟩
  · cases hz
theorem ro_neQ (h : RpQ.dep α ≤ 64) : RO K (rNeD K) (fun (x y : α) => neQO x y) := fun {G H v w x y z} s hv hw hz Q q => by
  have hz : (if (OkQ.ok x && OkQ.ok y) = true then some (!decide (x = y)) else none) = some z := hz
  split at hz
  · rename_i c
    rw [Bool.and_eq_true] at c
    cases hz
    exact ⟨RpQ.py x, RpQ.py y, RpQ.dp s hv, RpQ.dp s hw, shapedQ x h c.1, shapedQ y h c.2, by rw [RpQ.eqv]; exact q _ G H (Ext.refl s) rfl⟩
  · cases hz
theorem se_eqQ {m n : Option α} (ha : SE K ta σ G H m) (hb : SE K tb σ G H n) (hd : RpQ.dep α ≤ 64 := by first | decide | exact Nat.le_of_ble_eq_true rfl) : SE K (tOp (rEqD K) ta tb) σ G H (m.bind fun x => n.bind fun y => eqQO x y) := se_op (f := fun x y => eqQO x y) ha hb (ro_eqQ hd)
theorem se_eqQp {x y : α} (ha : SE K ta σ G H (some x)) (hb : SE K tb σ G H (some y)) (hd : RpQ.dep α ≤ 64 := by first | decide | exact Nat.le_of_ble_eq_true rfl) : SE K (tOp (rEqD K) ta tb) σ G H (eqQO x y) := se_opp (f := fun x y => eqQO x y) ha hb (ro_eqQ hd)
theorem se_neQ {m n : Option α} (ha : SE K ta σ G H m) (hb : SE K tb σ G H n) (hd : RpQ.dep α ≤ 64 := by first | decide | exact Nat.le_of_ble_eq_true rfl) : SE K (tOp (rNeD K) ta tb) σ G H (m.bind fun x => n.bind fun y => neQO x y) := se_op (f := fun x y => neQO x y) ha hb (ro_neQ hd)
theorem se_neQp {x y : α} (ha : SE K ta σ G H (some x)) (hb : SE K tb σ G H (some y)) (hd : RpQ.dep α ≤ 64 := by first | decide | exact Nat.le_of_ble_eq_true rfl) : SE K (tOp (rNeD K) ta tb) σ G H (neQO x y) := se_opp (f := fun x y => neQO x y) ha hb (ro_neQ hd)
end
section
variable {α : Type} [Rp α] [DecidableEq α] [RpD α] {K : PySem.W.Frag} {σ : L2.St} {G H : Hp} {ta tb : TE}
theorem any_eqv (x : α) : ∀ ys : List α, ((ys.map RpD.py).any fun z => PyData.eqv z (RpD.py x)) = memB x ys
  | [] => rfl
  | y :: ys => by
    rw [List.map_cons, List.any_cons, any_eqv x ys, RpD.eqv, Bool.eq_iff_iff]
    unfold memB
    simp only [Bool.or_eq_true, decide_eq_true_eq, List.mem_cons]
    exact ⟨fun h => h.imp Eq.symm _root_.id, fun h => h.imp Eq.symm _root_.id⟩
theorem ro_inD2 (h : RpD.dep α + 1 ≤ 64) : RO K (rInD K) (fun (x : α) (y : List α) => some (memB x y)) := fun {G H v w x y z} s hv hw hz Q q => by
  cases (show some _ = some z from hz)
  exact ⟨RpD.py x, y.map RpD.py, RpD.dp s hv, RpD.dp s hw, shaped_of x (by omega), shaped_of y h, by rw [any_eqv]; exact q _ G H (Ext.refl s) rfl⟩
theorem ro_notInD2 (h : RpD.dep α + 1 ≤ 64) : RO K (rNotInD K) (fun (x : α) (y : List α) => some (!memB x y)) := fun {G H v w x y z} s hv hw hz Q q => by
  cases (show some _ = some z from hz)
  exact ⟨RpD.py x, y.map RpD.py, RpD.dp s hv, RpD.dp s hw, shaped_of x (by omega), shaped_of y h, by rw [any_eqv]; exact q _ G H (Ext.refl s) rfl⟩
theorem se_inD2 {m : Option α} {n : Option (List α)} (ha : SE K ta σ G H m) (hb : SE K tb σ G H n) (hd : RpD.dep α + 1 ≤ 64 := by first | decide | exact Nat.le_of_ble_eq_true rfl) : SE K (tOp (rInD K) ta tb) σ G H (m.bind fun x => n.bind fun y => some (memB x y)) := se_op (f := fun x y => some (memB x y)) ha hb (ro_inD2 hd)
theorem se_inD2p {x : α} {y : List α} (ha : SE K ta σ G H (some x)) (hb : SE K tb σ G H (some y)) (hd : RpD.dep α + 1 ≤ 64 := by first | decide | exact Nat.le_of_ble_eq_true rfl) : SE K (tOp (rInD K) ta tb) σ G H (some (memB x y)) := se_opp (f := fun x y => some (memB x y)) ha hb (ro_inD2 hd)
theorem se_notInD2 {m : Option α} {n : Option (List α)} (ha : SE K ta σ G H m) (hb : SE K tb σ G H n) (hd : RpD.dep α + 1 ≤ 64 := by first | decide | exact Nat.le_of_ble_eq_true rfl) : SE K (tOp (rNotInD K) ta tb) σ G H (m.bind fun x => n.bind fun y => some (!memB x y)) := se_op (f := fun x y => some (!memB x y)) ha hb (ro_notInD2 hd)
theorem se_notInD2p {x : α} {y : List α} (ha : SE K ta σ G H (some x)) (hb : SE K tb σ G H (some y)) (hd : RpD.dep α + 1 ≤ 64 := by first | decide | exact Nat.le_of_ble_eq_true rfl) : SE K (tOp (rNotInD K) ta tb) σ G H (some (!memB x y)) := se_opp (f := fun x y => some (!memB x y)) ha hb (ro_notInD2 hd)
end
/-! ### a value and a table of one's own, as a pair -/
section
variable {α β ρ : Type} [Rp α] [Rp β] {K : PySem.W.Frag} {σ : L2.St} {G H H0 G1 H1 : Hp} {w : V} {d : α × List (List β)} {i : Nat} {D : L2.Ends} {te : TE} {out : ρ}
theorem RVT.mono (x : RVT K H0 G H w d) (e : Ext G H G1 H1) : RVT K H0 G1 H1 w d := by
  obtain ⟨t, y, z, qs, ew, h, hy, c⟩ := x
  exact ⟨t, y, z, qs, ew, same_tup e.g h, Rp.mono e.g hy, c.mono e⟩
theorem RVT.up (x : RVT K H G1 H1 w d) (s : HK H0 H) : RVT K H0 G1 H1 w d := rvtm _ _ s _ _ _ _ x
theorem st_setS {m : Option (α × List (List β))} {kk : α × List (List β) → Option ρ} (hs : Vw G H) (se : XE (RVT K) te σ G H m) (hm : m.bind kk = some out) (kont : ∀ x w G1 H1, Ext G H G1 H1 → RVT K H G1 H1 w x → kk x = some out → D.nx (σ.set i (some w)) H1) : tAsg te (gName i) D σ H := by
  obtain ⟨x, hx, hk⟩ := bind_some hm
  exact se G H (Ext.refl hs) x hx _ fun u G1 H1 e o => kont x u G1 H1 e o hk
theorem st_tmpS {m : Option Bool} {tt : TT} (o : RVT K H0 G H w d) (h : ∀ G', Same G G' → rep K G' w d → ST tt σ G' H m) : ST tt σ G H m := by
  obtain ⟨t, y, z, qs, ew, ht, hy, c⟩ := o
  subst ew
  refine st_tmp2 c fun s3 r3 => ?_
  exact h _ s3 ⟨t, y, .ref z, rfl, same_tup s3 ht, Rp.mono s3 hy, r3⟩
theorem st_clrS0 {kk : α × List (List β) → Option ρ} (hs : Vw G H) (hv : σ[i]? = some (some w)) (o : RVT K H0 G H w d) (hm : ((clr2O d.2 0).bind fun y => some (d.1, y)).bind kk = some out)
    (kont : ∀ d' p h, RVT K H0 G (upd H p h) w d' → H0 p = none → G p = none → PnAt H p → kk d' = some out → D.nx σ (upd H p h)) : tDrop (tBM0 K "list" rClear (tOp (rIxL K) (tOp (rIxT K) (tVar i) (tC (.int 1))) (tC (.int 0)))) D σ H := by
  obtain ⟨t, y, z, qs, ew, ht, hy, c⟩ := o
  obtain ⟨d2, hd, hm⟩ := bind_some hm
  obtain ⟨es, he, hd2⟩ := bind_some (show (clr2O d.2 0).bind (fun y => some (d.1, y)) = some d2 from hd)
  cases hd2
  unfold clr2O at he
  obtain ⟨r, hr, he⟩ := bind_some he
  obtain ⟨vs, q', n, h1, h2, h3, h4, h5, h6⟩ := c.item hr
  rw [h6] at he
  cases he
  obtain ⟨ws, g1, g2, g3⟩ := h5.h
  refine ⟨w, hv, t, [y, .ref z], 1, .ref z, ew, rfl, same_tup hs.s ht, rfl, ?_⟩
  refine ⟨z, vs, 0, .ref q', rfl, rfl, SqL.of h1, h2, .inl ⟨rfl, _, SqL.of g1⟩, q', ws, rfl, rfl, g1, ?_⟩
  exact kont (d.1, d.2.set n []) q' _ ⟨t, y, z, qs, ew, ht, hy, c.put h3 ⟨h5.z, h5.g, _, upd_same, Nat.zero_le _, .nil⟩⟩ h5.z h5.g h5.pn hm
/-- a row put behind the table; the pair is not read any more -/
theorem st_appS {m : Option (List β)} {kk : List (List β) → Option ρ} (hs : Vw G H) (hv : σ[i]? = some (some w)) (o : RVT K H0 G H w d) (se : FE K te σ G H m) (hm : (m.bind fun x => (appO d.2 x).bind kk) = some out)
    (kont : ∀ p h G1 H1 es, Ext G H G1 H1 → H0 p = none → G1 p = none → PnAt H1 p → kk es = some out → D.nx σ (upd H1 p h)) : tDrop (tBM K "list" rAppend (tOp (rIxT K) (tVar i) (tC (.int 1))) (tCons te tNil)) D σ H := by
  obtain ⟨t, y, z, qs, ew, ht, hy, c⟩ := o
  obtain ⟨x, hx, hm⟩ := bind_some hm
  obtain ⟨es, he, hm⟩ := bind_some hm
  unfold appO at he
  split at he
  · rename_i hl
    cases he
    obtain ⟨vs0, g0, l0, rs0⟩ := c.o.h
    refine ⟨w, hv, t, [y, .ref z], 1, .ref z, ew, rfl, same_tup hs.s ht, rfl, .inl ⟨rfl, _, SqL.of g0⟩, ?_⟩
    refine se G H (Ext.refl hs) x hx _ fun q G1 H1 e1 hw => ?_
    have o1 := c.mono e1
    obtain ⟨vs, h1, l1, rs⟩ := o1.o.h
    have ll : vs.length < 16000000 := by
      rw [rs.len, Paired.length o1.rows]
      exact hl
    refine ⟨z, vs, .ref q, rfl, rfl, h1, Nat.lt_of_lt_of_le ll (by decide), ?_⟩
    exact kont z _ G1 H1 _ e1 o1.o.z o1.o.g o1.o.pn hm
  · cases he
end
end Mi

namespace Mi
open PySem
namespace Mir
def c_FIGURES_ : Str := Str.ofString "0123456789"
def c_LETTERS_ : Str := Str.ofString "abcdefghijklmnopqrstuvwxyz"
def c_ONE_ : (Int × Int) := (1, 1)
def c_NOUGHT_ : (Int × Int) := (0, 1)
def c_HALF_ : (Int × Int) := (1, 2)
def law_big_ (law_script_ : (KL Int)) (law_k_ : Int) : Option Int :=
  (some (11 + law_k_)).bind fun law_cell_ => ((some (decide (law_k_ < (law_script_.l.length : Int)))).bind fun b => cond b ((ixO law_script_.l law_k_).bind fun law_cell_ => some law_cell_) (some law_cell_)).bind fun s1 => (some ((decide (s1 < 0)) || (decide (1000000000000000000 ≤ s1)))).bind fun b => cond b (some ((s1.natAbs : Int))) ((some (1)).bind fun law_number_ => (rangeO 0 40).bind fun xs => (forN (fun (s2 : Int) (i2 : Int) => ((((((some (s1)).bind fun x => ((some (48271)).bind fun x => (mulO 7919 i2).bind fun y => some (x + y)).bind fun y => mulO x y).bind fun x => ((mulO (i2 + 3) ((law_k_ + i2) + 5)).bind fun x => (some (69621)).bind fun y => mulO x y).bind fun y => some (x + y)).bind fun x => some (x % 2147483647)).bind fun x => (some (16807)).bind fun y => mulO x y).bind fun x => some (x % 2147483629)).bind fun law_step_ => ((mulO s2 1000000007).bind fun x => ((mulO law_step_ (i2 + 2)).bind fun x => some (x % 1000000007)).bind fun y => some (x + y)).bind fun law_number_ => some law_number_) xs law_number_).bind fun z2 => some (z2))
def law_letters_ (law_n_ : Int) (law_rest_ : Int) : Option Str :=
  (some ((Str.ofString ""))).bind fun law_letters_here_ => (rangeO 0 26).bind fun xs => (forN (fun (s1 : Int × Str) (i1 : Int) => ((some (law_n_)).bind fun x => (lenS s1.2).bind fun y => some (x - y)).bind fun law_left_ => ((some ((decide (0 < law_left_)) && ((decide ((s1.1 % 3) = 0)) || (decide ((26 - i1) ≤ law_left_))))).bind fun b => cond b (((some (s1.2)).bind fun x => (ixS (Str.ofString "abcdefghijklmnopqrstuvwxyz") i1).bind fun y => catS x y).bind fun law_letters_here_ => some law_letters_here_) (some s1.2)).bind fun s2 => (some (s1.1 / 3)).bind fun law_rest_ => some (law_rest_, s2)) xs (law_rest_, law_letters_here_)).bind fun z1 => some (z1.2)
noncomputable def law_low_ (law_top_ : Int) (law_bottom_ : Int) : Option (Int × Int) :=
  (some ((law_top_.natAbs : Int))).bind fun law_one_ => (some ((law_bottom_.natAbs : Int))).bind fun law_other_ => (whileN (fun (s1 : Int × Int) => some (decide (0 < s1.2))) (fun (s1 : Int × Int) => (modO s1.1 s1.2).bind fun law_rest_ => (some (s1.2)).bind fun law_one_ => (some (law_rest_)).bind fun law_other_ => some (law_one_, law_other_)) (law_one_, law_other_)).bind fun z1 => ((some (decide (law_bottom_ < 0))).bind fun b => cond b ((some (-z1.1)).bind fun law_one_ => some law_one_) (some z1.1)).bind fun s2 => (divO law_top_ s2).bind fun x0 => (divO law_bottom_ s2).bind fun x1 => some (x0, x1)
noncomputable def law_written_ (law_rest_ : Int) : Option (T3 Str (Int × Int) Int) :=
  (some (law_rest_ % 3)).bind fun law_way_ => (some (law_rest_ / 3)).bind fun law_rest_ => ((some (law_rest_)).bind fun x => (ixO ([10, 1000000000]) ((law_rest_ / 1000000000) % 2)).bind fun y => modO x y).bind fun law_top_ => ((some (1)).bind fun x => ((some (law_rest_ / 2000000000)).bind fun x => (ixO ([9, 999999999]) ((law_rest_ / 1000000000) % 2)).bind fun y => modO x y).bind fun y => some (x + y)).bind fun law_bottom_ => (some (law_rest_ / 10000000000000000000)).bind fun law_rest_ => (some (decide (law_way_ = 0))).bind fun b => cond b (some ((T3.mk (Str.ofString "") (1, 1) law_rest_))) ((some (decide (law_way_ = 1))).bind fun b => cond b (((strI law_top_).bind fun x => (some ((Str.ofString "*"))).bind fun y => catS x y).bind fun x0 => (some ((law_top_, 1))).bind fun x1 => (some (law_rest_)).bind fun x2 => some (T3.mk x0 x1 x2)) (((((strI law_top_).bind fun x => (some ((Str.ofString "/"))).bind fun y => catS x y).bind fun x => (strI law_bottom_).bind fun y => catS x y).bind fun x => (some ((Str.ofString "*"))).bind fun y => catS x y).bind fun x0 => (Mir.law_low_ law_top_ law_bottom_).bind fun x1 => (some (law_rest_)).bind fun x2 => some (T3.mk x0 x1 x2)))
noncomputable def law_terms_ (law_letters_here_ : Str) (law_many_ : Int) (law_rest_ : Int) (law_signs_ : Int) : Option (Str × (List (T3 (Int × Int) Str Str))) :=
  (some ((Str.ofString ""))).bind fun law_text_ => (some ([])).bind fun law_terms_here_ => (rangeO 0 law_many_).bind fun xs => (forN (fun (s1 : Int × Str × (List (T3 (Int × Int) Str Str))) (i1 : Int) => ((some (law_letters_here_)).bind fun xs => ((some (s1.1)).bind fun x => (lenS law_letters_here_).bind fun y => modO x y).bind fun k => ixS xs k).bind fun law_one_ => ((some (law_letters_here_)).bind fun xs => ((some (s1.1 / 8)).bind fun x => (lenS law_letters_here_).bind fun y => modO x y).bind fun k => ixS xs k).bind fun law_other_ => (Mir.law_written_ (s1.1 / 64)).bind fun t2 => ((((some (law_signs_)).bind fun x => (shlO 1 i1).bind fun y => divO x y).bind fun x => some (x % 2)).bind fun x => (some (1)).bind fun y => some (decide (x = y))).bind fun law_is_minus_ => ((some (decide (0 < i1))).bind fun b => cond b (((some (s1.2.1)).bind fun x => (ixO ([(Str.ofString " + "), (Str.ofString " - ")]) (if law_is_minus_ then (1 : Int) else 0)).bind fun y => catS x y).bind fun law_text_ => some law_text_) ((some (law_is_minus_)).bind fun b => cond b ((catS s1.2.1 (Str.ofString "-")).bind fun law_text_ => some law_text_) (some s1.2.1))).bind fun s3 => ((((catS s3 t2.a).bind fun x => (some (law_one_)).bind fun y => catS x y).bind fun x => (some ((Str.ofString "*"))).bind fun y => catS x y).bind fun x => (some (law_other_)).bind fun y => catS x y).bind fun law_text_ => ((some (law_is_minus_)).bind fun b => cond b ((some ((-t2.b.1, t2.b.2))).bind fun law_number_ => some law_number_) (some t2.b)).bind fun s4 => (some ((T3.mk s4 law_one_ law_other_))).bind fun x => (appO s1.2.2 x).bind fun law_terms_here_ => some (t2.c, law_text_, law_terms_here_)) xs (law_rest_, law_text_, law_terms_here_)).bind fun z1 => some ((z1.2.1, z1.2.2))
noncomputable def law_times_ (law_u_ : (Int × Int)) (law_v_ : (Int × Int)) : Option (Int × Int) :=
  (mulO law_u_.1 law_v_.1).bind fun x0 => (mulO law_u_.2 law_v_.2).bind fun x1 => Mir.law_low_ x0 x1
noncomputable def law_plus_ (law_u_ : (Int × Int)) (law_v_ : (Int × Int)) : Option (Int × Int) :=
  ((mulO law_u_.1 law_v_.2).bind fun x => (mulO law_v_.1 law_u_.2).bind fun y => some (x + y)).bind fun x0 => (mulO law_u_.2 law_v_.2).bind fun x1 => Mir.law_low_ x0 x1
noncomputable def law_due_ (law_terms_here_ : (List (T3 (Int × Int) Str Str))) : Option (Str × (List (List (Int × Int)))) :=
  (((some ((Str.ofString "abcdefghijklmnopqrstuvwxyz"))).bind fun t => sgnsO t).bind fun xs => filO (fun law_c_ => ((some (law_c_)).bind fun x => ((some (law_terms_here_)).bind fun xs => mapO (fun law_t_ => some (law_t_.b)) xs).bind fun y => some (decide (x ∈ y))).bind fun b => cond b (some true) ((some (law_c_)).bind fun x => ((some (law_terms_here_)).bind fun xs => mapO (fun law_t_ => some (law_t_.c)) xs).bind fun y => some (decide (x ∈ y)))) (fun law_c_ => some (law_c_)) xs).bind fun law_letters_here_ => (some ((law_letters_here_.length : Int))).bind fun law_n_ => ((rangeC 0 law_n_).bind fun xs => mapO (fun law_i_ => (rangeC 0 law_n_).bind fun xs => mapO (fun law_j_ => some ((0, 1))) xs) xs).bind fun law_form_ => (some (law_terms_here_)).bind fun xs => (forN (fun (s6 : (List (List (Int × Int)))) (i6 : (T3 (Int × Int) Str Str)) => (idxLO law_letters_here_ i6.b).bind fun law_i_ => (idxLO law_letters_here_ i6.c).bind fun law_j_ => (Mir.law_times_ i6.a (1, 2)).bind fun law_half_ => (((some (law_i_)).bind fun x => (some (law_j_)).bind fun y => (ixO s6 x).bind fun r => ixO r y).bind fun x0 => (some (law_half_)).bind fun x1 => Mir.law_plus_ x0 x1).bind fun x => (some (law_i_)).bind fun i => (some (law_j_)).bind fun j => (set2O s6 i j x).bind fun law_form_ => (((some (law_j_)).bind fun x => (some (law_i_)).bind fun y => (ixO law_form_ x).bind fun r => ixO r y).bind fun x0 => (some (law_half_)).bind fun x1 => Mir.law_plus_ x0 x1).bind fun x => (some (law_j_)).bind fun i => (some (law_i_)).bind fun j => (set2O law_form_ i j x).bind fun law_form_ => some law_form_) xs law_form_).bind fun z6 => (joinO (Str.ofString "") law_letters_here_).bind fun x0 => (some (z6)).bind fun x1 => some (x0, x1)
def read_number_ (word_ : Str) : Option Int :=
  ((some (decide (word_ = (Str.ofString "")))).bind fun b => cond b (some true) (((lenS word_).bind fun x => (some (9)).bind fun y => some (decide (y < x))).bind fun b => cond b (some true) (((ixS word_ 0).bind fun x => (some ((Str.ofString "0"))).bind fun y => some (decide (x = y))).bind fun b => cond b ((lenS word_).bind fun x => (some (1)).bind fun y => some (decide (y < x))) (some false)))).bind fun b => cond b (none) (((some (word_)).bind fun t => sgnsO t).bind fun xs => (forN (fun (s1 : Unit) (i1 : Str) => (some (!inS i1 Mir.c_FIGURES_)).bind fun b => cond b (none) (some ())) xs ()).bind fun z1 => intS word_)
noncomputable def common_ (one_ : Int) (other_ : Int) : Option Int :=
  (whileN (fun (s1 : Int × Int) => some (!decide (s1.2 = 0))) (fun (s1 : Int × Int) => (some (s1.2)).bind fun y2 => (modO s1.1 s1.2).bind fun y3 => some (y2, y3)) (one_, other_)).bind fun z1 => some ((z1.1.natAbs : Int))
noncomputable def fraction_ (top_ : Int) (bottom_ : Int) : Option (Int × Int) :=
  (Mir.common_ top_ bottom_).bind fun part_ => ((some (decide (bottom_ < 0))).bind fun b => cond b ((some (-part_)).bind fun part_ => some part_) (some part_)).bind fun s1 => (divO top_ s1).bind fun x0 => (divO bottom_ s1).bind fun x1 => some (x0, x1)
noncomputable def read_fraction_ (word_ : Str) : Option (Int × Int) :=
  (partO word_ (Str.ofString "/")).bind fun t1 => (some (decide (t1.b = (Str.ofString "")))).bind fun b => cond b ((Mir.read_number_ t1.a).bind fun x0 => (some (1)).bind fun x1 => some (x0, x1)) ((some (decide (t1.c = (Str.ofString "0")))).bind fun b => cond b (none) ((Mir.read_number_ t1.a).bind fun x0 => (Mir.read_number_ t1.c).bind fun x1 => Mir.fraction_ x0 x1))
noncomputable def read_term_ (word_ : Str) : Option (T3 (Int × Int) Str Str) :=
  (splitO word_ (Str.ofString "*")).bind fun parts_ => (some (Mir.c_ONE_)).bind fun number_ => ((some (decide ((parts_.length : Int) = 3))).bind fun b => cond b (((ixO parts_ 0).bind fun x0 => Mir.read_fraction_ x0).bind fun number_ => (some (cutL parts_ (some 1) (none))).bind fun parts_ => some (number_, parts_)) (some (number_, parts_))).bind fun s1 => (some (!decide ((s1.2.length : Int) = 2))).bind fun b => cond b (none) ((some (s1.2)).bind fun xs => (forN (fun (s2 : Unit) (i2 : Str) => (((lenS i2).bind fun x => (some (1)).bind fun y => some (!decide (x = y))).bind fun b => cond b (some true) (some (!inS i2 Mir.c_LETTERS_))).bind fun b => cond b (none) (some ())) xs ()).bind fun z2 => (some (s1.1)).bind fun x0 => (minSO s1.2).bind fun x1 => (maxSO s1.2).bind fun x2 => some (T3.mk x0 x1 x2))
noncomputable def minus_ (u_ : (Int × Int)) (v_ : (Int × Int)) : Option (Int × Int) :=
  ((mulO u_.1 v_.2).bind fun x => (mulO v_.1 u_.2).bind fun y => some (x - y)).bind fun x0 => (mulO u_.2 v_.2).bind fun x1 => Mir.fraction_ x0 x1
noncomputable def signed_term_ (sign_ : Str) (word_ : Str) : Option (T3 (Int × Int) Str Str) :=
  (Mir.read_term_ word_).bind fun t1 => (some (decide (sign_ = (Str.ofString "-")))).bind fun b => cond b ((Mir.minus_ Mir.c_NOUGHT_ t1.a).bind fun x0 => (some (t1.b)).bind fun x1 => (some (t1.c)).bind fun x2 => some (T3.mk x0 x1 x2)) ((some (!decide (sign_ = (Str.ofString "+")))).bind fun b => cond b (none) (some ((T3.mk t1.a t1.b t1.c))))
noncomputable def read_terms_ (text_ : Str) : Option (List (T3 (Int × Int) Str Str)) :=
  (splitO text_ (Str.ofString " ")).bind fun words_ => (((ixO words_ 0).bind fun x => (some ((Str.ofString "-"))).bind fun y => some (Txt.startswith x y)).bind fun b => cond b ((((some ((Str.ofString "-"))).bind fun x0 => ((ixO words_ 0).bind fun xs => (some (some 1)).bind fun lo => (some (none)).bind fun hi => cutSO xs lo hi).bind fun x1 => Mir.signed_term_ x0 x1).bind fun x => (some ([])).bind fun xs => some (x :: xs)).bind fun found_ => some found_) ((((some ((Str.ofString "+"))).bind fun x0 => (ixO words_ 0).bind fun x1 => Mir.signed_term_ x0 x1).bind fun x => (some ([])).bind fun xs => some (x :: xs)).bind fun found_ => some found_)).bind fun s1 => (some (decide (((words_.length : Int) % 2) = 0))).bind fun b => cond b (none) ((rangeS 1 (words_.length : Int) 2).bind fun xs => (forN (fun (s2 : (List (T3 (Int × Int) Str Str))) (i2 : Int) => ((ixO words_ i2).bind fun x0 => (ixO words_ (i2 + 1)).bind fun x1 => Mir.signed_term_ x0 x1).bind fun x => (appO s2 x).bind fun found_ => some found_) xs s1).bind fun z2 => some z2)
noncomputable def times_ (u_ : (Int × Int)) (v_ : (Int × Int)) : Option (Int × Int) :=
  (mulO u_.1 v_.1).bind fun x0 => (mulO u_.2 v_.2).bind fun x1 => Mir.fraction_ x0 x1
noncomputable def plus_ (u_ : (Int × Int)) (v_ : (Int × Int)) : Option (Int × Int) :=
  ((mulO u_.1 v_.2).bind fun x => (mulO v_.1 u_.2).bind fun y => some (x + y)).bind fun x0 => (mulO u_.2 v_.2).bind fun x1 => Mir.fraction_ x0 x1
noncomputable def read_form_ (text_ : Str) : Option (Str × (List (List (Int × Int)))) :=
  (Mir.read_terms_ text_).bind fun terms_ => (some ((Str.ofString ""))).bind fun letters_ => ((some (Mir.c_LETTERS_)).bind fun t => sgnsO t).bind fun xs => (forN (fun (s1 : Str) (i1 : Str) => (((some (terms_)).bind fun xs => filO (fun term_ => some (decide (i1 ∈ [(term_.b, term_.c).1, (term_.b, term_.c).2]))) (fun term_ => some (term_)) xs).bind fun x => (some ([])).bind fun y => neQO x y).bind fun b => cond b ((catS s1 i1).bind fun letters_ => some letters_) (some s1)) xs letters_).bind fun z1 => ((lenS z1).bind fun x => (some (8)).bind fun y => some (decide (y < x))).bind fun b => cond b (none) ((((some (z1)).bind fun t => sgnsO t).bind fun xs => mapO (fun other_ => ((some (z1)).bind fun t => sgnsO t).bind fun xs => mapO (fun letter_ => some (Mir.c_NOUGHT_)) xs) xs).bind fun form_ => (some (terms_)).bind fun xs => (forN (fun (s5 : (List (List (Int × Int)))) (i5 : (T3 (Int × Int) Str Str)) => (idxSO z1 i5.b).bind fun i_ => (idxSO z1 i5.c).bind fun j_ => (some (i5.a)).bind fun half_ => ((some (!decide (i_ = j_))).bind fun b => cond b ((Mir.times_ Mir.c_HALF_ i5.a).bind fun half_ => (((some (j_)).bind fun x => (some (i_)).bind fun y => (ixO s5 x).bind fun r => ixO r y).bind fun x0 => (some (half_)).bind fun x1 => Mir.plus_ x0 x1).bind fun x => (some (j_)).bind fun i => (some (i_)).bind fun j => (set2O s5 i j x).bind fun form_ => some (half_, form_)) (some (half_, s5))).bind fun s6 => (((some (i_)).bind fun x => (some (j_)).bind fun y => (ixO s6.2 x).bind fun r => ixO r y).bind fun x0 => (some (s6.1)).bind fun x1 => Mir.plus_ x0 x1).bind fun x => (some (i_)).bind fun i => (some (j_)).bind fun j => (set2O s6.2 i j x).bind fun form_ => some form_) xs form_).bind fun z5 => (some (z1)).bind fun x => some (x, z5))
def law_whole_ (law_found_ : Int) : Option Bool :=
  some (true && (!false))
def law_is_ (law_found_ : (Str × (List (List (Int × Int))))) (law_due_here_ : (Str × (List (List (Int × Int))))) : Option Bool :=
  ((some (!true)).bind fun b => cond b (some true) ((some (!decide ((2 : Int) = 2))).bind fun b => cond b (some true) ((some (!true)).bind fun b => cond b (some true) (neQO law_found_ law_due_here_)))).bind fun b => cond b (some (false)) ((some (law_found_.2)).bind fun xs => (forR (fun (s1 : Unit) (i1 : (List (Int × Int))) => (some (!true)).bind fun b => cond b ((some (false)).bind fun x => some (.rt x)) ((some (i1)).bind fun xs => (forR (fun (s2 : Unit) (i2 : (Int × Int)) => ((some (!true)).bind fun b => cond b (some true) (((Mir.law_whole_ i2.1).bind fun b => some (!b)).bind fun b => cond b (some true) ((Mir.law_whole_ i2.2).bind fun b => some (!b)))).bind fun b => cond b ((some (false)).bind fun x => some (.rt x)) (some (.nx ()))) xs ()).bind fun o2 => Sum.elim (fun z2 => some (.nx ())) (fun x => some (.rt x)) o2)) xs ()).bind fun o1 => Sum.elim (fun z1 => some (true)) (fun x => some x) o1)
noncomputable def law_ (law_script_ : (KL Int)) : Option Bool :=
  (rangeS 0 ((min 9 (law_script_.l.length : Int)) + 1) 3).bind fun xs => (forR (fun (s1 : Unit) (i1 : Int) => (Mir.law_big_ law_script_ i1).bind fun law_cell_ => (some (1 + (law_cell_ % 12))).bind fun law_many_ => ((some (decide (((law_cell_ / 12) % 8) = 1))).bind fun b => cond b ((some (1 + ((law_cell_ / 96) % 40))).bind fun law_many_ => some law_many_) (some law_many_)).bind fun s2 => (Mir.law_letters_ (1 + ((law_cell_ / 4000) % 8)) (law_cell_ / 40000)).bind fun law_letters_here_ => ((some (law_letters_here_)).bind fun x0 => (some (s2)).bind fun x1 => (Mir.law_big_ law_script_ (i1 + 1)).bind fun x2 => (Mir.law_big_ law_script_ (i1 + 2)).bind fun x3 => Mir.law_terms_ x0 x1 x2 x3).bind fun t3 => (Mir.law_due_ t3.2).bind fun law_due_here_ => (Mir.read_form_ t3.1).bind fun law_found_ => ((Mir.law_is_ law_found_ law_due_here_).bind fun b => some (!b)).bind fun b => cond b ((some (false)).bind fun x => some (.rt x)) (((clr2O law_found_.2 0).bind fun y => some (law_found_.1, y)).bind fun law_found_ => (some ([])).bind fun x => (appO law_found_.2 x).bind fun _ => (((Mir.read_form_ t3.1).bind fun x0 => (some (law_due_here_)).bind fun x1 => Mir.law_is_ x0 x1).bind fun b => some (!b)).bind fun b => cond b ((some (false)).bind fun x => some (.rt x)) (some (.nx ())))) xs ()).bind fun o1 => Sum.elim (fun z1 => some (true)) (fun x => some x) o1
end Mir
/-- the plain texts look at no tables -/
instance (priority := low) tbsP : Tbs := ⟨[]⟩
end Mi
/-! the great drawn number: it has a value, whatever the cells are -/
namespace Mi
theorem big_tot (l : List Int) (k : Int) (h : 0 ≤ k) (hk : k ≤ 1000) (hb : ∀ z ∈ l, Sz 1048576 z) : Tot (Mir.law_big_ ⟨l⟩ k) (fun n => 0 ≤ n ∧ Sz 1048576 n) := by
  unfold Mir.law_big_
  simp only [bS, bA]
  refine tot_bind (Q := fun c => Sz 1048576 c) (tot_if (fun h1 => ?_) fun _ => tot_some (Sz.mono (m := 11) (by unfold Sz; omega) (by decide))) fun c hc => ?_
  · obtain ⟨x, e, hx⟩ := ixO_in h h1
    exact tot_bindE e (tot_some (hb x hx))
  refine tot_or (fun _ => tot_some ⟨Int.natCast_nonneg _, ?_⟩) fun h1 h2 => ?_
  · exact hc.le (by omega)
  have h1 := of_decide_eq_false h1
  have h2 := of_decide_eq_false h2
  rw [rangeO_s (by decide) (by decide) (by decide) (by decide)]
  simp only [bS]
  refine tot_bind (Q := fun s => 0 ≤ s ∧ Sz 1048576 s) (tot_forI2 (fun i s => 0 ≤ s ∧ Sz (31 * i.toNat + 2) s) (by decide) ⟨by decide, by decide⟩ (fun i s h3 h4 ⟨hs0, hs⟩ => ?_) fun s ⟨h5, h6⟩ => ⟨h5, h6.mono (by decide)⟩) fun s hs => tot_some hs
  rw [mulO_s (by omega) (by omega) (by omega) (by omega)]
  simp only [bS]
  rw [mulO_s (by omega) (by omega) (by omega) (by omega)]
  simp only [bS]
  rw [mulO_sz (m := 11) (n := 11) (by unfold Sz; omega) (by unfold Sz; omega) (by decide)]
  simp only [bS]
  rw [mulO_sz (m := 22) (n := 17) (Sz.mul (m := 11) (n := 11) (by unfold Sz; omega) (by unfold Sz; omega)) (by decide) (by decide)]
  simp only [bS]
  generalize (c * (48271 + 7919 * i) + (i + 3) * (k + i + 5) * 69621) = z
  rw [mulO_s (by omega) (by omega) (by omega) (by omega)]
  simp only [bS]
  rw [mulO_sz hs (n := 31) (by decide) (by omega), mulO_s (by omega) (by omega) (by omega) (by omega)]
  simp only [bS]
  generalize z % 2147483647 * 16807 % 2147483629 * (i + 2) = y
  refine tot_some ⟨?_, ?_⟩
  · have := Int.emod_nonneg y (show (1000000007 : Int) ≠ 0 by decide)
    have := Int.mul_nonneg hs0 (show (0 : Int) ≤ 1000000007 by decide)
    omega
  · have e : 31 * (i + 1).toNat + 2 = 31 * i.toNat + 2 + 31 := by omega
    rw [e]
    have h7 := Int.emod_nonneg y (show (1000000007 : Int) ≠ 0 by decide)
    have h8 := Int.emod_lt_of_pos y (show (0 : Int) < 1000000007 by decide)
    unfold Sz at hs ⊢
    rw [Nat.pow_add]
    have h9 : s.natAbs * 1000000007 + 1000000007 ≤ 2 ^ (31 * i.toNat + 2) * 1000000007 := by
      have := Nat.mul_le_mul_right 1000000007 (Nat.succ_le_of_lt hs)
      omega
    omega
end Mi

/-! fractions: the pair of a rational number -/
namespace Mi
theorem fmod_small {a b : Int} (hb : b ≠ 0) : (a.fmod b).natAbs < b.natAbs := by
  rw [Int.fmod_eq_emod]
  have h1 := Int.emod_nonneg a hb
  have h2 := Int.emod_lt a hb
  split
  · omega
  · rename_i h
    have : a % b ≠ 0 := fun e => h (Or.inr (Int.dvd_of_emod_eq_zero e))
    omega
theorem gcd_fmod (a b : Int) : Int.gcd b (a.fmod b) = Int.gcd a b := by
  rw [Int.fmod_def, Int.gcd_sub_mul_left_right, Int.gcd_comm]
/-- the pair of a rational -/
def fr (q : Rat) : Int × Int := (q.num, (q.den : Int))
theorem fr_inj {p q : Rat} (h : fr p = fr q) : p = q := by
  injection h with h1 h2
  exact Rat.ext h1 (by exact_mod_cast h2)
theorem fr_eq {p q : Rat} : fr p = fr q ↔ p = q := ⟨fr_inj, fun h => h ▸ rfl⟩
theorem fr_den_pos (q : Rat) : 0 < (fr q).2 := by
  have := q.den_nz
  show (0 : Int) < (q.den : Int)
  omega
/-- what is in lowest terms is the pair of its quotient -/
theorem fr_of {a b : Int} (hb : 1 ≤ b) (h : Int.gcd a b = 1) : (a, b) = fr (Rat.divInt a b) := by
  have hs : b.sign = 1 := Int.sign_eq_one_of_pos (by omega)
  have hg : Int.gcd b a = 1 := by rw [Int.gcd_comm]; exact h
  unfold fr
  rw [Rat.num_divInt, Rat.den_divInt, if_neg (by omega), hs, hg, Int.one_mul]
  simp
  omega
theorem fr_gcd (q : Rat) : Int.gcd (fr q).1 (fr q).2 = 1 := by
  have := q.reduced
  show Int.gcd q.num (q.den : Int) = 1
  unfold Int.gcd
  exact this
theorem fr_divInt (q : Rat) : Rat.divInt (fr q).1 (fr q).2 = q := Rat.num_divInt_den q
/-- both sides multiplied out -/
theorem divInt_iff {a b c d : Int} (hb : b ≠ 0) (hd : d ≠ 0) : Rat.divInt a b = Rat.divInt c d ↔ a * d = c * b := Rat.divInt_eq_divInt_iff hb hd
theorem fr_cross {q : Rat} {a b : Int} (hb : b ≠ 0) : q = Rat.divInt a b ↔ (fr q).1 * b = a * (fr q).2 := by
  have h2 := fr_den_pos q
  conv => lhs; lhs; rw [← fr_divInt q]
  exact divInt_iff (by omega) hb
/-- the sizes of top and bottom -/
def Sq (n : Nat) (q : Rat) : Prop := Sz n (fr q).1 ∧ Sz n (fr q).2
theorem Sq.mono {m n : Nat} {q : Rat} (h : Sq m q) (l : m ≤ n) : Sq n q := ⟨h.1.mono l, h.2.mono l⟩
theorem sq_divInt {n : Nat} {a b : Int} (ha : Sz n a) (hb : Sz n b) (h1 : 1 ≤ n) : Sq n (Rat.divInt a b) := by
  refine ⟨?_, ?_⟩
  · show Sz n (Rat.divInt a b).num
    rw [Rat.num_divInt]
    refine ha.le (Nat.le_trans (Int.natAbs_ediv_le_natAbs _ _) ?_)
    rw [Int.natAbs_mul]
    have : b.sign.natAbs ≤ 1 := by
      rw [Int.natAbs_sign]
      split <;> omega
    calc b.sign.natAbs * a.natAbs ≤ 1 * a.natAbs := Nat.mul_le_mul_right _ this
      _ = a.natAbs := Nat.one_mul _
  · show Sz n ((Rat.divInt a b).den : Int)
    rw [Rat.den_divInt]
    split
    · exact Sz.mono (m := 1) (by decide) h1
    · refine hb.le ?_
      show b.natAbs / _ ≤ _
      exact Nat.div_le_self _ _
theorem frac_divs {a b : Int} {n : Nat} (hb : b ≠ 0) (sb : Sz n b) (hn : n ≤ 9000) : divO a (if b < 0 then -(Int.gcd a b : Int) else (Int.gcd a b : Int)) = some (fr (Rat.divInt a b)).1 ∧ divO b (if b < 0 then -(Int.gcd a b : Int) else (Int.gcd a b : Int)) = some (fr (Rat.divInt a b)).2 := by
  have hg : Int.gcd a b ≠ 0 := fun e => hb (Int.gcd_eq_zero_iff.mp e).2
  have hg1 : ((Int.gcd a b : Nat) : Int) ∣ a := Int.gcd_dvd_left a b
  have hg2 : ((Int.gcd a b : Nat) : Int) ∣ b := Int.gcd_dvd_right a b
  have e1 : Int.gcd b a = Int.gcd a b := Int.gcd_comm b a
  unfold fr
  rw [Rat.num_divInt, Rat.den_divInt, if_neg hb, e1]
  generalize hgg : Int.gcd a b = g at hg hg1 hg2 ⊢
  have sg : Sz n (g : Int) := sb.le (dvd_le hg2 hb)
  by_cases h : b < 0
  · rw [if_pos h, divO_sz (by omega) sg.neg hn, divO_sz (by omega) sg.neg hn, Int.sign_eq_neg_one_of_neg h]
    rw [Int.fdiv_eq_ediv_of_dvd (Int.neg_dvd.mpr hg1), Int.fdiv_eq_ediv_of_dvd (Int.neg_dvd.mpr hg2), Int.ediv_neg, Int.ediv_neg, Int.neg_one_mul, Int.neg_ediv_of_dvd hg1]
    have : -(b / (g : Int)) = ((b.natAbs / g : Nat) : Int) := by
      rw [← Int.neg_ediv_of_dvd hg2, Int.natCast_ediv]
      congr 1
      omega
    rw [this]
    exact ⟨rfl, rfl⟩
  · rw [if_neg h, divO_sz (by omega) sg hn, divO_sz (by omega) sg hn, Int.sign_eq_one_of_pos (by omega)]
    rw [Int.fdiv_eq_ediv_of_dvd hg1, Int.fdiv_eq_ediv_of_dvd hg2, Int.one_mul]
    have : b / (g : Int) = ((b.natAbs / g : Nat) : Int) := by
      rw [Int.natCast_ediv]
      congr 1
      omega
    rw [this]
    exact ⟨rfl, rfl⟩
theorem fr1_ne {q : Rat} : (fr q).1 ≠ 0 ↔ q ≠ 0 := by
  show q.num ≠ 0 ↔ _
  rw [Ne, Rat.num_eq_zero]
theorem add_divInt (p q : Rat) : p + q = Rat.divInt ((fr p).1 * (fr q).2 + (fr q).1 * (fr p).2) ((fr p).2 * (fr q).2) := by
  have h1 := fr_den_pos p
  have h2 := fr_den_pos q
  conv => lhs; rw [← fr_divInt p, ← fr_divInt q, Rat.divInt_add_divInt _ _ (by omega) (by omega)]
theorem sub_divInt (p q : Rat) : p - q = Rat.divInt ((fr p).1 * (fr q).2 - (fr q).1 * (fr p).2) ((fr p).2 * (fr q).2) := by
  have h1 := fr_den_pos p
  have h2 := fr_den_pos q
  conv => lhs; rw [← fr_divInt p, ← fr_divInt q, Rat.divInt_sub_divInt _ _ (by omega) (by omega)]
theorem mul_divInt (p q : Rat) : p * q = Rat.divInt ((fr p).1 * (fr q).1) ((fr p).2 * (fr q).2) := by
  conv => lhs; rw [← fr_divInt p, ← fr_divInt q, Rat.divInt_mul_divInt]
theorem div_divInt (p q : Rat) : p / q = Rat.divInt ((fr p).1 * (fr q).2) ((fr p).2 * (fr q).1) := by
  conv => lhs; rw [Rat.div_def, ← fr_divInt p, ← fr_divInt q, Rat.inv_divInt, Rat.divInt_mul_divInt]
theorem den_mul_ne (p q : Rat) : (fr p).2 * (fr q).2 ≠ 0 := Int.mul_ne_zero (by have := fr_den_pos p; omega) (by have := fr_den_pos q; omega)
theorem den_mul_ne1 (p : Rat) {q : Rat} (h : q ≠ 0) : (fr p).2 * (fr q).1 ≠ 0 := Int.mul_ne_zero (by have := fr_den_pos p; omega) (fr1_ne.mpr h)
section
variable {p q : Rat} {m n : Nat}
theorem Sq.add (hp : Sq m p) (hq : Sq n q) : Sq (m + n + 1) (p + q) := by
  rw [add_divInt]
  refine sq_divInt ((hp.1.mul hq.2).add ?_) ((hp.2.mul hq.2).mono (by omega)) (by omega)
  exact (hq.1.mul hp.2).mono (by omega)
theorem Sq.sub (hp : Sq m p) (hq : Sq n q) : Sq (m + n + 1) (p - q) := by
  rw [sub_divInt]
  refine sq_divInt ((hp.1.mul hq.2).sub ?_) ((hp.2.mul hq.2).mono (by omega)) (by omega)
  exact (hq.1.mul hp.2).mono (by omega)
theorem Sq.pos (h : Sq n q) : 1 ≤ n := by
  refine Nat.pos_of_ne_zero fun e => ?_
  subst e
  have := h.2
  have := fr_den_pos q
  unfold Sz at *
  omega
theorem Sq.mul (hp : Sq m p) (hq : Sq n q) : Sq (m + n) (p * q) := by
  rw [mul_divInt]
  have := hp.pos
  exact sq_divInt (hp.1.mul hq.1) (hp.2.mul hq.2) (by omega)
theorem Sq.div (hp : Sq m p) (hq : Sq n q) : Sq (m + n) (p / q) := by
  rw [div_divInt]
  have := hp.pos
  exact sq_divInt (hp.1.mul hq.2) (hp.2.mul hq.1) (by omega)
theorem Sq.neg (hp : Sq m p) : Sq m (-p) := ⟨hp.1.neg, hp.2⟩
end
theorem common_eq (a b : Int) : Mir.common_ a b = some (Int.gcd a b : Int) := by
  refine Tot.is ?_
  unfold Mir.common_
  refine tot_bind (Q := fun s => s.1.natAbs = Int.gcd a b) (tot_while (fun s => Int.gcd s.1 s.2 = Int.gcd a b) (fun s => s.2.natAbs) rfl fun s hs => tot_some ⟨fun ht => ?_, fun hf => ?_⟩) fun s hs => tot_some (by rw [hs])
  · have h0 : s.2 ≠ 0 := by simpa using ht
    simp only [bS]
    rw [modO_ne h0]
    exact tot_some ⟨by rw [gcd_fmod]; exact hs, fmod_small h0⟩
  · have h0 : s.2 = 0 := by simpa using hf
    rw [h0, Int.gcd_zero] at hs
    exact hs
theorem fraction_eq {a b : Int} {n : Nat} (hb : b ≠ 0) (sb : Sz n b) (hn : n ≤ 9000) : Mir.fraction_ a b = some (fr (Rat.divInt a b)) := by
  unfold Mir.fraction_
  rw [common_eq]
  simp only [bS]
  have := frac_divs (a := a) hb sb hn
  by_cases h : b < 0
  · rw [if_pos h] at this
    rw [decide_eq_true h]
    simp only [cond_true, bS]
    rw [this.1, this.2]
    rfl
  · rw [if_neg h] at this
    rw [decide_eq_false h]
    simp only [cond_false, bS]
    rw [this.1, this.2]
    rfl
theorem plus_eq {p q : Rat} {m n : Nat} (hp : Sq m p) (hq : Sq n q) (l : m + n ≤ 9000) : Mir.plus_ (fr p) (fr q) = some (fr (p + q)) := by
  unfold Mir.plus_
  rw [mulO_sz hp.1 hq.2 (by omega), mulO_sz hq.1 hp.2 (by omega), mulO_sz hp.2 hq.2 (by omega)]
  simp only [bS]
  rw [fraction_eq (den_mul_ne p q) (hp.2.mul hq.2) l, ← add_divInt]
theorem minus_eq {p q : Rat} {m n : Nat} (hp : Sq m p) (hq : Sq n q) (l : m + n ≤ 9000) : Mir.minus_ (fr p) (fr q) = some (fr (p - q)) := by
  unfold Mir.minus_
  rw [mulO_sz hp.1 hq.2 (by omega), mulO_sz hq.1 hp.2 (by omega), mulO_sz hp.2 hq.2 (by omega)]
  simp only [bS]
  rw [fraction_eq (den_mul_ne p q) (hp.2.mul hq.2) l, ← sub_divInt]
theorem times_eq {p q : Rat} {m n : Nat} (hp : Sq m p) (hq : Sq n q) (l : m + n ≤ 9000) : Mir.times_ (fr p) (fr q) = some (fr (p * q)) := by
  unfold Mir.times_
  rw [mulO_sz hp.1 hq.1 (by omega), mulO_sz hp.2 hq.2 (by omega)]
  simp only [bS]
  rw [fraction_eq (den_mul_ne p q) (hp.2.mul hq.2) l, ← mul_divInt]
end Mi

/-! the law's own fractions -/
namespace Mi
theorem law_low_eq {a b : Int} {n : Nat} (hb : b ≠ 0) (sb : Sz n b) (hn : n ≤ 9000) : Mir.law_low_ a b = some (fr (Rat.divInt a b)) := by
  refine Tot.is ?_
  unfold Mir.law_low_
  simp only [bS, bA]
  refine tot_bind (Q := fun s => s.1 = (Int.gcd a b : Int)) (tot_while (fun s => 0 ≤ s.1 ∧ 0 ≤ s.2 ∧ Int.gcd s.1 s.2 = Int.gcd a b) (fun s => s.2.natAbs) ⟨by omega, by omega, by
    show Int.gcd (a.natAbs : Int) (b.natAbs : Int) = Int.gcd a b
    simp [Int.gcd_eq_natAbs_gcd_natAbs]⟩ fun s ⟨h1, h2, h3⟩ => tot_some ⟨fun ht => ?_, fun hf => ?_⟩) fun s hs => ?_
  · have h0 : 0 < s.2 := of_decide_eq_true ht
    rw [modO_ne (by omega)]
    simp only [bS]
    refine tot_some ⟨⟨h2, ?_, by rw [gcd_fmod]; exact h3⟩, fmod_small (by omega)⟩
    exact Int.fmod_nonneg_of_pos _ h0
  · have h0 : s.2 = 0 := by
      have := of_decide_eq_false hf
      omega
    rw [h0, Int.gcd_zero] at h3
    omega
  · have := frac_divs (a := a) hb sb hn
    rw [hs]
    by_cases h : b < 0
    · rw [if_pos h] at this
      rw [decide_eq_true h]
      simp only [cond_true, bS]
      rw [this.1, this.2]
      exact tot_some rfl
    · rw [if_neg h] at this
      rw [decide_eq_false h]
      simp only [cond_false, bS]
      rw [this.1, this.2]
      exact tot_some rfl
theorem law_plus_eq {p q : Rat} {m n : Nat} (hp : Sq m p) (hq : Sq n q) (l : m + n ≤ 9000) : Mir.law_plus_ (fr p) (fr q) = some (fr (p + q)) := by
  unfold Mir.law_plus_
  rw [mulO_sz hp.1 hq.2 (by omega), mulO_sz hq.1 hp.2 (by omega), mulO_sz hp.2 hq.2 (by omega)]
  simp only [bS]
  rw [law_low_eq (den_mul_ne p q) (hp.2.mul hq.2) l, ← add_divInt]
theorem law_times_eq {p q : Rat} {m n : Nat} (hp : Sq m p) (hq : Sq n q) (l : m + n ≤ 9000) : Mir.law_times_ (fr p) (fr q) = some (fr (p * q)) := by
  unfold Mir.law_times_
  rw [mulO_sz hp.1 hq.1 (by omega), mulO_sz hp.2 hq.2 (by omega)]
  simp only [bS]
  rw [law_low_eq (den_mul_ne p q) (hp.2.mul hq.2) l, ← mul_divInt]
end Mi

/-! tables of fractions, over the rationals -/
namespace Mi
def rs (f : Nat → Rat) : Nat → Rat
  | 0 => 0
  | n + 1 => rs f n + f n
theorem rs_congr {f g : Nat → Rat} : ∀ {n : Nat}, (∀ i, i < n → f i = g i) → rs f n = rs g n
  | 0, _ => rfl
  | n + 1, h => by
    show rs f n + f n = rs g n + g n
    rw [rs_congr fun i hi => h i (by omega), h n (by omega)]
theorem rs_add (f g : Nat → Rat) : ∀ n : Nat, rs (fun i => f i + g i) n = rs f n + rs g n
  | 0 => by show (0 : Rat) = 0 + 0; rw [Rat.add_zero]
  | n + 1 => by
    show rs (fun i => f i + g i) n + (f n + g n) = rs f n + f n + (rs g n + g n)
    rw [rs_add f g n]
    grind
theorem rs_mul (c : Rat) (f : Nat → Rat) : ∀ n : Nat, rs (fun i => c * f i) n = c * rs f n
  | 0 => by show (0 : Rat) = c * 0; rw [Rat.mul_zero]
  | n + 1 => by
    show rs (fun i => c * f i) n + c * f n = c * (rs f n + f n)
    rw [rs_mul c f n]
    grind
theorem rs_zero : ∀ n : Nat, rs (fun _ => 0) n = 0
  | 0 => rfl
  | n + 1 => by
    show rs (fun _ => 0) n + 0 = 0
    rw [rs_zero n, Rat.add_zero]
theorem rs_swap (f : Nat → Nat → Rat) (m : Nat) : ∀ n : Nat, rs (fun i => rs (fun j => f i j) m) n = rs (fun j => rs (fun i => f i j) n) m
  | 0 => (rs_zero m).symm
  | n + 1 => by
    show rs (fun i => rs (fun j => f i j) m) n + rs (fun j => f n j) m = rs (fun j => rs (fun i => f i j) n + f n j) m
    rw [rs_swap f m n, ← rs_add]
/-- of one place alone -/
theorem rs_one (k : Nat) (c : Nat → Rat) : ∀ n : Nat, rs (fun i => (if i = k then 1 else 0) * c i) n = if k < n then c k else 0
  | 0 => by rw [if_neg (by omega)]; rfl
  | n + 1 => by
    show rs (fun i => (if i = k then 1 else 0) * c i) n + (if n = k then 1 else 0) * c n = _
    rw [rs_one k c n]
    by_cases h : n = k
    · subst h
      rw [if_pos rfl, if_neg (by omega), if_pos (by omega)]
      grind
    · rw [if_neg h]
      by_cases h2 : k < n
      · rw [if_pos h2, if_pos (by omega)]
        grind
      · rw [if_neg h2, if_neg (by omega)]
        grind
/-- the pairs of a row, of a table -/
def frs (x : List Rat) : List (Int × Int) := x.map fr
def frt (t : List (List Rat)) : List (List (Int × Int)) := t.map frs
theorem frs_len (x : List Rat) : (frs x).length = x.length := List.length_map ..
theorem frs_inj {x y : List Rat} : frs x = frs y ↔ x = y := by
  constructor
  · intro h
    exact List.map_inj_right (fun _ _ h => fr_inj h) |>.mp h
  · intro h; rw [h]
abbrev gt (x : List Rat) (i : Nat) : Rat := x.getD i 0
theorem gt_eq {x : List Rat} {i : Nat} (h : i < x.length) : gt x i = x[i] := by
  unfold gt
  rw [List.getD_eq_getElem?_getD, List.getElem?_eq_getElem h]
  rfl
theorem ix_frs {x : List Rat} {i : Nat} (h : i < x.length) : ixO (frs x) (i : Int) = some (fr (gt x i)) := by
  rw [ixO_nat (by rw [frs_len]; exact h), gt_eq h]
  simp [frs]
def gtt (t : List (List Rat)) (i : Nat) : List Rat := t.getD i []
theorem gtt_eq {t : List (List Rat)} {i : Nat} (h : i < t.length) : gtt t i = t[i] := by
  unfold gtt
  rw [List.getD_eq_getElem?_getD, List.getElem?_eq_getElem h]
  rfl
/-- all of a row, of a table are of a size -/
def Rq (m : Nat) (x : List Rat) : Prop := ∀ q ∈ x, Sq m q
theorem Rq.gt {m i : Nat} {x : List Rat} (h : Rq m x) (hi : i < x.length) : Sq m (gt x i) := by
  rw [gt_eq hi]
  exact h _ (List.getElem_mem hi)
/-- a table of n by n -/
structure Tb (n m : Nat) (t : List (List Rat)) : Prop where
  len : t.length = n
  row : ∀ r ∈ t, r.length = n ∧ Rq m r
theorem Tb.gtt {n m i : Nat} {t : List (List Rat)} (h : Tb n m t) (hi : i < n) : (gtt t i).length = n ∧ Rq m (gtt t i) := by
  have hl : i < t.length := by rw [h.len]; exact hi
  rw [gtt_eq hl]
  exact h.row _ (List.getElem_mem hl)
/-- the sum of the products -/
def dq (x y : List Rat) (n : Nat) : Rat := rs (fun i => gt x i * gt y i) n
theorem dq_sq {x y : List Rat} {a b : Nat} (hx : Rq a x) (hy : Rq b y) : ∀ n : Nat, n ≤ x.length → n ≤ y.length → Sq (n * (a + b + 1) + 1) (dq x y n)
  | 0, _, _ => ⟨Sz.mono (m := 1) (by show Sz 1 0; decide) (by omega), Sz.mono (m := 1) (by show Sz 1 1; decide) (by omega)⟩
  | n + 1, h1, h2 => by
    have h3 := (dq_sq hx hy n (by omega) (by omega)).add ((hx.gt (i := n) (by omega)).mul (hy.gt (i := n) (by omega)))
    refine Sq.mono (h3 : Sq _ (dq x y (n + 1))) ?_
    rw [Nat.add_mul]
    omega
theorem mapO_map {α β : Type} {f : α → Option β} {g : α → β} : ∀ {xs : List α}, (∀ x ∈ xs, f x = some (g x)) → mapO f xs = some (xs.map g)
  | [], _ => rfl
  | x :: xs, h => by
    unfold mapO
    rw [h x List.mem_cons_self, mapO_map fun y hy => h y (List.mem_cons_of_mem _ hy)]
    rfl
theorem mapO_frt {f : List (Int × Int) → Option (Int × Int)} {g : List Rat → Rat} : ∀ {t : List (List Rat)}, (∀ r ∈ t, f (frs r) = some (fr (g r))) → mapO f (frt t) = some (frs (t.map g))
  | [], _ => rfl
  | x :: xs, h => by
    show mapO f (frs x :: frt xs) = _
    unfold mapO
    rw [h x List.mem_cons_self, mapO_frt fun y hy => h y (List.mem_cons_of_mem _ hy)]
    rfl
theorem step_mono {n k c : Nat} (h : k ≤ n) : k * c + 1 ≤ n * c + 1 := Nat.add_le_add_right (Nat.mul_le_mul_right c h) 1
/-- a loop that sums up products -/
theorem sum_loop {P T : Int × Int → Int × Int → Option (Int × Int)} {x y : List Rat} {a b n : Nat} (hx : Rq a x) (hy : Rq b y) (nx : n ≤ x.length) (ny : n ≤ y.length) (hs : (n + 1) * (a + b + 1) + 1 ≤ 9000)
    (hP : ∀ {p q : Rat} {i j : Nat}, Sq i p → Sq j q → i + j ≤ 9000 → P (fr p) (fr q) = some (fr (p + q))) (hT : ∀ {p q : Rat} {i j : Nat}, Sq i p → Sq j q → i + j ≤ 9000 → T (fr p) (fr q) = some (fr (p * q))) :
    forN (fun s (i : Int) => ((ixO (frs x) i).bind fun u => (ixO (frs y) i).bind fun v => T u v).bind fun w => P s w) (rangeL 0 (n : Int)) (0, 1) = some (fr (dq x y n)) := by
  refine Tot.is (tot_forI2 (fun i s => s = fr (dq x y i.toNat)) (by omega) rfl (fun i s h1 h2 h3 => ?_) fun s h => by rw [Int.toNat_natCast] at h; exact h)
  obtain ⟨j, rfl⟩ := Int.eq_ofNat_of_zero_le h1
  have hj : j < n := by omega
  rw [ix_frs (by omega), ix_frs (by omega)]
  simp only [bS]
  have s1 := hx.gt (i := j) (by omega)
  have s2 := hy.gt (i := j) (by omega)
  have s3 := dq_sq hx hy j (by omega) (by omega)
  have h4 : (j + 1) * (a + b + 1) ≤ n * (a + b + 1) := Nat.mul_le_mul_right _ hj
  rw [Nat.add_mul] at h4
  rw [Nat.add_mul] at hs
  rw [hT s1 s2 (by omega)]
  simp only [bS]
  rw [h3, Int.toNat_natCast, hP s3 (s1.mul s2) (by omega)]
  refine tot_some ?_
  rw [show ((j : Int) + 1).toNat = j + 1 by omega]
  rfl
def tover (t : List (List Rat)) (n : Nat) : List (List Rat) := (List.range n).map fun j => t.map fun r => gt r j
theorem tover_tb {t : List (List Rat)} {n a : Nat} (ht : Tb n a t) : Tb n a (tover t n) := by
  refine ⟨by rw [tover, List.length_map, List.length_range], fun r hr => ?_⟩
  obtain ⟨j, hj, rfl⟩ := List.mem_map.mp hr
  have hj := List.mem_range.mp hj
  refine ⟨by rw [List.length_map]; exact ht.len, fun q hq => ?_⟩
  obtain ⟨s, hs, rfl⟩ := List.mem_map.mp hq
  exact (ht.row s hs).2.gt (by rw [(ht.row s hs).1]; exact hj)
def prod (s t : List (List Rat)) (n : Nat) : List (List Rat) := s.map fun r => (tover t n).map fun c => dq r c n
theorem prod_tb {s t : List (List Rat)} {n a b : Nat} (hs : Tb n a s) (ht : Tb n b t) : Tb n (n * (a + b + 1) + 1) (prod s t n) := by
  have hT := tover_tb ht
  refine ⟨by rw [prod, List.length_map]; exact hs.len, fun r hr => ?_⟩
  obtain ⟨x, hx, rfl⟩ := List.mem_map.mp hr
  have hxx := hs.row x hx
  refine ⟨by rw [List.length_map]; exact hT.len, fun q hq => ?_⟩
  obtain ⟨c, hc, rfl⟩ := List.mem_map.mp hq
  have hcc := hT.row c hc
  exact dq_sq hxx.2 hcc.2 n (by omega) (by omega)
end Mi

/-! drawn tables and vectors of fractions -/
namespace Mi
theorem few_sq {q : Rat} {u : Int × Int} (e : u = fr q) (h : (decide (9 < (u.1.natAbs : Int)) || decide (6 < u.2)) = false) : Sq 22 q := by
  have hd := fr_den_pos q
  rw [Bool.or_eq_false_iff, decide_eq_false_iff_not, decide_eq_false_iff_not] at h
  subst e
  exact ⟨by unfold Sz; omega, by unfold Sz; omega⟩
theorem Rq.snoc {m : Nat} {x : List Rat} {q : Rat} (h : Rq m x) (hq : Sq m q) : Rq m (x ++ [q]) := fun p hp => by
  rcases List.mem_append.mp hp with hp | hp
  · exact h p hp
  · rw [List.mem_singleton.mp hp]
    exact hq
theorem Rq.nil {m : Nat} : Rq m [] := fun _ h => nomatch h
theorem app_frs {x : List Rat} {q : Rat} (h : x.length < 16000000) : appO (frs x) (fr q) = some (frs (x ++ [q])) := by
  unfold appO
  rw [if_pos (by rw [frs_len]; exact h)]
  simp [frs]
theorem app_frt {t : List (List Rat)} {x : List Rat} (h : t.length < 16000000) : appO (frt t) (frs x) = some (frt (t ++ [x])) := by
  unfold appO
  rw [if_pos (by rw [frt, List.length_map]; exact h)]
  simp [frt]
theorem gt_range {f : Nat → Rat} {n i : Nat} (h : i < n) : gt ((List.range n).map f) i = f i := by
  rw [gt_eq (by rw [List.length_map, List.length_range]; exact h)]
  simp
theorem gt_map {f : List Rat → Rat} {t : List (List Rat)} {i : Nat} (h : i < t.length) : gt (t.map f) i = f (gtt t i) := by
  rw [gt_eq (by rw [List.length_map]; exact h), gtt_eq h]
  simp
theorem row_ext {x y : List Rat} (hl : x.length = y.length) (h : ∀ i, i < x.length → gt x i = gt y i) : x = y := by
  refine List.ext_getElem hl fun i h1 h2 => ?_
  rw [← gt_eq h1, ← gt_eq h2]
  exact h i h1
end Mi

/-! more of tables: places of products, the laws' own product, plain table, turning over -/
namespace Mi
theorem frt_inj {s t : List (List Rat)} (h : frt s = frt t) : s = t := List.map_inj_right (fun _ _ h => frs_inj.mp h) |>.mp h
theorem frt_len (t : List (List Rat)) : (frt t).length = t.length := List.length_map ..
theorem ix_frt {t : List (List Rat)} {i : Nat} (h : i < t.length) : ixO (frt t) (i : Int) = some (frs (gtt t i)) := by
  rw [ixO_nat (by rw [frt_len]; exact h), gtt_eq h]
  simp [frt]
theorem gtt_map {f : List Rat → List Rat} {t : List (List Rat)} {i : Nat} (h : i < t.length) : gtt (t.map f) i = f (gtt t i) := by
  rw [gtt_eq (by rw [List.length_map]; exact h), gtt_eq h]
  simp
theorem gtt_range {f : Nat → List Rat} {n i : Nat} (h : i < n) : gtt ((List.range n).map f) i = f i := by
  rw [gtt_eq (by rw [List.length_map, List.length_range]; exact h)]
  simp
theorem table_ext {s t : List (List Rat)} {n a b : Nat} (hs : Tb n a s) (ht : Tb n b t) (h : ∀ i j, i < n → j < n → gt (gtt s i) j = gt (gtt t i) j) : s = t := by
  refine List.ext_getElem (by rw [hs.len, ht.len]) fun i h1 h2 => ?_
  rw [← gtt_eq h1, ← gtt_eq h2]
  have hi : i < n := by rw [← hs.len]; exact h1
  exact row_ext (by rw [(hs.gtt hi).1, (ht.gtt hi).1]) fun j hj => h i j hi (by rw [← (hs.gtt hi).1]; exact hj)
theorem tover_at {t : List (List Rat)} {n a i j : Nat} (ht : Tb n a t) (hi : i < n) (hj : j < n) : gt (gtt (tover t n) i) j = gt (gtt t j) i := by
  unfold tover
  rw [gtt_range hi, gt_map (by rw [ht.len]; exact hj)]
theorem tover_tover {t : List (List Rat)} {n a : Nat} (ht : Tb n a t) : tover (tover t n) n = t :=
  table_ext (tover_tb (tover_tb ht)) ht fun i j hi hj => by rw [tover_at (tover_tb ht) hi hj, tover_at ht hj hi]
theorem forN_congr {S α : Type} {b b' : S → α → Option S} : ∀ {xs : List α} {s : S}, (∀ s, ∀ x ∈ xs, b s x = b' s x) → forN b xs s = forN b' xs s
  | [], _, _ => rfl
  | x :: xs, s, h => by
    show (b s x).bind _ = (b' s x).bind _
    rw [h s x List.mem_cons_self]
    refine congrArg _ (funext fun z => ?_)
    exact forN_congr fun s y hy => h s y (List.mem_cons_of_mem _ hy)
theorem prod_at {s t : List (List Rat)} {n a b i j : Nat} (hs : Tb n a s) (ht : Tb n b t) (hi : i < n) (hj : j < n) : gt (gtt (prod s t n) i) j = rs (fun k => gt (gtt s i) k * gt (gtt t k) j) n := by
  unfold prod
  rw [gtt_map (by rw [hs.len]; exact hi), gt_map (by rw [(tover_tb ht).len]; exact hj)]
  unfold dq
  exact rs_congr fun k hk => by rw [tover_at ht hj hk]
end Mi

/-! drawn forms; values of forms -/
namespace Mi
theorem Tb.mono {n a b : Nat} {t : List (List Rat)} (h : Tb n a t) (l : a ≤ b) : Tb n b t := ⟨h.len, fun r hr => ⟨(h.row r hr).1, fun q hq => ((h.row r hr).2 q hq).mono l⟩⟩
theorem Rq.mono {a b : Nat} {x : List Rat} (h : Rq a x) (l : a ≤ b) : Rq b x := fun q hq => (h q hq).mono l
theorem mapO_some {α : Type} : ∀ (xs : List α), mapO (fun x => some x) xs = some xs
  | [] => rfl
  | x :: xs => by
    unfold mapO
    rw [mapO_some xs]
    rfl
/-- one number made another one -/
def put (t : List (List Rat)) (i j : Nat) (q : Rat) : List (List Rat) := t.set i ((gtt t i).set j q)
theorem set_frs {x : List Rat} {j : Nat} (h : j < x.length) (q : Rat) : setO (frs x) (j : Int) (fr q) = some (frs (x.set j q)) := by
  unfold setO
  rw [if_pos ⟨by omega, by rw [frs_len]; omega⟩, Int.toNat_natCast]
  simp [frs, List.map_set]
theorem set_frt {t : List (List Rat)} {i : Nat} (h : i < t.length) (x : List Rat) : setO (frt t) (i : Int) (frs x) = some (frt (t.set i x)) := by
  unfold setO
  rw [if_pos ⟨by omega, by rw [frt_len]; omega⟩, Int.toNat_natCast]
  simp [frt, List.map_set]
theorem set2_frt {t : List (List Rat)} {n m i j : Nat} (ht : Tb n m t) (hi : i < n) (hj : j < n) (q : Rat) : set2O (frt t) (i : Int) (j : Int) (fr q) = some (frt (put t i j q)) := by
  unfold set2O
  rw [ix_frt (by rw [ht.len]; exact hi)]
  simp only [bS]
  rw [set_frs (by rw [(ht.gtt hi).1]; exact hj)]
  simp only [bS]
  rw [set_frt (by rw [ht.len]; exact hi)]
  rfl
theorem put_tb {t : List (List Rat)} {n m i j : Nat} {q : Rat} (ht : Tb n m t) (hi : i < n) (hq : Sq m q) : Tb n m (put t i j q) := by
  refine ⟨by rw [put, List.length_set]; exact ht.len, fun r hr => ?_⟩
  rcases List.mem_or_eq_of_mem_set hr with h | h
  · exact ht.row r h
  · subst h
    refine ⟨by rw [List.length_set]; exact (ht.gtt hi).1, fun p hp => ?_⟩
    rcases List.mem_or_eq_of_mem_set hp with h | h
    · exact (ht.gtt hi).2 p h
    · rw [h]; exact hq
theorem gt_set {x : List Rat} {j b : Nat} {q : Rat} (hj : j < x.length) : gt (x.set j q) b = if b = j then q else gt x b := by
  unfold gt
  rw [List.getD_eq_getElem?_getD, List.getD_eq_getElem?_getD, List.getElem?_set]
  by_cases h : j = b
  · subst h
    rw [if_pos rfl, if_pos hj, if_pos rfl]
    rfl
  · rw [if_neg h, if_neg fun e => h e.symm]
theorem put_at {t : List (List Rat)} {n m i j a b : Nat} {q : Rat} (ht : Tb n m t) (hi : i < n) (hj : j < n) : gt (gtt (put t i j q) a) b = if a = i ∧ b = j then q else gt (gtt t a) b := by
  unfold put
  have e : gtt (t.set i ((gtt t i).set j q)) a = if a = i then (gtt t i).set j q else gtt t a := by
    unfold gtt
    rw [List.getD_eq_getElem?_getD, List.getElem?_set]
    by_cases h : i = a
    · subst h
      rw [if_pos rfl, if_pos (by rw [ht.len]; exact hi), if_pos rfl]
      rfl
    · rw [if_neg h, if_neg fun e => h e.symm, List.getD_eq_getElem?_getD]
  rw [e]
  by_cases h : a = i
  · subst h
    rw [if_pos rfl, gt_set (by rw [(ht.gtt hi).1]; exact hj)]
    by_cases h2 : b = j
    · rw [if_pos h2, if_pos ⟨rfl, h2⟩]
    · rw [if_neg h2, if_neg fun e => h2 e.2]
  · rw [if_neg h, if_neg fun e => h e.1]
def Sy (n : Nat) (t : List (List Rat)) : Prop := ∀ i j, i < n → j < n → gt (gtt t i) j = gt (gtt t j) i
theorem Sy.put2 {t : List (List Rat)} {n m i j : Nat} {q : Rat} (h : Sy n t) (ht : Tb n m t) (hi : i < n) (hj : j < n) (hq : Sq m q) : Sy n (put (put t i j q) j i q) := fun a b ha hb => by
  have h1 := put_tb (j := j) ht hi hq
  rw [put_at h1 hj hi, put_at h1 hj hi, put_at ht hi hj, put_at ht hi hj, h a b ha hb]
  by_cases c1 : a = i <;> by_cases c2 : b = j <;> by_cases c3 : a = j <;> by_cases c4 : b = i <;> simp_all
/-- noughts alone -/
def nought (n : Nat) : List (List Rat) := (List.range n).map fun _ => (List.range n).map fun _ => 0
theorem nought_tb (n : Nat) : Tb n 22 (nought n) := by
  refine ⟨by rw [nought, List.length_map, List.length_range], fun r hr => ?_⟩
  obtain ⟨i, _, rfl⟩ := List.mem_map.mp hr
  refine ⟨by rw [List.length_map, List.length_range], fun q hq => ?_⟩
  obtain ⟨j, _, rfl⟩ := List.mem_map.mp hq
  exact ⟨by show Sz 22 0; decide, by show Sz 22 1; decide⟩
theorem range_cast (n : Nat) : rangeL 0 (n : Int) = (List.range n).map fun (i : Nat) => (i : Int) := by
  unfold rangeL
  rw [show ((n : Int) - 0).toNat = n by omega]
  exact List.map_congr_left fun i _ => by omega
/-- a form's value -/
def fv (t : List (List Rat)) (x : List Rat) (n : Nat) : Rat := dq x (t.map fun r => dq r x n) n
theorem at_rq {t : List (List Rat)} {x : List Rat} {n a b : Nat} (ht : Tb n a t) (hx : Rq b x) (hl : x.length = n) : Rq (n * (a + b + 1) + 1) (t.map fun r => dq r x n) := fun q hq => by
  obtain ⟨r, hr, rfl⟩ := List.mem_map.mp hq
  have := ht.row r hr
  exact dq_sq this.2 hx n (by omega) (by omega)
theorem fv_sq {t : List (List Rat)} {x : List Rat} {n a b : Nat} (ht : Tb n a t) (hx : Rq b x) (hl : x.length = n) : Sq (n * (b + (n * (a + b + 1) + 1) + 1) + 1) (fv t x n) :=
  dq_sq hx (at_rq ht hx hl) n (by omega) (by rw [List.length_map, ht.len]; omega)
theorem fv_sum {t : List (List Rat)} {x : List Rat} {n a : Nat} (ht : Tb n a t) : fv t x n = rs (fun i => rs (fun j => gt (gtt t i) j * (gt x i * gt x j)) n) n := by
  unfold fv dq
  refine rs_congr fun i hi => ?_
  rw [gt_map (by rw [ht.len]; exact hi), ← rs_mul]
  exact rs_congr fun j _ => by grind
end Mi

/-! texts of terms, read -/
namespace Mi
open PySem
open _root_.TL (tl numL joinL)
def mkS (l : List Nat) : Str := ⟨l.toArray⟩
theorem tl_mkS (l : List Nat) : tl (mkS l) = l := rfl
theorem mkS_tl (x : Str) : mkS (tl x) = x := _root_.TL.mk_tl x
theorem mkS_len (l : List Nat) : (mkS l).length = l.length := _root_.TL.len_tl _
theorem mkS_app (a b : List Nat) : mkS a ++ mkS b = mkS (a ++ b) := _root_.TL.ext_tl (by rw [_root_.TL.tl_append]; rfl)
theorem mkS_inj {a b : List Nat} : mkS a = mkS b ↔ a = b := ⟨fun h => congrArg tl h, fun h => congrArg mkS h⟩
theorem strlit {s : String} {l : List Nat} (h : s.toList.map Char.toNat = l) : Str.ofString s = mkS l := _root_.TL.ext_tl (by rw [_root_.TL.tl_ofString]; exact h)
theorem L_star : Str.ofString "*" = mkS [42] := strlit (by decide)
theorem L_slash : Str.ofString "/" = mkS [47] := strlit (by decide)
theorem L_sp : Str.ofString " " = mkS [32] := strlit (by decide)
theorem L_minus : Str.ofString "-" = mkS [45] := strlit (by decide)
theorem L_plus : Str.ofString "+" = mkS [43] := strlit (by decide)
theorem L_zero : Str.ofString "0" = mkS [48] := strlit (by decide)
theorem L_empty : Str.ofString "" = mkS [] := strlit (by decide)
theorem L_splus : Str.ofString " + " = mkS [32, 43, 32] := strlit (by decide)
theorem L_sminus : Str.ofString " - " = mkS [32, 45, 32] := strlit (by decide)
def alph : List Nat := List.range' 97 26
theorem L_alph : Str.ofString "abcdefghijklmnopqrstuvwxyz" = mkS alph := strlit (by decide)
theorem L_figs : Str.ofString "0123456789" = mkS (List.range' 48 10) := strlit (by decide)
theorem lenS_mk {l : List Nat} (h : l.length ≤ 16000000) : lenS (mkS l) = some (l.length : Int) := by
  unfold lenS
  rw [mkS_len, if_pos h]
theorem ixS_mk {l : List Nat} {c k : Nat} (h : l.length ≤ 16000000) (hk : l[k]? = some c) : ixS (mkS l) (k : Int) = some (mkS [c]) := by
  unfold ixS
  rw [mkS_len, if_pos h]
  show (ixO l (k : Int)).bind _ = _
  unfold ixO
  rw [if_pos (by omega), Int.toNat_natCast, hk, bS]
  rfl
theorem sgnsO_mk {l : List Nat} (h : l.length ≤ 16000000) : sgnsO (mkS l) = some (l.map fun c => mkS [c]) := by
  unfold sgnsO
  rw [mkS_len, if_pos h]
  rfl
theorem inS_mk {c : Nat} {l : List Nat} : inS (mkS [c]) (mkS l) = decide (c ∈ l) := PySem.StrLaws.found_one (mkS l) c
theorem catS_mk {a b : List Nat} (h : a.length + b.length ≤ 16000000) : catS (mkS a) (mkS b) = some (mkS (a ++ b)) := by
  unfold catS
  rw [mkS_len, mkS_len, if_pos h, mkS_app]
theorem forN_unit {α : Type} {b : Unit → α → Option Unit} : ∀ {xs : List α}, (∀ x ∈ xs, b () x = some ()) → forN b xs () = some ()
  | [], _ => rfl
  | x :: xs, h => by
    unfold forN
    rw [h x List.mem_cons_self, bS]
    exact forN_unit fun y hy => h y (List.mem_cons_of_mem _ hy)
theorem bc_f {α : Type} {A B : Option α} : ((some false).bind fun b => cond b A B) = B := rfl
theorem bc_t {α : Type} {A B : Option α} : ((some true).bind fun b => cond b A B) = A := rfl
/-! ### numbers -/
theorem str_num (n : Nat) : Str.ofString (toString ((n : Nat) : Int)) = mkS (numL n) := _root_.TL.ext_tl (_root_.TL.tl_num n)
theorem numL_head {n : Nat} (h : n ≠ 0) : ∃ c r, numL n = c :: r ∧ c ≠ 48 := by
  induction n using Nat.strongRecOn with
  | _ n ih =>
    by_cases h1 : n < 10
    · exact ⟨48 + n, [], _root_.TL.numL_lt h1, by omega⟩
    · obtain ⟨c, r, e, hc⟩ := ih (n / 10) (by omega) (by omega)
      exact ⟨c, r ++ [48 + n % 10], by rw [_root_.TL.numL_step (by omega), e]; rfl, hc⟩
theorem numL_fig {n c : Nat} (h : c ∈ numL n) : 48 ≤ c ∧ c ≤ 57 := by
  by_cases h1 : c < 48 ∨ 57 < c
  · exact absurd h (_root_.TL.numL_free h1)
  · omega
theorem numL_len9 {n : Nat} (h : n < 10 ^ 9) : (numL n).length ≤ 9 := _root_.TL.numL_len (by decide) h
theorem numL_pos (n : Nat) : 0 < (numL n).length := List.length_pos_iff.mpr (_root_.TL.numL_ne n)
theorem strI_num {n : Nat} (h : n < 2 ^ 200) : strI (n : Int) = some (mkS (numL n)) := by
  unfold strI
  rw [if_pos ?_, str_num]
  rw [Int.natAbs_natCast]
  by_cases h0 : n = 0
  · subst h0; decide
  · exact (Nat.log2_lt h0).mpr (Nat.lt_of_lt_of_le h (Nat.pow_le_pow_right (by decide) (by decide)))
theorem read_number_eq {n : Nat} (h : n < 10 ^ 9) : Mir.read_number_ (mkS (numL n)) = some (n : Int) := by
  have hl := numL_len9 h
  have h1 : (numL n).length ≤ 16000000 := by omega
  have hp := numL_pos n
  unfold Mir.read_number_
  have t1 : ((ixS (mkS (numL n)) 0).bind fun x => (some (Str.ofString "0")).bind fun y => some (decide (x = y))).bind (fun b => cond b ((lenS (mkS (numL n))).bind fun x => (some (1 : Int)).bind fun y => some (decide (y < x))) (some false)) = some false := by
    by_cases h0 : n = 0
    · subst h0
      have e : numL 0 = [48] := _root_.TL.numL_lt (by decide)
      rw [e, show (0 : Int) = ((0 : Nat) : Int) from rfl, ixS_mk (by decide) (show [48][0]? = some 48 from rfl), L_zero, bS, bS, decide_eq_true rfl, bc_t, lenS_mk (by decide), bS, bS]
      rfl
    · obtain ⟨c, r, e, hc⟩ := numL_head h0
      rw [e, show (0 : Int) = ((0 : Nat) : Int) from rfl, ixS_mk (by rw [← e]; exact h1) (show (c :: r)[0]? = some c from rfl), L_zero, bS, bS, decide_eq_false fun g => hc (by have := mkS_inj.mp g; simpa using this), bc_f]
  rw [L_empty, decide_eq_false fun g => _root_.TL.numL_ne n (mkS_inj.mp g), bc_f, lenS_mk h1, bS, bS, decide_eq_false (by omega), bc_f]
  rw [lenS_mk h1] at t1
  rw [t1, bc_f, bS, sgnsO_mk h1, bS, forN_unit fun x hx => ?_, bS]
  · unfold intS
    rw [mkS_len, if_pos (by omega), ← str_num]
    exact _root_.TL.int_num (by omega)
  · obtain ⟨c, hc, rfl⟩ := List.mem_map.mp hx
    obtain ⟨c1, c2⟩ := numL_fig hc
    have e : Mir.c_FIGURES_ = mkS (List.range' 48 10) := L_figs
    rw [e, inS_mk, decide_eq_true (List.mem_range'_1.mpr ⟨c1, by omega⟩)]
    rfl
theorem partO_none {n : Nat} (h : n < 10 ^ 9) : partO (mkS (numL n)) (Str.ofString "/") = some (T3.mk (mkS (numL n)) (mkS []) (mkS [])) := by
  have hl := numL_len9 h
  unfold partO
  rw [L_slash, mkS_len, mkS_len, if_pos ⟨by decide, by omega⟩, _root_.TL.partition_none (y := mkS [47]) (s := 47) (S := []) rfl (_root_.TL.numL_free (by decide))]
  rfl
theorem partO_some {n d : Nat} (h : n < 10 ^ 9) (h2 : d < 10 ^ 9) : partO (mkS (numL n ++ 47 :: numL d)) (Str.ofString "/") = some (T3.mk (mkS (numL n)) (mkS [47]) (mkS (numL d))) := by
  have hl := numL_len9 h
  have hl2 := numL_len9 h2
  unfold partO
  rw [L_slash, mkS_len, mkS_len, if_pos ⟨by decide, by rw [List.length_append, List.length_cons]; omega⟩]
  have e : mkS (numL n ++ 47 :: numL d) = mkS (numL n) ++ mkS [47] ++ mkS (numL d) := by
    rw [mkS_app, mkS_app, List.append_assoc]
    rfl
  rw [e, _root_.TL.partition_app (y := mkS [47]) (s := 47) (S := []) rfl (_root_.TL.numL_free (by decide))]
theorem read_whole_eq {n : Nat} (h : n < 10 ^ 9) : Mir.read_fraction_ (mkS (numL n)) = some (fr (Rat.divInt (n : Int) 1)) := by
  unfold Mir.read_fraction_
  rw [partO_none h, bS, L_empty, decide_eq_true rfl, bc_t, read_number_eq h, bS, bS]
  exact congrArg some (fr_of (Int.le_refl 1) (Int.gcd_one_right _))
theorem sz30 {n : Nat} (h : n < 10 ^ 9) : Sz 30 (n : Int) := by
  unfold Sz
  rw [Int.natAbs_natCast]
  exact Nat.lt_trans h (by decide)
theorem read_over_eq {n d : Nat} (h : n < 10 ^ 9) (h2 : d < 10 ^ 9) (d0 : d ≠ 0) : Mir.read_fraction_ (mkS (numL n ++ 47 :: numL d)) = some (fr (Rat.divInt (n : Int) (d : Int))) := by
  have z0 : numL 0 = [48] := _root_.TL.numL_lt (by decide)
  unfold Mir.read_fraction_
  rw [partO_some h h2, bS, L_empty, decide_eq_false (by rw [mkS_inj]; decide), bc_f, L_zero, decide_eq_false fun g => d0 (_root_.TL.numL_inj ((mkS_inj.mp g).trans z0.symm)), bc_f, read_number_eq h, bS, read_number_eq h2, bS]
  exact fraction_eq (by omega) (sz30 h2) (by decide)
/-! ### cut up -/
theorem splitO_join {s : Nat} (hs : s < 256) {parts : List (List Nat)} (hne : parts ≠ []) (hp : ∀ p ∈ parts, s ∉ p) (hl : (joinL [s] parts).length + 2 ≤ 16000000) (hl2 : parts.length ≤ 16000000) : splitO (mkS (joinL [s] parts)) (mkS [s]) = some (parts.map mkS) := by
  have e : Txt.split (mkS (joinL [s] parts)) (mkS [s]) = parts.map mkS := by
    refine _root_.TL.map_tl_inj ?_
    rw [_root_.TL.split_spl _ (mkS [s]) (List.cons_ne_nil s []) (_root_.TL.kind_ok (by show [s].toArray.all _ = true; simpa using hs))]
    show _root_.TL.spl [s] 0 [] (joinL [s] parts) = _
    rw [_root_.TL.spl_join hne hp, List.map_map]
    exact (List.map_id _).symm
  unfold splitO
  rw [e, mkS_len, mkS_len, List.length_map, if_pos ⟨rfl, hl, hl2⟩]
/-- a number as it is written -/
inductive Wn
  | one
  | wh (n : Nat)
  | ov (n d : Nat)
def Wn.Ok : Wn → Prop
  | .one => True
  | .wh n => n < 10 ^ 9
  | .ov n d => n < 10 ^ 9 ∧ d < 10 ^ 9 ∧ d ≠ 0
def Wn.val : Wn → Rat
  | .one => 1
  | .wh n => Rat.divInt (n : Int) 1
  | .ov n d => Rat.divInt (n : Int) (d : Int)
/-- the parts between the stars -/
def Wn.parts : Wn → List (List Nat)
  | .one => []
  | .wh n => [numL n]
  | .ov n d => [numL n ++ 47 :: numL d]
structure Tm where
  neg : Bool
  w : Wn
  a : Nat
  b : Nat
structure Tm.Ok (t : Tm) : Prop where
  w : t.w.Ok
  a : 97 ≤ t.a ∧ t.a < 123
  b : 97 ≤ t.b ∧ t.b < 123
def Tm.parts (t : Tm) : List (List Nat) := t.w.parts ++ [[t.a], [t.b]]
def Tm.word (t : Tm) : List Nat := joinL [42] t.parts
def Tm.q (t : Tm) : Rat := if t.neg then -t.w.val else t.w.val
def Tm.v (t : Tm) : T3 (Int × Int) Str Str := T3.mk (fr t.q) (mkS [min t.a t.b]) (mkS [max t.a t.b])
theorem Wn.sq {w : Wn} (h : w.Ok) : Sq 30 w.val := by
  cases w with
  | one => exact ⟨by decide, by decide⟩
  | wh n => exact sq_divInt (sz30 h) (by decide) (by decide)
  | ov n d => exact sq_divInt (sz30 h.1) (sz30 h.2.1) (by decide)
theorem Wn.part_free {w : Wn} (h : w.Ok) {p : List Nat} (hp : p ∈ w.parts) : (∀ c ∈ p, 47 ≤ c ∧ c ≤ 57) ∧ p.length ≤ 19 ∧ 0 < p.length := by
  cases w with
  | one => cases hp
  | wh n =>
    rw [List.mem_singleton.mp hp]
    have := numL_len9 h
    exact ⟨fun c hc => ⟨by have := (numL_fig hc).1; omega, (numL_fig hc).2⟩, by omega, numL_pos n⟩
  | ov n d =>
    rw [List.mem_singleton.mp hp]
    have h1 := numL_len9 h.1
    have h2 := numL_len9 h.2.1
    refine ⟨fun c hc => ?_, by rw [List.length_append, List.length_cons]; omega, by rw [List.length_append, List.length_cons]; omega⟩
    rcases List.mem_append.mp hc with hc | hc
    · exact ⟨by have := (numL_fig hc).1; omega, (numL_fig hc).2⟩
    · rcases List.mem_cons.mp hc with hc | hc
      · omega
      · exact ⟨by have := (numL_fig hc).1; omega, (numL_fig hc).2⟩
theorem Tm.part_free {t : Tm} (h : t.Ok) {p : List Nat} (hp : p ∈ t.parts) : (∀ c ∈ p, 47 ≤ c ∧ c < 123) ∧ p.length ≤ 19 ∧ 0 < p.length := by
  rcases List.mem_append.mp hp with hp | hp
  · obtain ⟨h1, h2⟩ := Wn.part_free h.w hp
    exact ⟨fun c hc => ⟨(h1 c hc).1, by have := (h1 c hc).2; omega⟩, h2⟩
  · rcases List.mem_cons.mp hp with hp | hp
    · rw [hp]
      exact ⟨fun c hc => by rw [List.mem_singleton.mp hc]; have := h.a; omega, show 1 ≤ 19 by decide, Nat.zero_lt_one⟩
    · rw [List.mem_singleton.mp hp]
      exact ⟨fun c hc => by rw [List.mem_singleton.mp hc]; have := h.b; omega, show 1 ≤ 19 by decide, Nat.zero_lt_one⟩
theorem joinL_mem {s c : Nat} : ∀ {parts : List (List Nat)}, c ∈ joinL [s] parts → c = s ∨ ∃ p ∈ parts, c ∈ p
  | [], h => nomatch h
  | [p], h => .inr ⟨p, List.mem_singleton.mpr rfl, h⟩
  | p :: q :: r, h => by
    rcases List.mem_append.mp (show c ∈ p ++ ([s] ++ joinL [s] (q :: r)) from h) with h | h
    · exact .inr ⟨p, List.mem_cons_self, h⟩
    · rcases List.mem_append.mp h with h | h
      · exact .inl (List.mem_singleton.mp h)
      · rcases joinL_mem h with h | ⟨z, hz, h⟩
        · exact .inl h
        · exact .inr ⟨z, List.mem_cons_of_mem _ hz, h⟩
theorem joinL_len {s m : Nat} : ∀ {parts : List (List Nat)}, (∀ p ∈ parts, p.length ≤ m) → (joinL [s] parts).length ≤ parts.length * (m + 1)
  | [], _ => Nat.zero_le _
  | [p], h => by
    have := h p (List.mem_singleton.mpr rfl)
    show p.length ≤ 1 * (m + 1)
    omega
  | p :: q :: r, h => by
    have h1 := h p List.mem_cons_self
    have h2 := joinL_len (s := s) (m := m) (parts := q :: r) fun z hz => h z (List.mem_cons_of_mem _ hz)
    show (p ++ ([s] ++ joinL [s] (q :: r))).length ≤ _
    rw [List.length_append, List.length_append, List.length_cons (a := p), Nat.add_mul (q :: r).length, Nat.one_mul]
    show p.length + (1 + _) ≤ _
    omega
theorem Wn.parts_len (w : Wn) : w.parts.length ≤ 1 := match w with
  | .one => Nat.zero_le _
  | .wh _ => Nat.le_refl 1
  | .ov _ _ => Nat.le_refl 1
theorem Tm.word_ok {t : Tm} (h : t.Ok) : (∀ c ∈ t.word, 42 ≤ c ∧ c < 123 ∧ c ≠ 43 ∧ c ≠ 45) ∧ t.word.length ≤ 60 := by
  have hl : t.parts.length ≤ 3 := by
    have := t.w.parts_len
    unfold Tm.parts
    rw [List.length_append]
    show _ + 2 ≤ 3
    omega
  refine ⟨fun c hc => ?_, ?_⟩
  · rcases joinL_mem hc with e | ⟨p, hp, hc⟩
    · omega
    · have := (Tm.part_free h hp).1 c hc
      omega
  · have := joinL_len (s := 42) (m := 19) fun p hp => (Tm.part_free h hp).2.1
    have h2 := Nat.mul_le_mul_right (19 + 1) hl
    exact Nat.le_trans this h2
theorem lt1 {a b : Nat} : decide ((mkS [a]).cps.toList < (mkS [b]).cps.toList) = decide (a < b) := by
  rw [decide_eq_decide]
  show [a] < [b] ↔ _
  rw [List.cons_lt_cons_iff]
  constructor
  · intro h
    rcases h with h | ⟨_, h⟩
    · exact h
    · exact absurd h (by decide)
  · exact fun h => .inl h
theorem minSO2 (a b : Nat) : minSO [mkS [a], mkS [b]] = some (mkS [min a b]) := by
  unfold minSO
  rw [if_pos (show 0 < [mkS [a], mkS [b]].length from Nat.zero_lt_succ 1)]
  show some ([mkS [a], mkS [b]].getD (if decide ((mkS [b]).cps.toList < (mkS [a]).cps.toList) = true then 1 else 0) Str.empty) = _
  rw [lt1]
  by_cases h : b < a
  · rw [decide_eq_true h, if_pos rfl, Nat.min_eq_right (by omega)]; rfl
  · rw [decide_eq_false h, if_neg (by decide), Nat.min_eq_left (by omega)]; rfl
theorem maxSO2 (a b : Nat) : maxSO [mkS [a], mkS [b]] = some (mkS [max a b]) := by
  unfold maxSO
  rw [if_pos (show 0 < [mkS [a], mkS [b]].length from Nat.zero_lt_succ 1)]
  show some ([mkS [a], mkS [b]].getD (if decide ((mkS [a]).cps.toList < (mkS [b]).cps.toList) = true then 1 else 0) Str.empty) = _
  rw [lt1]
  by_cases h : a < b
  · rw [decide_eq_true h, if_pos rfl, Nat.max_eq_right (by omega)]; rfl
  · rw [decide_eq_false h, if_neg (by decide), Nat.max_eq_left (by omega)]; rfl
theorem read_term_eq {t : Tm} (h : t.Ok) : Mir.read_term_ (mkS t.word) = some (T3.mk (fr t.w.val) (mkS [min t.a t.b]) (mkS [max t.a t.b])) := by
  have hp : ∀ p ∈ t.parts, 42 ∉ p := fun p hp hm => by
    have := (Tm.part_free h hp).1 42 hm
    omega
  have hw := (Tm.word_ok h).2
  have hl : t.parts.length ≤ 3 := by
    have := t.w.parts_len
    unfold Tm.parts
    rw [List.length_append]
    show _ + 2 ≤ 3
    omega
  have hs := splitO_join (s := 42) (by decide) (parts := t.parts) (by unfold Tm.parts; simp) hp (by have : (joinL [42] t.parts).length ≤ 60 := hw; omega) (by omega)
  have e1 : Mir.c_ONE_ = fr 1 := by decide
  have hend : ∀ r : Rat, (some (!decide ((([mkS [t.a], mkS [t.b]] : List Str).length : Int) = 2))).bind (fun b => cond b (none) ((some ([mkS [t.a], mkS [t.b]] : List Str)).bind fun xs => (forN (fun (s2 : Unit) (i2 : Str) => (((lenS i2).bind fun x => (some (1 : Int)).bind fun y => some (!decide (x = y))).bind fun b => cond b (some true) (some (!inS i2 Mir.c_LETTERS_))).bind fun b => cond b (none) (some ())) xs ()).bind fun z2 => (some (fr r)).bind fun x0 => (minSO ([mkS [t.a], mkS [t.b]] : List Str)).bind fun x1 => (maxSO ([mkS [t.a], mkS [t.b]] : List Str)).bind fun x2 => some (T3.mk x0 x1 x2))) = some (T3.mk (fr r) (mkS [min t.a t.b]) (mkS [max t.a t.b])) := fun r => by
    rw [decide_eq_true (show (([mkS [t.a], mkS [t.b]] : List Str).length : Int) = 2 from rfl), Bool.not_true, bc_f, bS, forN_unit fun x hx => ?_, bS, bS, minSO2, bS, maxSO2, bS]
    have e2 : Mir.c_LETTERS_ = mkS alph := L_alph
    have key : ∀ c, 97 ≤ c ∧ c < 123 → ((((lenS (mkS [c])).bind fun x => (some (1 : Int)).bind fun y => some (!decide (x = y))).bind fun b => cond b (some true) (some (!inS (mkS [c]) Mir.c_LETTERS_))).bind fun b => cond b (none) (some ())) = some () := fun c hc => by
      rw [lenS_mk (show ([c] : List Nat).length ≤ 16000000 from (by decide : 1 ≤ 16000000)), bS, bS, decide_eq_true (show (([c] : List Nat).length : Int) = 1 from rfl), Bool.not_true, bc_f, e2, inS_mk, decide_eq_true (show c ∈ alph from List.mem_range'_1.mpr ⟨hc.1, by omega⟩), Bool.not_true, bc_f]
    rcases List.mem_cons.mp hx with rfl | hx
    · exact key _ h.a
    · rw [List.mem_singleton.mp hx]
      exact key _ h.b
  unfold Mir.read_term_
  rw [L_star, show Tm.word t = joinL [42] t.parts from rfl, hs, bS, e1, bS]
  cases hw2 : t.w with
  | one =>
    have e3 : t.parts.map mkS = [mkS [t.a], mkS [t.b]] := by unfold Tm.parts; rw [hw2]; rfl
    rw [e3, decide_eq_false (show ¬ (([mkS [t.a], mkS [t.b]] : List Str).length : Int) = 3 from (by decide : ¬ ((2 : Nat) : Int) = 3)), bc_f, bS]
    exact hend 1
  | wh n =>
    have e3 : t.parts.map mkS = [mkS (numL n), mkS [t.a], mkS [t.b]] := by unfold Tm.parts; rw [hw2]; rfl
    have hn : n < 10 ^ 9 := by have := h.w; rw [hw2] at this; exact this
    rw [e3, decide_eq_true (show (([mkS (numL n), mkS [t.a], mkS [t.b]] : List Str).length : Int) = 3 from rfl), bc_t, show ixO [mkS (numL n), mkS [t.a], mkS [t.b]] 0 = some (mkS (numL n)) from rfl, bS, read_whole_eq hn, bS, show cutL [mkS (numL n), mkS [t.a], mkS [t.b]] (some 1) none = [mkS [t.a], mkS [t.b]] from rfl, bS, bS]
    exact hend _
  | ov n d =>
    have e3 : t.parts.map mkS = [mkS (numL n ++ 47 :: numL d), mkS [t.a], mkS [t.b]] := by unfold Tm.parts; rw [hw2]; rfl
    have hn : n < 10 ^ 9 ∧ d < 10 ^ 9 ∧ d ≠ 0 := by have := h.w; rw [hw2] at this; exact this
    rw [e3, decide_eq_true (show (([mkS (numL n ++ 47 :: numL d), mkS [t.a], mkS [t.b]] : List Str).length : Int) = 3 from rfl), bc_t, show ixO [mkS (numL n ++ 47 :: numL d), mkS [t.a], mkS [t.b]] 0 = some (mkS (numL n ++ 47 :: numL d)) from rfl, bS, read_over_eq hn.1 hn.2.1 hn.2.2, bS, show cutL [mkS (numL n ++ 47 :: numL d), mkS [t.a], mkS [t.b]] (some 1) none = [mkS [t.a], mkS [t.b]] from rfl, bS, bS]
    exact hend _
theorem signed_eq {t : Tm} (h : t.Ok) : Mir.signed_term_ (mkS [if t.neg then 45 else 43]) (mkS t.word) = some t.v := by
  have e0 : Mir.c_NOUGHT_ = fr 0 := by decide
  unfold Mir.signed_term_ Tm.v Tm.q
  rw [read_term_eq h, bS, L_minus, L_plus]
  cases t.neg with
  | true =>
    rw [if_pos rfl, decide_eq_true rfl, bc_t, e0, minus_eq (p := 0) (m := 1) ⟨by decide, by decide⟩ (Wn.sq h.w) (by decide), bS, bS, bS, if_pos rfl]
    refine congrArg (fun z => some (T3.mk (fr z) _ _)) ?_
    grind
  | false =>
    rw [if_neg (by decide), decide_eq_false (by rw [mkS_inj]; decide), bc_f, decide_eq_true rfl, Bool.not_true, bc_f, if_neg (by decide)]
theorem starts_minus (l : List Nat) : Txt.startswith (mkS l) (mkS [45]) = decide (l[0]? = some 45) := by
  unfold Txt.startswith
  rw [Bool.eq_iff_iff, Bool.and_eq_true, decide_eq_true_eq, decide_eq_true_eq]
  exact PySem.StrLaws.subAt_one (mkS l) 45 0
theorem cutS_one {c : Nat} {r : List Nat} (h : (c :: r).length ≤ 16000000) : cutSO (mkS (c :: r)) (some 1) none = some (mkS r) := by
  unfold cutSO
  rw [mkS_len, if_pos h]
  refine congrArg some (_root_.TL.ext_tl ?_)
  show ((c :: r).drop (HT.sIx (mkS (c :: r)).length 0 (some 1))).take (HT.sIx (mkS (c :: r)).length (mkS (c :: r)).length none - HT.sIx (mkS (c :: r)).length 0 (some 1)) = r
  rw [show (some (1 : Int)) = some ((1 : Nat) : Int) from rfl, HT.sIx_nat, HT.sIx_none, mkS_len, List.length_cons, Nat.min_eq_left (by omega)]
  show r.take (r.length + 1 - 1) = r
  rw [Nat.add_sub_cancel, List.take_length]
/-- the words of a text -/
def wordsT : List Tm → List (List Nat)
  | [] => []
  | t :: ts => [if t.neg then 45 else 43] :: t.word :: wordsT ts
def words0 (t : Tm) (ts : List Tm) : List (List Nat) := ((if t.neg then [45] else []) ++ t.word) :: wordsT ts
theorem wordsT_len : ∀ ts, (wordsT ts).length = 2 * ts.length
  | [] => rfl
  | t :: ts => by
    show (wordsT ts).length + 1 + 1 = 2 * (ts.length + 1)
    rw [wordsT_len ts]
    omega
theorem wordsT_ok : ∀ {ts : List Tm}, (∀ t ∈ ts, t.Ok) → ∀ p ∈ wordsT ts, (∀ c ∈ p, c ≠ 32) ∧ p.length ≤ 61
  | [], _, p, hp => nomatch hp
  | t :: ts, h, p, hp => by
    rcases List.mem_cons.mp hp with rfl | hp
    · exact ⟨fun c hc => by rw [List.mem_singleton.mp hc]; split <;> decide, (by decide : 1 ≤ 61)⟩
    · rcases List.mem_cons.mp hp with rfl | hp
      · have hw := Tm.word_ok (h t List.mem_cons_self)
        exact ⟨fun c hc => by have := hw.1 c hc; omega, by omega⟩
      · exact wordsT_ok (fun z hz => h z (List.mem_cons_of_mem _ hz)) p hp
def textT (t : Tm) (ts : List Tm) : List Nat := joinL [32] (words0 t ts)
theorem words0_ok {t : Tm} {ts : List Tm} (h : ∀ z ∈ t :: ts, z.Ok) : ∀ p ∈ words0 t ts, (∀ c ∈ p, c ≠ 32) ∧ p.length ≤ 61 := fun p hp => by
  rcases List.mem_cons.mp hp with rfl | hp
  · have hw := Tm.word_ok (h t List.mem_cons_self)
    refine ⟨fun c hc => ?_, ?_⟩
    · rcases List.mem_append.mp hc with hc | hc
      · cases hn : t.neg with
        | true => rw [hn] at hc; rw [List.mem_singleton.mp hc]; decide
        | false => rw [hn] at hc; cases hc
      · have := hw.1 c hc; omega
    · rw [List.length_append]
      cases t.neg
      · show 0 + _ ≤ 61; omega
      · show 1 + _ ≤ 61; omega
  · exact wordsT_ok (fun z hz => h z (List.mem_cons_of_mem _ hz)) p hp
theorem words_loop {all : List (List Nat)} : ∀ (ts : List Tm) (k : Nat) (acc : List (T3 (Int × Int) Str Str)), (∀ t ∈ ts, t.Ok) → acc.length + ts.length ≤ 1000 → (∀ m, m < 2 * ts.length → all[1 + 2 * k + m]? = (wordsT ts)[m]?) →
    forN (fun (s2 : (List (T3 (Int × Int) Str Str))) (i2 : Int) => ((ixO (all.map mkS) i2).bind fun x0 => (ixO (all.map mkS) (i2 + 1)).bind fun x1 => Mir.signed_term_ x0 x1).bind fun x => (appO s2 x).bind fun found_ => some found_) ((List.range' k ts.length).map fun (i : Nat) => (1 : Int) + (i : Int) * 2) acc = some (acc ++ ts.map Tm.v)
  | [], k, acc, _, _, _ => by
    rw [List.map_nil, List.append_nil]
    rfl
  | t :: ts, k, acc, h, hl, ha => by
    have ih := words_loop (all := all) ts (k + 1) (acc ++ [t.v]) (fun z hz => h z (List.mem_cons_of_mem _ hz)) (by rw [List.length_append]; rw [List.length_cons] at hl; show _ + 1 + _ ≤ _; omega) fun m hm => by
      have := ha (m + 2) (by rw [List.length_cons]; omega)
      rw [show 1 + 2 * (k + 1) + m = 1 + 2 * k + (m + 2) by omega, this]
      rfl
    have a0 := ha 0 (by rw [List.length_cons]; omega)
    have a1 := ha 1 (by rw [List.length_cons]; omega)
    have i0 : ixO (all.map mkS) (1 + (k : Int) * 2) = some (mkS [if t.neg then 45 else 43]) := by
      unfold ixO
      rw [if_pos (by omega), show (1 + (k : Int) * 2).toNat = 1 + 2 * k + 0 by omega, List.getElem?_map, a0]
      rfl
    have i1 : ixO (all.map mkS) (1 + (k : Int) * 2 + 1) = some (mkS t.word) := by
      unfold ixO
      rw [if_pos (by omega), show (1 + (k : Int) * 2 + 1).toNat = 1 + 2 * k + 1 by omega, List.getElem?_map, a1]
      rfl
    rw [List.length_cons, List.range'_succ, List.map_cons]
    unfold forN
    rw [List.length_cons] at hl
    have ea : appO acc t.v = some (acc ++ [t.v]) := if_pos (by omega)
    rw [i0, bS, i1, bS, signed_eq (h t List.mem_cons_self), bS, ea, bS, bS]
    rw [ih, List.append_assoc]
    rfl
theorem read_terms_eq {t : Tm} {ts : List Tm} (h : ∀ z ∈ t :: ts, z.Ok) (hl : (t :: ts).length ≤ 1000) : Mir.read_terms_ (mkS (textT t ts)) = some ((t :: ts).map Tm.v) := by
  have ht := h t List.mem_cons_self
  have hok := words0_ok h
  have hlen : (words0 t ts).length = 1 + 2 * ts.length := by
    show (wordsT ts).length + 1 = _
    rw [wordsT_len]
    omega
  rw [List.length_cons] at hl
  have hj := joinL_len (s := 32) (m := 61) fun p hp => (hok p hp).2
  have hj2 := Nat.mul_le_mul_right (61 + 1) (show (words0 t ts).length ≤ 2001 by omega)
  have hs := splitO_join (s := 32) (by decide) (parts := words0 t ts) (by unfold words0; simp) (fun p hp hm => (hok p hp).1 32 hm rfl) (by omega) (by omega)
  have hw := Tm.word_ok ht
  unfold Mir.read_terms_ textT
  rw [L_sp, hs, bS]
  have e0 : ixO ((words0 t ts).map mkS) 0 = some (mkS ((if t.neg then [45] else []) ++ t.word)) := rfl
  have hfirst : ((((ixO ((words0 t ts).map mkS) 0).bind fun x => (some ((Str.ofString "-"))).bind fun y => some (Txt.startswith x y)).bind fun b => cond b ((((some ((Str.ofString "-"))).bind fun x0 => ((ixO ((words0 t ts).map mkS) 0).bind fun xs => (some (some (1 : Int))).bind fun lo => (some (none)).bind fun hi => cutSO xs lo hi).bind fun x1 => Mir.signed_term_ x0 x1).bind fun x => (some ([])).bind fun xs => some (x :: xs)).bind fun found_ => some found_) ((((some ((Str.ofString "+"))).bind fun x0 => (ixO ((words0 t ts).map mkS) 0).bind fun x1 => Mir.signed_term_ x0 x1).bind fun x => (some ([])).bind fun xs => some (x :: xs)).bind fun found_ => some found_))) = some [t.v] := by
    have hsg := signed_eq ht
    rw [e0, bS, bS, L_minus, L_plus, starts_minus]
    cases hn : t.neg with
    | true =>
      rw [hn, if_pos rfl] at hsg
      rw [if_pos rfl, decide_eq_true (by rfl), bc_t, bS, bS, bS, bS, show [45] ++ t.word = 45 :: t.word from rfl, cutS_one (by rw [List.length_cons]; omega), bS, hsg, bS, bS, bS]
    | false =>
      rw [hn, if_neg (by decide)] at hsg
      rw [if_neg (by decide), List.nil_append, decide_eq_false fun g => by
        obtain ⟨hlt, g⟩ := List.getElem?_eq_some_iff.mp g
        have := hw.1 _ (List.getElem_mem hlt)
        rw [g] at this
        omega, bc_f, bS, bS, hsg, bS, bS, bS]
  rw [hfirst, bS, List.length_map, hlen, decide_eq_false (by omega), bc_f]
  unfold rangeS
  rw [if_pos ⟨by decide, by decide, by omega, by omega⟩, bS, show ((((1 + 2 * ts.length : Nat) : Int) - 1 + 2 - 1) / 2).toNat = ts.length by omega, List.range_eq_range']
  rw [words_loop ts 0 [t.v] (fun z hz => h z (List.mem_cons_of_mem _ hz)) (by show 1 + _ ≤ _; omega) fun m hm => by
    rw [show 1 + 2 * 0 + m = m + 1 by omega]
    rfl, bS]
  rfl
end Mi

/-! texts of terms, read to a form -/
namespace Mi
open PySem
open _root_.TL (tl numL joinL)
def tbl (m : Nat) (g : Nat → Nat → Rat) : List (List Rat) := (List.range m).map fun i => (List.range m).map fun j => g i j
theorem tbl_at {m i j : Nat} {g : Nat → Nat → Rat} (hi : i < m) (hj : j < m) : gt (gtt (tbl m g) i) j = g i j := by
  unfold tbl
  rw [gtt_range hi, gt_range hj]
theorem tbl_tb {m a : Nat} {g : Nat → Nat → Rat} (h : ∀ i j, i < m → j < m → Sq a (g i j)) : Tb m a (tbl m g) := ⟨by unfold tbl; rw [List.length_map, List.length_range], fun r hr => by
  obtain ⟨i, hi, rfl⟩ := List.mem_map.mp hr
  refine ⟨by rw [List.length_map, List.length_range], fun q hq => ?_⟩
  obtain ⟨j, hj, rfl⟩ := List.mem_map.mp hq
  exact h i j (List.mem_range.mp hi) (List.mem_range.mp hj)⟩
theorem tbl_congr {m : Nat} {g g' : Nat → Nat → Rat} (h : ∀ i j, i < m → j < m → g i j = g' i j) : tbl m g = tbl m g' :=
  List.map_congr_left fun i hi => List.map_congr_left fun j hj => h i j (List.mem_range.mp hi) (List.mem_range.mp hj)
theorem put_tbl {m a i j : Nat} {g : Nat → Nat → Rat} {q : Rat} (h : ∀ i j, i < m → j < m → Sq a (g i j)) (hi : i < m) (hj : j < m) (hq : Sq a q) : put (tbl m g) i j q = tbl m (fun x y => if x = i ∧ y = j then q else g x y) :=
  table_ext (put_tb (tbl_tb h) hi hq) (tbl_tb (a := a) fun x y hx hy => by
    split
    · exact hq
    · exact h x y hx hy) fun x y hx hy => by rw [put_at (tbl_tb h) hi hj, tbl_at hx hy, tbl_at hx hy]
theorem set2_tbl {m a i j : Nat} {g : Nat → Nat → Rat} {q : Rat} (h : ∀ i j, i < m → j < m → Sq a (g i j)) (hi : i < m) (hj : j < m) (hq : Sq a q) : set2O (frt (tbl m g)) (i : Int) (j : Int) (fr q) = some (frt (tbl m (fun x y => if x = i ∧ y = j then q else g x y))) := by
  rw [set2_frt (tbl_tb h) hi hj, put_tbl h hi hj hq]
theorem ix2_tbl {m i j : Nat} {g : Nat → Nat → Rat} (hi : i < m) (hj : j < m) : ((ixO (frt (tbl m g)) (i : Int)).bind fun r => ixO r (j : Int)) = some (fr (g i j)) := by
  have h1 : (tbl m g).length = m := by unfold tbl; rw [List.length_map, List.length_range]
  have h2 : (gtt (tbl m g) i).length = m := by unfold tbl; rw [gtt_range hi, List.length_map, List.length_range]
  rw [ix_frt (by rw [h1]; exact hi), bS, ix_frs (by rw [h2]; exact hj), tbl_at hi hj]
/-! ### what a term gives -/
def ctr (t : Tm) (c d : Nat) : Rat := if t.a = t.b then (if c = t.a ∧ d = t.a then t.q else 0) else (if (c = t.a ∧ d = t.b) ∨ (c = t.b ∧ d = t.a) then Rat.divInt 1 2 * t.q else 0)
def cs : List Tm → Nat → Nat → Rat
  | [], _, _ => 0
  | t :: ts, c, d => ctr t c d + cs ts c d
theorem cs_snoc (t : Tm) (c d : Nat) : ∀ ts : List Tm, cs (ts ++ [t]) c d = cs ts c d + ctr t c d
  | [] => by show ctr t c d + 0 = 0 + ctr t c d; grind
  | u :: ts => by
    show ctr u c d + cs (ts ++ [t]) c d = ctr u c d + cs ts c d + ctr t c d
    rw [cs_snoc t c d ts]
    grind
def hasL (t : Tm) (c : Nat) : Bool := decide (t.a = c) || decide (t.b = c)
/-- the letters that come, in order -/
def lts (ts : List Tm) : List Nat := alph.filter fun c => ts.any fun t => hasL t c
theorem lts_nodup (ts : List Tm) : (lts ts).Nodup := List.Pairwise.filter _ (List.nodup_range' (step := 1))
theorem lts_mem {ts : List Tm} {t : Tm} (ht : t ∈ ts) (h : t.Ok) : t.a ∈ lts ts ∧ t.b ∈ lts ts := by
  have ha := h.a
  have hb := h.b
  refine ⟨List.mem_filter.mpr ⟨List.mem_range'_1.mpr ⟨ha.1, by omega⟩, List.any_eq_true.mpr ⟨t, ht, by unfold hasL; simp⟩⟩, List.mem_filter.mpr ⟨List.mem_range'_1.mpr ⟨hb.1, by omega⟩, List.any_eq_true.mpr ⟨t, ht, by unfold hasL; simp⟩⟩⟩
theorem lts_lt {ts : List Tm} {c : Nat} (h : c ∈ lts ts) : 97 ≤ c ∧ c < 123 := by
  have := List.mem_range'_1.mp (List.mem_filter.mp h).1
  omega
theorem lts_len (ts : List Tm) : (lts ts).length ≤ 26 := Nat.le_trans (List.length_filter_le _ _) (by decide)
theorem idxSO_mk {l : List Nat} {c k : Nat} (hn : l.Nodup) (hk : l[k]? = some c) : idxSO (mkS l) (mkS [c]) = some (k : Int) := by
  have hf := PySem.StrLaws.found_one (mkS l) c
  unfold idxSO idx0
  cases ho : Builtin.Str.occurrences (mkS l) (mkS [c]) 0 (mkS l).length 1 with
  | nil =>
    have ho' : Builtin.Str.occurrences (mkS l) ⟨#[c]⟩ 0 (mkS l).length 1 = [] := ho
    rw [ho'] at hf
    have hm : c ∈ (mkS l).cps.toList := List.mem_iff_getElem?.mpr ⟨k, hk⟩
    rw [decide_eq_true hm] at hf
    cases hf
  | cons i r =>
    have h1 := PySem.StrLaws.occ_spec (mkS l) (mkS [c]) 0 (mkS l).length 1 i (by rw [ho]; exact List.mem_cons_self)
    have h2 : l[i]? = some c := (PySem.StrLaws.subAt_one (mkS l) c i).mp h1
    have hi : i < l.length := (List.getElem?_eq_some_iff.mp h2).1
    have e : i = k := (List.getElem?_inj hi hn).mp (h2.trans hk.symm)
    rw [e]
    rfl
theorem idx_ex {l : List Nat} {c : Nat} (h : c ∈ l) : ∃ k, l[k]? = some c ∧ k < l.length := by
  obtain ⟨k, hk⟩ := List.mem_iff_getElem?.mp h
  exact ⟨k, hk, (List.getElem?_eq_some_iff.mp hk).1⟩
theorem getD_of {l : List Nat} {c k : Nat} (h : l[k]? = some c) : l.getD k 0 = c := by
  rw [List.getD_eq_getElem?_getD, h]
  rfl
theorem getD_inj {l : List Nat} (hn : l.Nodup) {x k c : Nat} (hx : x < l.length) (hk : l[k]? = some c) : l.getD x 0 = c ↔ x = k := by
  constructor
  · intro h
    refine (List.getElem?_inj hx hn).mp ?_
    rw [hk, List.getElem?_eq_getElem hx]
    rw [List.getD_eq_getElem?_getD, List.getElem?_eq_getElem hx] at h
    exact congrArg some h
  · rintro rfl
    exact getD_of hk
theorem filO_tot {α : Type} (b : α → Bool) : ∀ xs : List α, filO (fun x => some (b x)) (fun x => some x) xs = some (xs.filter b)
  | [] => rfl
  | x :: xs => by
    unfold filO
    rw [filO_tot b xs, bS]
    by_cases h : b x = true
    · rw [h, List.filter_cons_of_pos h]
      rfl
    · have h2 : b x = false := by simpa using h
      rw [h2, List.filter_cons_of_neg (by rw [h2]; decide)]
      rfl
theorem ok_str {l : List Nat} (h : ∀ c ∈ l, c < 0x110000) : OkQ.ok (mkS l) = true := by
  show (mkS l).cps.all (· < 0x110000) = true
  rw [← Array.all_toList]
  exact List.all_eq_true.mpr fun c hc => decide_eq_true (h c hc)
theorem ok_v {t : Tm} (h : t.Ok) : OkQ.ok t.v = true := by
  have ha := h.a
  have hb := h.b
  show (OkQ.ok (fr t.q) && (OkQ.ok (mkS [min t.a t.b]) && OkQ.ok (mkS [max t.a t.b]))) = true
  rw [ok_str fun c hc => by rw [List.mem_singleton.mp hc]; omega, ok_str fun c hc => by rw [List.mem_singleton.mp hc]; omega]
  rfl
theorem letters_loop {ts : List Tm} (h : ∀ t ∈ ts, t.Ok) : ∀ (cs acc : List Nat), (∀ c ∈ cs, 97 ≤ c ∧ c < 123) → acc.length + cs.length ≤ 1000 →
    forN (fun (s1 : Str) (i1 : Str) => (((some (ts.map Tm.v)).bind fun xs => filO (fun term_ => some (decide (i1 ∈ [(term_.b, term_.c).1, (term_.b, term_.c).2]))) (fun term_ => some (term_)) xs).bind fun x => (some ([])).bind fun y => neQO x y).bind fun b => cond b ((catS s1 i1).bind fun letters_ => some letters_) (some s1)) (cs.map fun c => mkS [c]) (mkS acc) = some (mkS (acc ++ cs.filter fun c => ts.any fun t => hasL t c))
  | [], acc, _, _ => by rw [List.filter_nil, List.append_nil]; rfl
  | c :: cs, acc, hc, hl => by
    rw [List.length_cons] at hl
    rw [List.map_cons]
    unfold forN
    have e1 : ((((some (ts.map Tm.v)).bind fun xs => filO (fun term_ => some (decide (mkS [c] ∈ [(term_.b, term_.c).1, (term_.b, term_.c).2]))) (fun term_ => some (term_)) xs).bind fun x => (some ([])).bind fun y => neQO x y)) = some (ts.any fun t => hasL t c) := by
      rw [bS, filO_tot (fun term_ : T3 (Int × Int) Str Str => decide (mkS [c] ∈ [(term_.b, term_.c).1, (term_.b, term_.c).2])), bS, bS]
      have hm : ∀ t : Tm, (decide (mkS [c] ∈ [(t.v.b, t.v.c).1, (t.v.b, t.v.c).2])) = hasL t c := fun t => by
        unfold hasL
        rw [Bool.eq_iff_iff, Bool.or_eq_true, decide_eq_true_eq, decide_eq_true_eq, decide_eq_true_eq]
        show mkS [c] ∈ [mkS [min t.a t.b], mkS [max t.a t.b]] ↔ _
        rw [List.mem_cons, List.mem_singleton, mkS_inj, mkS_inj]
        simp only [List.cons.injEq, and_true]
        omega
      have hf : (ts.map Tm.v).filter (fun term_ : T3 (Int × Int) Str Str => decide (mkS [c] ∈ [(term_.b, term_.c).1, (term_.b, term_.c).2])) = (ts.filter fun t => hasL t c).map Tm.v := by
        rw [List.filter_map]
        refine congrArg (List.map Tm.v) (List.filter_congr fun t _ => ?_)
        exact hm t
      rw [hf]
      unfold neQO
      have hk : OkQ.ok ((ts.filter fun t => hasL t c).map Tm.v) = true := List.all_eq_true.mpr fun v hv => by
        obtain ⟨t, ht, rfl⟩ := List.mem_map.mp hv
        exact ok_v (h t (List.mem_filter.mp ht).1)
      rw [if_pos (by rw [hk]; rfl)]
      refine congrArg some ?_
      rw [Bool.eq_iff_iff, Bool.not_eq_true', decide_eq_false_iff_not, List.map_eq_nil_iff, List.filter_eq_nil_iff, List.any_eq_true]
      constructor
      · intro g
        obtain ⟨t, g⟩ := Classical.not_forall.mp g
        obtain ⟨ht, g⟩ := Classical.not_imp.mp g
        exact ⟨t, ht, by simpa using g⟩
      · rintro ⟨t, ht, g⟩ f
        exact f t ht g
    rw [e1]
    by_cases hb : (ts.any fun t => hasL t c) = true
    · rw [hb, bc_t, catS_mk (by show acc.length + 1 ≤ _; omega), bS, bS, List.filter_cons_of_pos (p := fun c => ts.any fun t => hasL t c) hb]
      rw [letters_loop h cs (acc ++ [c]) (fun z hz => hc z (List.mem_cons_of_mem _ hz)) (by rw [List.length_append]; show acc.length + 1 + _ ≤ _; omega), List.append_assoc]
      rfl
    · have hb2 : (ts.any fun t => hasL t c) = false := by simpa using hb
      rw [hb2, bc_f, bS, List.filter_cons_of_neg (p := fun c => ts.any fun t => hasL t c) hb]
      exact letters_loop h cs acc (fun z hz => hc z (List.mem_cons_of_mem _ hz)) (by omega)
theorem half_fr : Mir.c_HALF_ = fr (Rat.divInt 1 2) := by decide
theorem Tm.sq {t : Tm} (h : t.Ok) : Sq 30 t.q := by
  unfold Tm.q
  have hs := Wn.sq h.w
  split
  · refine ⟨?_, hs.2⟩
    have := hs.1
    unfold Sz at this ⊢
    show ((-t.w.val).num).natAbs < _
    rw [Rat.neg_num, Int.natAbs_neg]
    exact this
  · exact hs
theorem form_step {ts : List Tm} {t : Tm} {l : List Nat} (hn : l.Nodup) (h : t.Ok) (ha : t.a ∈ l) (hb : t.b ∈ l) {g : Nat → Nat → Rat} {k : Nat} (hg : ∀ i j, i < l.length → j < l.length → Sq k (g i j)) (hk : k ≤ 8000) :
    (((idxSO (mkS l) t.v.b).bind fun i_ => (idxSO (mkS l) t.v.c).bind fun j_ => (some (t.v.a)).bind fun half_ => ((some (!decide (i_ = j_))).bind fun b => cond b ((Mir.times_ Mir.c_HALF_ t.v.a).bind fun half_ => (((some (j_)).bind fun x => (some (i_)).bind fun y => (ixO (frt (tbl l.length g)) x).bind fun r => ixO r y).bind fun x0 => (some (half_)).bind fun x1 => Mir.plus_ x0 x1).bind fun x => (some (j_)).bind fun i => (some (i_)).bind fun j => (set2O (frt (tbl l.length g)) i j x).bind fun form_ => some (half_, form_)) (some (half_, (frt (tbl l.length g))))).bind fun s6 => (((some (i_)).bind fun x => (some (j_)).bind fun y => (ixO s6.2 x).bind fun r => ixO r y).bind fun x0 => (some (s6.1)).bind fun x1 => Mir.plus_ x0 x1).bind fun x => (some (i_)).bind fun i => (some (j_)).bind fun j => (set2O s6.2 i j x).bind fun form_ => some form_)) = some (frt (tbl l.length fun x y => g x y + ctr t (l.getD x 0) (l.getD y 0))) ∧
      ∀ i j, i < l.length → j < l.length → Sq (k + 34) (g i j + ctr t (l.getD i 0) (l.getD j 0)) := by
  have sh : Sq 32 (Rat.divInt 1 2 * t.q) := (Sq.mul (m := 2) (n := 30) ⟨by decide, by decide⟩ (Tm.sq h))
  have hz : Sq 32 (0 : Rat) := ⟨Sz.mono (m := 1) (show Sz 1 0 by decide) (by decide), Sz.mono (m := 1) (show Sz 1 1 by decide) (by decide)⟩
  refine ⟨?_, fun i j hi hj => ?_⟩
  · have hmn : min t.a t.b ∈ l := by
      rcases Nat.le_total t.a t.b with e | e
      · rw [Nat.min_eq_left e]; exact ha
      · rw [Nat.min_eq_right e]; exact hb
    have hmx : max t.a t.b ∈ l := by
      rcases Nat.le_total t.a t.b with e | e
      · rw [Nat.max_eq_right e]; exact hb
      · rw [Nat.max_eq_left e]; exact ha
    obtain ⟨i, hi, li⟩ := idx_ex hmn
    obtain ⟨j, hj, lj⟩ := idx_ex hmx
    have e1 : t.v.b = mkS [min t.a t.b] := rfl
    have e2 : t.v.c = mkS [max t.a t.b] := rfl
    have e3 : t.v.a = fr t.q := rfl
    rw [e1, e2, e3, idxSO_mk hn hi, bS, idxSO_mk hn hj, bS, bS]
    have mono : ∀ {q : Rat}, Sq k q → Sq (k + 34) q := fun h => h.mono (by omega)
    by_cases hab : t.a = t.b
    · have hij : i = j := by
        refine (List.getElem?_inj li hn).mp ?_
        rw [hi, hj, hab, Nat.min_self, Nat.max_self]
      subst hij
      have hia : l[i]? = some t.a := by rw [hi, hab, Nat.min_self]
      rw [decide_eq_true rfl, Bool.not_true, bc_f, bS]
      dsimp only
      rw [bS, bS, ix2_tbl li li, bS, bS, plus_eq (hg i i li li) (Tm.sq h) (by omega), bS, bS, bS, set2_tbl (a := k + 34) (fun x y hx hy => mono (hg x y hx hy)) li li (((hg i i li li).add (Tm.sq h)).mono (by omega)), bS]
      refine congrArg (fun z => some (frt z)) (tbl_congr fun x y hx hy => ?_)
      unfold ctr
      rw [if_pos hab]
      by_cases c : x = i ∧ y = i
      · rw [if_pos c, if_pos ⟨(getD_inj hn hx hia).mpr c.1, (getD_inj hn hy hia).mpr c.2⟩, c.1, c.2]
      · rw [if_neg c, if_neg fun z => c ⟨(getD_inj hn hx hia).mp z.1, (getD_inj hn hy hia).mp z.2⟩]
        grind
    · have hij : i ≠ j := fun e => by
        rw [e, hj] at hi
        have := Option.some.inj hi
        omega
      rw [decide_eq_false (show ¬ (i : Int) = (j : Int) by omega), Bool.not_false, bc_t, half_fr, times_eq (m := 2) (n := 30) ⟨by decide, by decide⟩ (Tm.sq h) (by decide), bS, bS, bS, ix2_tbl lj li, bS, bS, plus_eq (hg j i lj li) sh (by omega), bS, bS, bS,
        set2_tbl (a := k + 34) (fun x y hx hy => mono (hg x y hx hy)) lj li (((hg j i lj li).add sh).mono (by omega)), bS, bS]
      dsimp only
      have hg2 : ∀ x y, x < l.length → y < l.length → Sq (k + 34) (if x = j ∧ y = i then g j i + Rat.divInt 1 2 * t.q else g x y) := fun x y hx hy => by
        split
        · exact ((hg j i lj li).add sh).mono (by omega)
        · exact mono (hg x y hx hy)
      rw [bS, bS, ix2_tbl li lj, if_neg (fun z => hij z.1), bS, bS, plus_eq (hg i j li lj) sh (by omega), bS, bS, bS, set2_tbl hg2 li lj (((hg i j li lj).add sh).mono (by omega)), bS]
      refine congrArg (fun z => some (frt z)) (tbl_congr fun x y hx hy => ?_)
      unfold ctr
      rw [if_neg hab]
      have k1 := getD_inj hn hx hi
      have k2 := getD_inj hn hx hj
      have k3 := getD_inj hn hy hi
      have k4 := getD_inj hn hy hj
      have kk : ((l.getD x 0 = t.a ∧ l.getD y 0 = t.b) ∨ (l.getD x 0 = t.b ∧ l.getD y 0 = t.a)) ↔ ((x = i ∧ y = j) ∨ (x = j ∧ y = i)) := by
        rw [← k1, ← k2, ← k3, ← k4]
        rcases Nat.lt_or_ge t.a t.b with e | e
        · rw [Nat.min_eq_left (by omega), Nat.max_eq_right (by omega)]
        · rw [Nat.min_eq_right (by omega), Nat.max_eq_left (by omega)]
          exact Or.comm
      by_cases c1 : x = i ∧ y = j
      · rw [if_pos c1, if_pos (kk.mpr (.inl c1)), c1.1, c1.2]
      · rw [if_neg c1]
        by_cases c2 : x = j ∧ y = i
        · rw [if_pos c2, if_pos (kk.mpr (.inr c2)), c2.1, c2.2]
        · rw [if_neg c2, if_neg fun z => (kk.mp z).elim c1 c2]
          grind
  · have hc : Sq 33 (ctr t (l.getD i 0) (l.getD j 0)) := by
      unfold ctr
      split
      · split
        · exact (Tm.sq h).mono (by decide)
        · exact hz.mono (by decide)
      · split
        · exact sh.mono (by decide)
        · exact hz.mono (by decide)
    exact ((hg i j hi hj).add hc).mono (by omega)
theorem form_loop {l : List Nat} (hn : l.Nodup) : ∀ (ts pre : List Tm) (k : Nat), (∀ t ∈ ts, t.Ok ∧ t.a ∈ l ∧ t.b ∈ l) → (∀ i j, i < l.length → j < l.length → Sq k (cs pre (l.getD i 0) (l.getD j 0))) → k + 34 * ts.length ≤ 8000 →
    forN (fun (s5 : (List (List (Int × Int)))) (i5 : (T3 (Int × Int) Str Str)) => (idxSO (mkS l) i5.b).bind fun i_ => (idxSO (mkS l) i5.c).bind fun j_ => (some (i5.a)).bind fun half_ => ((some (!decide (i_ = j_))).bind fun b => cond b ((Mir.times_ Mir.c_HALF_ i5.a).bind fun half_ => (((some (j_)).bind fun x => (some (i_)).bind fun y => (ixO s5 x).bind fun r => ixO r y).bind fun x0 => (some (half_)).bind fun x1 => Mir.plus_ x0 x1).bind fun x => (some (j_)).bind fun i => (some (i_)).bind fun j => (set2O s5 i j x).bind fun form_ => some (half_, form_)) (some (half_, s5))).bind fun s6 => (((some (i_)).bind fun x => (some (j_)).bind fun y => (ixO s6.2 x).bind fun r => ixO r y).bind fun x0 => (some (s6.1)).bind fun x1 => Mir.plus_ x0 x1).bind fun x => (some (i_)).bind fun i => (some (j_)).bind fun j => (set2O s6.2 i j x).bind fun form_ => some form_) (ts.map Tm.v) (frt (tbl l.length fun x y => cs pre (l.getD x 0) (l.getD y 0))) = some (frt (tbl l.length fun x y => cs (pre ++ ts) (l.getD x 0) (l.getD y 0)))
  | [], pre, k, _, _, _ => by rw [List.append_nil]; rfl
  | t :: ts, pre, k, h, hk, hl => by
    obtain ⟨ht, ha, hb⟩ := h t List.mem_cons_self
    rw [List.length_cons] at hl
    have st := form_step (ts := ts) hn ht ha hb (g := fun x y => cs pre (l.getD x 0) (l.getD y 0)) hk (by omega)
    rw [List.map_cons]
    unfold forN
    rw [st.1, bS]
    have e : (fun x y => cs pre (l.getD x 0) (l.getD y 0) + ctr t (l.getD x 0) (l.getD y 0)) = fun x y => cs (pre ++ [t]) (l.getD x 0) (l.getD y 0) := funext fun x => funext fun y => (cs_snoc t _ _ pre).symm
    rw [e, form_loop hn ts (pre ++ [t]) (k + 34) (fun z hz => h z (List.mem_cons_of_mem _ hz)) (fun i j hi hj => by rw [cs_snoc]; exact st.2 i j hi hj) (by omega), List.append_assoc]
    rfl
theorem read_form_eq {t : Tm} {ts : List Tm} (h : ∀ z ∈ t :: ts, z.Ok) (hl : (t :: ts).length ≤ 200) (h8 : (lts (t :: ts)).length ≤ 8) :
    Mir.read_form_ (mkS (textT t ts)) = some (mkS (lts (t :: ts)), frt (tbl (lts (t :: ts)).length fun x y => cs (t :: ts) ((lts (t :: ts)).getD x 0) ((lts (t :: ts)).getD y 0))) := by
  have e1 : Mir.c_LETTERS_ = mkS alph := L_alph
  have e2 : Mir.c_NOUGHT_ = fr 0 := by decide
  unfold Mir.read_form_
  rw [read_terms_eq h (by omega), bS, bS, L_empty, bS, e1, sgnsO_mk (by decide), bS]
  rw [letters_loop h alph [] (fun c hc => by have := List.mem_range'_1.mp hc; omega) (by decide), List.nil_append, bS]
  rw [show (alph.filter fun c => (t :: ts).any fun t => hasL t c) = lts (t :: ts) from rfl]
  have l26 := lts_len (t :: ts)
  generalize hgl : lts (t :: ts) = l at h8 l26 ⊢
  have hn : l.Nodup := by rw [← hgl]; exact lts_nodup _
  rw [lenS_mk (by omega), bS, bS, decide_eq_false (by omega), bc_f, bS, sgnsO_mk (by omega), bS]
  have e3 : mapO (fun (_ : Str) => (some (l.map fun c => mkS [c])).bind fun xs => mapO (fun (_ : Str) => some Mir.c_NOUGHT_) xs) (l.map fun c => mkS [c]) = some (frt (tbl l.length fun x y => cs [] (l.getD x 0) (l.getD y 0))) := by
    rw [bS, e2]
    rw [mapO_map (g := fun _ : Str => frs ((List.range l.length).map fun _ => (0 : Rat))) fun x _ => by
      rw [mapO_map (g := fun _ : Str => fr 0) fun _ _ => rfl]
      refine congrArg some ?_
      unfold frs
      rw [List.map_map, List.map_map]
      refine List.ext_getElem (by rw [List.length_map, List.length_map, List.length_range]) fun i h1 h2 => ?_
      rw [List.getElem_map, List.getElem_map]
      rfl]
    refine congrArg some ?_
    unfold frt tbl
    rw [List.map_map, List.map_map]
    refine List.ext_getElem (by rw [List.length_map, List.length_map, List.length_range]) fun i h1 h2 => ?_
    rw [List.getElem_map, List.getElem_map]
    rfl
  rw [e3, bS, bS]
  have hz : Sq 1 (0 : Rat) := ⟨by decide, by decide⟩
  rw [form_loop hn (t :: ts) [] 1 (fun z hz => ⟨h z hz, by rw [← hgl]; exact lts_mem hz (h z hz)⟩) (fun _ _ _ _ => hz) (by omega), bS]
  rfl
end Mi

/-! forms shown as texts -/
namespace Mi
open PySem
open _root_.TL (tl numL joinL)
/-! ### terms of a fraction -/
def wnq (q : Rat) : Wn := if q.den = 1 then (if q.num.natAbs = 1 then .one else .wh q.num.natAbs) else .ov q.num.natAbs q.den
def tmq (q : Rat) (a b : Nat) : Tm := ⟨decide (q < 0), wnq q, a, b⟩
def wtx : Wn → List Nat
  | .one => []
  | .wh n => numL n ++ [42]
  | .ov n d => numL n ++ (47 :: numL d) ++ [42]
theorem word_eq (t : Tm) : t.word = wtx t.w ++ [t.a, 42, t.b] := by
  unfold Tm.word Tm.parts
  cases t.w with
  | one => rfl
  | wh n =>
    show numL n ++ ([42] ++ ([t.a] ++ ([42] ++ [t.b]))) = numL n ++ [42] ++ [t.a, 42, t.b]
    rw [List.append_assoc]
    rfl
  | ov n d =>
    show (numL n ++ 47 :: numL d) ++ ([42] ++ ([t.a] ++ ([42] ++ [t.b]))) = numL n ++ (47 :: numL d) ++ [42] ++ [t.a, 42, t.b]
    rw [List.append_assoc _ [42]]
    rfl
def Qs (q : Rat) : Prop := q.num.natAbs < 10 ^ 12 ∧ q.den < 10 ^ 12
theorem numL_len12 {n : Nat} (h : n < 10 ^ 12) : (numL n).length ≤ 12 := _root_.TL.numL_len (by decide) h
theorem wtx_len {q : Rat} (h : Qs q) : (wtx (wnq q)).length ≤ 26 := by
  have h1 := numL_len12 h.1
  have h2 := numL_len12 h.2
  unfold wnq
  split
  · split
    · exact Nat.zero_le _
    · show (numL _ ++ [42]).length ≤ 26
      rw [List.length_append]
      show _ + 1 ≤ 26
      omega
  · show (numL _ ++ (47 :: numL _) ++ [42]).length ≤ 26
    rw [List.length_append, List.length_append, List.length_cons]
    show _ + _ + 1 ≤ 26
    omega
theorem wordq_len {q : Rat} {a b : Nat} (h : Qs q) : (tmq q a b).word.length ≤ 29 := by
  have := wtx_len h
  rw [word_eq, List.length_append]
  show (wtx (wnq q)).length + 3 ≤ 29
  omega
theorem tmq_q (q : Rat) (a b : Nat) : (tmq q a b).q = q := by
  have hv : (wnq q).val = if q < 0 then -q else q := by
    have hd : (0 : Int) < (q.den : Int) := by have := q.den_pos; omega
    have hn : Rat.divInt (q.num.natAbs : Int) (q.den : Int) = if q < 0 then -q else q := by
      by_cases c : q < 0
      · rw [if_pos c]
        have hneg : q.num < 0 := by
          have := Rat.num_nonneg (q := q)
          by_cases g : 0 ≤ q.num
          · exact absurd (this.mp g) (by grind)
          · omega
        have e : (q.num.natAbs : Int) = -q.num := by omega
        rw [e, ← Rat.neg_divInt, show Rat.divInt q.num (q.den : Int) = q from fr_divInt q]
      · rw [if_neg c]
        have hpos : 0 ≤ q.num := Rat.num_nonneg.mpr (by grind)
        have e : (q.num.natAbs : Int) = q.num := by omega
        rw [e]
        exact fr_divInt q
    rw [← hn]
    unfold wnq
    split
    · rename_i e1
      split
      · rename_i e2
        rw [e1, e2]
        decide
      · rw [e1]
        rfl
    · rfl
  unfold Tm.q tmq
  dsimp only
  rw [hv]
  by_cases c : q < 0
  · rw [decide_eq_true c, if_pos rfl, if_pos c]
    grind
  · rw [decide_eq_false c, if_neg (by decide), if_neg c]
theorem fr_abs {q : Rat} : ((fr q).1.natAbs : Int) = (q.num.natAbs : Int) := rfl
/-- what stands before a term -/
def sgT (first neg : Bool) : List Nat := if first then (if neg then [45] else []) else (if neg then [32, 45, 32] else [32, 43, 32])
def appT (l : List Nat) (t : Tm) : List Nat := l ++ sgT (decide (l = [])) t.neg ++ t.word
theorem sgT_len (a b : Bool) : (sgT a b).length ≤ 3 := by cases a <;> cases b <;> decide
theorem appT_ne {l : List Nat} {t : Tm} : appT l t ≠ [] := by
  unfold appT
  rw [word_eq]
  intro h
  have := congrArg List.length h
  rw [List.length_append, List.length_append] at this
  have h2 : 3 ≤ (wtx t.w ++ [t.a, 42, t.b]).length := by rw [List.length_append]; show 3 ≤ _ + 3; omega
  have h3 : ([] : List Nat).length = 0 := rfl
  omega
theorem joinL_app (s : Nat) : ∀ (p q : List Nat) (r : List (List Nat)), joinL [s] (p :: q :: r) = joinL [s] ((p ++ [s] ++ q) :: r)
  | p, q, [] => by
    show p ++ ([s] ++ q) = p ++ [s] ++ q
    rw [List.append_assoc]
  | p, q, x :: r => by
    show p ++ ([s] ++ (q ++ ([s] ++ joinL [s] (x :: r)))) = (p ++ [s] ++ q) ++ ([s] ++ joinL [s] (x :: r))
    rw [List.append_assoc, List.append_assoc]
theorem fold_joinL : ∀ (ts : List Tm) (p : List Nat), p ≠ [] → ts.foldl appT p = joinL [32] (p :: wordsT ts)
  | [], p, _ => rfl
  | t :: ts, p, hp => by
    show ts.foldl appT (appT p t) = joinL [32] (p :: [if t.neg then 45 else 43] :: t.word :: wordsT ts)
    rw [fold_joinL ts _ appT_ne, joinL_app, joinL_app]
    refine congrArg (fun z => joinL [32] (z :: wordsT ts)) ?_
    unfold appT sgT
    rw [decide_eq_false hp]
    cases t.neg
    · show p ++ [32, 43, 32] ++ t.word = p ++ [32] ++ [43] ++ [32] ++ t.word
      simp
    · show p ++ [32, 45, 32] ++ t.word = p ++ [32] ++ [45] ++ [32] ++ t.word
      simp
theorem fold_textT (t : Tm) (ts : List Tm) : (t :: ts).foldl appT [] = textT t ts := by
  show ts.foldl appT (appT [] t) = joinL [32] (((if t.neg then [45] else []) ++ t.word) :: wordsT ts)
  rw [fold_joinL ts _ appT_ne]
  refine congrArg (fun z => joinL [32] (z :: wordsT ts)) ?_
  unfold appT sgT
  rw [decide_eq_true rfl]
  rfl
/-! ### loops as folds -/
theorem forN_fold {α S : Type} {b : S → α → Option S} {st : S → α → S} {P : Nat → S → Prop} {K : Nat} : ∀ (xs : List α) (k : Nat) (s : S), P k s → k + xs.length ≤ K → (∀ x ∈ xs, ∀ k s, k < K → P k s → b s x = some (st s x) ∧ P (k + 1) (st s x)) → forN b xs s = some (xs.foldl st s) ∧ P (k + xs.length) (xs.foldl st s)
  | [], k, s, h, _, _ => ⟨rfl, h⟩
  | x :: xs, k, s, h, hk, st => by
    rw [List.length_cons] at hk
    obtain ⟨h1, h2⟩ := st x List.mem_cons_self k s (by omega) h
    obtain ⟨h3, h4⟩ := forN_fold xs (k + 1) _ h2 (by omega) fun y hy => st y (List.mem_cons_of_mem _ hy)
    refine ⟨?_, ?_⟩
    · show (b s x).bind _ = _
      rw [h1, bS]
      exact h3
    · rw [List.length_cons, show k + (xs.length + 1) = k + 1 + xs.length by omega]
      exact h4
theorem rangeL_cast {i n : Nat} : rangeL (i : Int) (n : Int) = (List.range' i (n - i)).map fun (k : Nat) => (k : Int) := by
  unfold rangeL
  rw [show ((n : Int) - (i : Int)).toNat = n - i by omega, List.range'_eq_map_range, List.map_map]
  exact List.map_congr_left fun a _ => by show (i : Int) + (a : Int) = ((i + a : Nat) : Int); omega
/-- two loops, one in the other -/
def dbl {S : Type} (n : Nat) (st : Nat → Nat → S → S) (s : S) : S := (List.range n).foldl (fun s i => (List.range' i (n - i)).foldl (fun s j => st i j s) s) s
theorem forN_dbl {S : Type} {n : Nat} (hn : n ≤ 8) {b : Int → S → Int → Option S} {st : Nat → Nat → S → S} {P : Nat → S → Prop} (mono : ∀ k k' s, k ≤ k' → P k s → P k' s) (s : S) (h : P 0 s) (hb : ∀ i j, i ≤ j → j < n → ∀ k s, k < 64 → P k s → b i s j = some (st i j s) ∧ P (k + 1) (st i j s)) :
    forN (fun (s : S) (i : Int) => (rangeO i (n : Int)).bind fun xs => (forN (b i) xs s).bind fun z => some z) (rangeL 0 (n : Int)) s = some (dbl n st s) ∧ P 64 (dbl n st s) := by
  have key := forN_fold (b := fun (s : S) (i : Nat) => (rangeO (i : Int) (n : Int)).bind fun xs => (forN (b i) xs s).bind fun z => some z) (st := fun s i => (List.range' i (n - i)).foldl (fun s j => st i j s) s) (P := fun i s => P (8 * i) s) (K := n) (List.range n) 0 s h (by rw [List.length_range]; omega) fun i hi k s hk hP => by
    have hi := List.mem_range.mp hi
    have inner := forN_fold (b := fun (s : S) (j : Nat) => b i s j) (st := fun s j => st i j s) (P := P) (K := 64) (List.range' i (n - i)) (8 * k) s hP (by rw [List.length_range']; omega) fun j hj k s hk hP => by
      have hj := List.mem_range'_1.mp hj
      exact hb i j hj.1 (by omega) k s hk hP
    refine ⟨?_, mono _ _ _ (by rw [List.length_range']; omega) inner.2⟩
    show (rangeO (i : Int) (n : Int)).bind _ = _
    rw [rangeO_s (by omega) (by omega) (by omega) (by omega), bS, rangeL_cast]
    have e : forN (b i) ((List.range' i (n - i)).map fun (k : Nat) => (k : Int)) s = forN (fun (s : S) (j : Nat) => b i s j) (List.range' i (n - i)) s := by
      generalize List.range' i (n - i) = xs
      clear inner hP
      induction xs generalizing s with
      | nil => rfl
      | cons x xs ih =>
        show (b i s x).bind _ = (b i s x).bind _
        cases b i s x with
        | none => rfl
        | some z => exact ih z
    rw [e, inner.1, bS]
  refine ⟨?_, mono _ _ _ (by rw [List.length_range]; omega) key.2⟩
  rw [range_cast]
  refine Eq.trans ?_ key.1
  generalize List.range n = xs
  clear key h hb
  induction xs generalizing s with
  | nil => rfl
  | cons x xs ih =>
    rw [List.map_cons]
    unfold forN
    generalize ((rangeO (x : Int) (n : Int)).bind fun xs => (forN (b x) xs s).bind fun z => some z) = z
    cases z with
    | none => rfl
    | some z => exact ih z
/-- the pairs of places whose number isn't nought -/
def prsQ (n : Nat) (q : Nat → Nat → Rat) : List (Nat × Nat) := (List.range n).flatMap fun i => (List.range' i (n - i)).filterMap fun j => if q i j = 0 then none else some (i, j)
theorem dbl_fold {S : Type} {n : Nat} {q : Nat → Nat → Rat} {f : S → Nat × Nat → S} {st : Nat → Nat → S → S} (h : ∀ i j s, st i j s = if q i j = 0 then s else f s (i, j)) (s : S) : dbl n st s = (prsQ n q).foldl f s := by
  unfold dbl prsQ
  rw [List.foldl_flatMap]
  congr 1
  funext s i
  rw [List.foldl_filterMap]
  congr 1
  funext s j
  rw [h]
  by_cases c : q i j = 0
  · rw [if_pos c, if_pos c]
  · rw [if_neg c, if_neg c]
theorem prsQ_mem {n : Nat} {q : Nat → Nat → Rat} {p : Nat × Nat} : p ∈ prsQ n q ↔ p.1 ≤ p.2 ∧ p.2 < n ∧ q p.1 p.2 ≠ 0 := by
  unfold prsQ
  rw [List.mem_flatMap]
  constructor
  · rintro ⟨i, hi, h⟩
    obtain ⟨j, hj, e⟩ := List.mem_filterMap.mp h
    have hi := List.mem_range.mp hi
    have hj := List.mem_range'_1.mp hj
    by_cases c : q i j = 0
    · rw [if_pos c] at e; cases e
    · rw [if_neg c] at e
      cases e
      exact ⟨hj.1, by show j < n; omega, c⟩
  · intro ⟨h1, h2, h3⟩
    exact ⟨p.1, List.mem_range.mpr (by omega), List.mem_filterMap.mpr ⟨p.2, List.mem_range'_1.mpr ⟨h1, by omega⟩, by rw [if_neg h3]⟩⟩
theorem prsQ_nodup (n : Nat) (q : Nat → Nat → Rat) : (prsQ n q).Nodup := by
  unfold prsQ
  refine List.pairwise_flatMap.mpr ⟨fun i _ => ?_, ?_⟩
  · refine List.Pairwise.filterMap _ (R := (· ≠ ·)) (fun a a' hne b hb b' hb' => ?_) (List.nodup_range' (step := 1))
    intro e
    by_cases c : q i a = 0
    · rw [if_pos c] at hb; cases hb
    · rw [if_neg c] at hb
      by_cases c' : q i a' = 0
      · rw [if_pos c'] at hb'; cases hb'
      · rw [if_neg c'] at hb'
        cases hb
        cases hb'
        exact hne (congrArg Prod.snd e)
  · refine List.Pairwise.imp ?_ List.nodup_range
    intro i i' hne x hx y hy e
    obtain ⟨j, _, ex⟩ := List.mem_filterMap.mp hx
    obtain ⟨j', _, ey⟩ := List.mem_filterMap.mp hy
    by_cases c : q i j = 0
    · rw [if_pos c] at ex; cases ex
    · rw [if_neg c] at ex
      by_cases c' : q i' j' = 0
      · rw [if_pos c'] at ey; cases ey
      · rw [if_neg c'] at ey
        cases ex
        cases ey
        exact hne (congrArg Prod.fst e)
theorem prsQ_len {n : Nat} (hn : n ≤ 8) (q : Nat → Nat → Rat) : (prsQ n q).length ≤ 64 := by
  unfold prsQ
  rw [List.length_flatMap]
  have key : ∀ xs : List Nat, xs.length ≤ 8 → (xs.map fun i => ((List.range' i (n - i)).filterMap fun j => if q i j = 0 then none else some (i, j)).length).sum ≤ 8 * xs.length := by
    intro xs
    induction xs with
    | nil => intro _; exact Nat.le_refl 0
    | cons x xs ih =>
      intro h
      rw [List.length_cons] at h
      have h1 := ih (by omega)
      have h2 := List.length_filterMap_le (fun j => if q x j = 0 then none else some (x, j)) (List.range' x (n - x))
      rw [List.length_range'] at h2
      rw [List.map_cons, List.sum_cons, List.length_cons]
      omega
  have := key (List.range n) (by rw [List.length_range]; exact hn)
  rw [List.length_range] at this
  omega
/-! ### the two texts -/
def feq (t : List (List Rat)) (i j : Nat) : Rat := gt (gtt t i) j
/-- the number of a term -/
def qst (t : List (List Rat)) (i j : Nat) : Rat := if i = j then feq t i i else feq t i j + feq t i j
def tmP (L : List Nat) (t : List (List Rat)) (p : Nat × Nat) : Tm := tmq (qst t p.1 p.2) (L.getD p.1 0) (L.getD p.2 0)
def vP (L : List Nat) (t : List (List Rat)) (p : Nat × Nat) : T3 (Int × Int) Str Str := T3.mk (fr (qst t p.1 p.2)) (mkS [L.getD p.1 0]) (mkS [L.getD p.2 0])
theorem ixF {t : List (List Rat)} {n m i j : Nat} (ht : Tb n m t) (hi : i < n) (hj : j < n) : ((ixO (frt t) (i : Int)).bind fun xs => (some (j : Int)).bind fun k => ixO xs k) = some (fr (feq t i j)) := by
  rw [ix_frt (by rw [ht.len]; exact hi), bS, bS, ix_frs (by rw [(ht.gtt hi).1]; exact hj)]
  rfl
theorem ixL {L : List Nat} {k : Nat} (h : k < L.length) (h8 : L.length ≤ 8) : ixS (mkS L) (k : Int) = some (mkS [L.getD k 0]) :=
  ixS_mk (by omega) (by rw [List.getD_eq_getElem?_getD, List.getElem?_eq_getElem h]; rfl)
end Mi

/-! drawn letters -/
namespace Mi
open PySem
open _root_.TL (tl numL joinL)
theorem sorted_ext : ∀ {a b : List Nat}, a.Pairwise (· < ·) → b.Pairwise (· < ·) → (∀ c, c ∈ a ↔ c ∈ b) → a = b
  | [], [], _, _, _ => rfl
  | [], y :: b, _, _, h => absurd ((h y).mpr List.mem_cons_self) List.not_mem_nil
  | x :: a, [], _, _, h => absurd ((h x).mp List.mem_cons_self) List.not_mem_nil
  | x :: a, y :: b, ha, hb, h => by
    rw [List.pairwise_cons] at ha hb
    have e : x = y := by
      rcases List.mem_cons.mp ((h x).mp List.mem_cons_self) with e | e
      · exact e
      · rcases List.mem_cons.mp ((h y).mpr List.mem_cons_self) with g | g
        · exact g.symm
        · have h1 := hb.1 x e
          have h2 := ha.1 y g
          omega
    subst e
    rw [sorted_ext ha.2 hb.2 fun c => ⟨fun hc => ?_, fun hc => ?_⟩]
    · rcases List.mem_cons.mp ((h c).mp (List.mem_cons_of_mem _ hc)) with e | e
      · have := ha.1 c hc; omega
      · exact e
    · rcases List.mem_cons.mp ((h c).mpr (List.mem_cons_of_mem _ hc)) with e | e
      · have := hb.1 c hc; omega
      · exact e
structure Lt8 (n : Nat) (L : List Nat) : Prop where
  len : L.length = n
  up : L.Pairwise (· < ·)
  let' : ∀ c ∈ L, 97 ≤ c ∧ c < 123
theorem letters_tot {n : Nat} (h8 : n ≤ 8) (rest : Int) : Tot (Mir.law_letters_ (n : Int) rest) fun v => ∃ L, v = mkS L ∧ Lt8 n L := by
  unfold Mir.law_letters_
  rw [bS, L_empty, L_alph, rangeO_s (by decide) (by decide) (by decide) (by decide), bS]
  refine tot_bind (Q := fun s : Int × Str => ∃ L, s.2 = mkS L ∧ Lt8 n L) (tot_forI2 (fun i s => ∃ L : List Nat, s.2 = mkS L ∧ L.length ≤ n ∧ (n : Int) - L.length ≤ 26 - i ∧ L.Pairwise (· < ·) ∧ ∀ c ∈ L, 97 ≤ c ∧ (c : Int) < 97 + i) (by decide) ⟨[], rfl, Nat.zero_le _, by show (n : Int) - 0 ≤ 26 - 0; omega, List.Pairwise.nil, fun c h => nomatch h⟩ (fun i s i0 i1 ⟨L, es, h1, h2, h3, h4⟩ => ?_) fun s ⟨L, es, h1, h2, h3, h4⟩ => ⟨L, es, by omega, h3, fun c hc => by have := h4 c hc; omega⟩) fun s h => tot_some h
  obtain ⟨i, rfl⟩ := Int.eq_ofNat_of_zero_le i0
  have hi : i < 26 := by omega
  rw [es, bS, lenS_mk (by omega), bS, bS]
  have hc : alph[i]? = some (97 + i) := by
    unfold alph
    rw [List.getElem?_range' hi, Nat.one_mul]
  rw [ixS_mk (by decide) hc, bS]
  refine tot_bind (Q := fun v : Str => ∃ L' : List Nat, v = mkS L' ∧ L'.length ≤ n ∧ (n : Int) - L'.length ≤ 26 - ((i : Int) + 1) ∧ L'.Pairwise (· < ·) ∧ ∀ c ∈ L', 97 ≤ c ∧ (c : Int) < 97 + ((i : Int) + 1)) (tot_cond (fun ht => ?_) fun hf => ?_) fun v ⟨L', ev, g⟩ => by rw [bS]; exact tot_some ⟨L', ev, g⟩
  · rw [Bool.and_eq_true, decide_eq_true_eq] at ht
    rw [bS, bS, catS_mk (by show _ + 1 ≤ _; omega), bS]
    refine tot_some ⟨L ++ [97 + i], rfl, by rw [List.length_append]; show _ + 1 ≤ n; omega, by rw [List.length_append]; show (n : Int) - ((L.length + 1 : Nat) : Int) ≤ _; omega, ?_, fun c hc => ?_⟩
    · refine List.pairwise_append.mpr ⟨h3, List.pairwise_singleton _ _, fun a ha b hb => ?_⟩
      rw [List.mem_singleton.mp hb]
      have := h4 a ha
      omega
    · rcases List.mem_append.mp hc with hc | hc
      · have := h4 c hc; omega
      · rw [List.mem_singleton.mp hc]; omega
  · rw [Bool.and_eq_false_iff, decide_eq_false_iff_not, Bool.or_eq_false_iff, decide_eq_false_iff_not, decide_eq_false_iff_not] at hf
    exact tot_some ⟨L, rfl, h1, by omega, h3, fun c hc => by have := h4 c hc; omega⟩
section
variable {n : Nat} {L : List Nat} {t : List (List Rat)}
theorem L_lt (hL : Lt8 n L) {i j : Nat} (hij : i < j) (hj : j < n) : L.getD i 0 < L.getD j 0 := by
  have h1 := hL.len
  have := List.pairwise_iff_getElem.mp hL.up i j (by omega) (by omega) hij
  rw [List.getD_eq_getElem?_getD, List.getD_eq_getElem?_getD, List.getElem?_eq_getElem (show i < L.length by omega), List.getElem?_eq_getElem (show j < L.length by omega)]
  exact this
theorem L_inj (hL : Lt8 n L) {i j : Nat} (hi : i < n) (hj : j < n) : L.getD i 0 = L.getD j 0 ↔ i = j := by
  constructor
  · intro h
    rcases Nat.lt_trichotomy i j with c | c | c
    · have := L_lt hL c hj; omega
    · exact c
    · have := L_lt hL c hi; omega
  · rintro rfl; rfl
theorem L_let (hL : Lt8 n L) {i : Nat} (hi : i < n) : 97 ≤ L.getD i 0 ∧ L.getD i 0 < 123 := by
  have h1 := hL.len
  rw [List.getD_eq_getElem?_getD, List.getElem?_eq_getElem (show i < L.length by omega)]
  exact hL.let' _ (List.getElem_mem _)
end
end Mi

/-! law k73: forms read -/
namespace Mi
open PySem
open _root_.TL (tl numL joinL)
theorem wn_len {w : Wn} (h : w.Ok) : (wtx w).length ≤ 30 := by
  cases w with
  | one => exact Nat.zero_le _
  | wh n =>
    have := numL_len9 h
    show (numL n ++ [42]).length ≤ 30
    rw [List.length_append]
    show _ + 1 ≤ 30
    omega
  | ov n d =>
    have h1 := numL_len9 h.1
    have h2 := numL_len9 h.2.1
    show (numL n ++ (47 :: numL d) ++ [42]).length ≤ 30
    rw [List.length_append, List.length_append, List.length_cons]
    show _ + _ + 1 ≤ 30
    omega
theorem modO_in {x y : Int} (hy : 0 < y) : ∃ r : Int, modO x y = some r ∧ 0 ≤ r ∧ r < y := ⟨x.fmod y, if_pos (by omega), Int.fmod_nonneg_of_pos _ hy, Int.fmod_lt_of_pos _ hy⟩
theorem written_tot (rest : Int) : Tot (Mir.law_written_ rest) fun v => ∃ w : Wn, w.Ok ∧ v.a = mkS (wtx w) ∧ v.b = fr w.val := by
  have b : (10 : Nat) ^ 9 < 2 ^ 200 := by decide
  unfold Mir.law_written_
  rw [bS, bS, bS]
  obtain ⟨y, hy, ym⟩ := ixO_in (xs := [(10 : Int), 1000000000]) (i := rest / 3 / 1000000000 % 2) (by omega) (by show rest / 3 / 1000000000 % 2 < 2; omega)
  obtain ⟨z, hz, zm⟩ := ixO_in (xs := [(9 : Int), 999999999]) (i := rest / 3 / 1000000000 % 2) (by omega) (by show rest / 3 / 1000000000 % 2 < 2; omega)
  have ym : y = 10 ∨ y = 1000000000 := by simpa using ym
  have zm : z = 9 ∨ z = 999999999 := by simpa using zm
  obtain ⟨top, ht, t0, t1⟩ := modO_in (x := rest / 3) (y := y) (by omega)
  obtain ⟨bo, hb, b0, b1⟩ := modO_in (x := rest / 3 / 2000000000) (y := z) (by omega)
  obtain ⟨n, rfl⟩ := Int.eq_ofNat_of_zero_le t0
  obtain ⟨d, rfl⟩ := Int.eq_ofNat_of_zero_le b0
  have hn : n < 10 ^ 9 := by omega
  have hd : 1 + d < 10 ^ 9 := by omega
  have hl := numL_len9 hn
  have hl2 := numL_len9 hd
  have ed : (1 : Int) + (d : Int) = ((1 + d : Nat) : Int) := by omega
  rw [hy, bS, ht, bS, bS, bS, hz, bS, hb, bS, bS, ed, bS]
  refine tot_cond (fun _ => tot_some ⟨.one, trivial, L_empty, (show ((1 : Int), (1 : Int)) = fr 1 by decide)⟩) fun _ => ?_
  rw [bS]
  refine tot_cond (fun _ => ?_) fun _ => ?_
  · rw [strI_num (Nat.lt_trans hn b), bS, bS, L_star, catS_mk (by show _ + 1 ≤ _; omega), bS, bS, bS]
    exact tot_some ⟨.wh n, hn, rfl, (fr_of (Int.le_refl 1) (Int.gcd_one_right _))⟩
  · rw [strI_num (Nat.lt_trans hn b), bS, bS, L_slash, catS_mk (by show _ + 1 ≤ _; omega), bS, strI_num (Nat.lt_trans hd b), bS, catS_mk (by rw [List.length_append]; show _ + 1 + _ ≤ _; omega), bS, bS, L_star, catS_mk (by rw [List.length_append, List.length_append]; show _ + 1 + _ + 1 ≤ _; omega), bS, law_low_eq (by omega) (sz30 hd) (by decide), bS, bS]
    refine tot_some ⟨.ov n (1 + d), ⟨hn, hd, by omega⟩, ?_, rfl⟩
    show mkS _ = mkS (numL n ++ (47 :: numL (1 + d)) ++ [42])
    refine congrArg mkS ?_
    rw [List.append_assoc (numL n)]
    rfl
def vT (t : Tm) : T3 (Int × Int) Str Str := T3.mk (fr t.q) (mkS [t.a]) (mkS [t.b])
theorem fold_ne : ∀ (ts : List Tm) (l : List Nat), l ≠ [] → ts.foldl appT l ≠ []
  | [], _, h => h
  | t :: ts, l, _ => fold_ne ts _ appT_ne
theorem fold_nil {ts : List Tm} : ts.foldl appT [] = [] ↔ ts = [] := by
  cases ts with
  | nil => exact ⟨fun _ => rfl, fun _ => rfl⟩
  | cons t ts => exact ⟨fun h => absurd h (fold_ne ts _ appT_ne), fun h => nomatch h⟩
theorem terms_tot {n : Nat} {L : List Nat} (hL : Lt8 n L) (n0 : 0 < n) (h8 : n ≤ 8) {m : Nat} (hm : m ≤ 40) (rest signs : Int) : Tot (Mir.law_terms_ (mkS L) (m : Int) rest signs) fun v => ∃ ts : List Tm, ts.length = m ∧ (∀ t ∈ ts, t.Ok ∧ t.a ∈ L ∧ t.b ∈ L) ∧ v.1 = mkS (ts.foldl appT []) ∧ v.2 = ts.map vT := by
  have hlen := hL.len
  unfold Mir.law_terms_
  rw [bS, bS, L_empty, rangeO_s (by decide) (by decide) (by omega) (by omega), bS]
  refine tot_bind (Q := fun s : Int × Str × (List (T3 (Int × Int) Str Str)) => ∃ ts : List Tm, ts.length = m ∧ (∀ t ∈ ts, t.Ok ∧ t.a ∈ L ∧ t.b ∈ L) ∧ s.2.1 = mkS (ts.foldl appT []) ∧ s.2.2 = ts.map vT) (tot_forI2 (fun i s => ∃ ts : List Tm, (ts.length : Int) = i ∧ (∀ t ∈ ts, t.Ok ∧ t.a ∈ L ∧ t.b ∈ L) ∧ s.2.1 = mkS (ts.foldl appT []) ∧ s.2.2 = ts.map vT ∧ (ts.foldl appT []).length ≤ 64 * ts.length) (by omega) ⟨[], rfl, (fun _ h => absurd h List.not_mem_nil), rfl, rfl, Nat.le_refl 0⟩ (fun i s i0 i1 ⟨ts, h1, h2, h3, h4, h5⟩ => ?_) fun s ⟨ts, h1, h2, h3, h4, h5⟩ => ⟨ts, by omega, h2, h3, h4⟩) fun s ⟨ts, h1, h2, h3, h4⟩ => tot_some ⟨ts, h1, h2, h3, h4⟩
  subst h1
  have ht40 : ts.length < 40 := by omega
  rw [h3, h4]
  generalize hl0 : ts.foldl appT [] = l at h5 ⊢
  have hle : l = [] ↔ ts = [] := by rw [← hl0]; exact fold_nil
  rw [bS, bS, lenS_mk (by omega), bS]
  obtain ⟨k, hk, k0, k1⟩ := modO_in (x := s.1) (y := (L.length : Int)) (by omega)
  obtain ⟨j, hj, j0, j1⟩ := modO_in (x := s.1 / 8) (y := (L.length : Int)) (by omega)
  obtain ⟨k, rfl⟩ := Int.eq_ofNat_of_zero_le k0
  obtain ⟨j, rfl⟩ := Int.eq_ofNat_of_zero_le j0
  have hkn : k < n := by omega
  have hjn : j < n := by omega
  rw [hk, bS, ixL (by omega) (by omega), bS, bS, bS, bS, hj, bS, ixL (by omega) (by omega), bS]
  refine tot_bind (written_tot _) fun t2 ⟨w, hw, e1, e2⟩ => ?_
  rw [e1, e2]
  have hwl := wn_len hw
  have ex : ∃ neg : Bool, ((((some (signs)).bind fun x => (shlO 1 (ts.length : Int)).bind fun y => divO x y).bind fun x => some (x % 2)).bind fun x => (some (1 : Int)).bind fun y => some (decide (x = y))) = some neg := by
    have f1 : shlO 1 (ts.length : Int) = some (1 * 2 ^ ts.length) := if_pos ⟨by omega, by omega, by decide⟩
    have f2 : divO signs (1 * 2 ^ ts.length) = some (signs.fdiv (1 * 2 ^ ts.length)) := divO_sz (n := 41) (by rw [Int.one_mul]; exact Int.pow_ne_zero (by decide)) (by
      rw [Int.one_mul]
      unfold Sz
      rw [Int.natAbs_pow]
      exact Nat.pow_lt_pow_right (by decide) (by omega)) (by decide)
    refine ⟨decide (signs.fdiv (1 * 2 ^ ts.length) % 2 = 1), ?_⟩
    rw [bS, f1, bS, f2, bS, bS, bS]
  obtain ⟨neg, eneg⟩ := ex
  rw [eneg, bS]
  have e3 : ((some (decide (0 < (ts.length : Int)))).bind fun b => cond b (((some (mkS l)).bind fun x => (ixO ([(Str.ofString " + "), (Str.ofString " - ")]) (if neg then (1 : Int) else 0)).bind fun y => catS x y).bind fun law_text_ => some law_text_) ((some neg).bind fun b => cond b ((catS (mkS l) (Str.ofString "-")).bind fun law_text_ => some law_text_) (some (mkS l)))) = some (mkS (l ++ sgT (decide (l = [])) neg)) := by
    rw [L_splus, L_sminus, L_minus]
    by_cases c : ts = []
    · have hl : l = [] := hle.mpr c
      rw [c, decide_eq_false (by decide), bc_f, hl, decide_eq_true rfl]
      cases neg with
      | true => rw [bc_t, catS_mk (by decide), bS]; rfl
      | false => rw [bc_f]; rfl
    · have hl : ¬ l = [] := fun g => c (hle.mp g)
      have hp : 0 < ts.length := List.length_pos_iff.mpr c
      rw [decide_eq_true (show (0 : Int) < (ts.length : Int) by omega), bc_t, decide_eq_false hl]
      cases neg with
      | true => rw [if_pos rfl, bS, show ixO [mkS [32, 43, 32], mkS [32, 45, 32]] 1 = some (mkS [32, 45, 32]) from rfl, bS, catS_mk (by show _ + 3 ≤ _; omega), bS]; rfl
      | false => rw [if_neg (by decide), bS, show ixO [mkS [32, 43, 32], mkS [32, 45, 32]] 0 = some (mkS [32, 43, 32]) from rfl, bS, catS_mk (by show _ + 3 ≤ _; omega), bS]; rfl
  have hsl := sgT_len (decide (l = [])) neg
  obtain ⟨t, et⟩ : ∃ t : Tm, t = ⟨neg, w, L.getD k 0, L.getD j 0⟩ := ⟨_, rfl⟩
  have hok : t.Ok := by rw [et]; exact ⟨hw, L_let hL hkn, L_let hL hjn⟩
  have hword : t.word = wtx w ++ [L.getD k 0, 42, L.getD j 0] := by rw [word_eq, et]
  have happ : appT l t = l ++ sgT (decide (l = [])) neg ++ (wtx w ++ [L.getD k 0, 42, L.getD j 0]) := by
    unfold appT
    rw [hword, et]
  have e4 : ((some neg).bind fun b => cond b ((some ((-(fr w.val).1, (fr w.val).2))).bind fun law_number_ => some law_number_) (some (fr w.val))) = some (fr t.q) := by
    rw [et]
    unfold Tm.q
    cases neg with
    | true =>
      rw [bc_t, bS, if_pos rfl]
      refine congrArg some ?_
      unfold fr
      rw [Rat.neg_num, Rat.neg_den]
    | false => rw [bc_f, if_neg (by decide : ¬ (false = true))]
  rw [e3, bS, catS_mk (by rw [List.length_append]; omega), bS, bS, catS_mk (by rw [List.length_append, List.length_append]; show _ + 1 ≤ _; omega), bS, bS, L_star, catS_mk (by rw [List.length_append, List.length_append, List.length_append]; show _ + 1 + 1 ≤ _; omega), bS, bS, catS_mk (by rw [List.length_append, List.length_append, List.length_append, List.length_append]; show _ + 1 + 1 + 1 ≤ _; omega), bS, e4, bS, bS]
  have ea : appO (ts.map vT) (T3.mk (fr t.q) (mkS [L.getD k 0]) (mkS [L.getD j 0])) = some ((ts ++ [t]).map vT) := by
    unfold appO
    rw [List.length_map, if_pos (by omega), List.map_append]
    refine congrArg some ?_
    show _ = _ ++ [vT t]
    unfold vT
    rw [et]
  rw [ea, bS]
  have ef : (ts ++ [t]).foldl appT [] = l ++ sgT (decide (l = [])) neg ++ (wtx w ++ [L.getD k 0, 42, L.getD j 0]) := by
    rw [List.foldl_append, hl0]
    exact happ
  refine tot_some ⟨ts ++ [t], by rw [List.length_append]; rfl, fun z hz => ?_, ?_, rfl, ?_⟩
  · rcases List.mem_append.mp hz with hz | hz
    · exact h2 z hz
    · rw [List.mem_singleton.mp hz]
      have hg : ∀ x, x < n → L.getD x 0 ∈ L := fun x hx => by
        rw [List.getD_eq_getElem?_getD, List.getElem?_eq_getElem (show x < L.length by omega)]
        exact List.getElem_mem _
      exact ⟨hok, by rw [et]; exact hg k hkn, by rw [et]; exact hg j hjn⟩
  · rw [ef]
    show mkS _ = mkS _
    refine congrArg mkS ?_
    simp
  · rw [ef, List.length_append, List.length_append, List.length_append]
    show l.length + _ + (_ + 3) ≤ 64 * (ts ++ [t]).length
    rw [List.length_append]
    show _ ≤ 64 * (ts.length + 1)
    omega
/-! ### what is due -/
theorem filO_mapS {c : Str → Option Bool} {p : Nat → Bool} : ∀ {xs : List Nat}, (∀ x ∈ xs, c (mkS [x]) = some (p x)) → filO c (fun x => some x) (xs.map fun x => mkS [x]) = some ((xs.filter p).map fun x => mkS [x])
  | [], _ => rfl
  | x :: xs, h => by
    rw [List.map_cons]
    unfold filO
    rw [h x List.mem_cons_self, bS, bS, filO_mapS fun y hy => h y (List.mem_cons_of_mem _ hy), bS]
    by_cases c : p x = true
    · rw [c, List.filter_cons_of_pos c]
      rfl
    · have c2 : p x = false := by simpa using c
      rw [c2, List.filter_cons_of_neg (by rw [c2]; decide)]
      rfl
theorem idxL_ex {x : Str} : ∀ {xs : List Str}, x ∈ xs → ∃ j, idxL x xs = some j
  | y :: r, h => by
    unfold idxL
    by_cases e : y = x
    · rw [if_pos e]; exact ⟨0, rfl⟩
    · rw [if_neg e]
      rcases List.mem_cons.mp h with h | h
      · exact absurd h.symm e
      · obtain ⟨j, hj⟩ := idxL_ex h
        exact ⟨j + 1, by rw [hj]; rfl⟩
theorem idxLO_mk {l : List Nat} {c k : Nat} (hn : l.Nodup) (hk : l[k]? = some c) : idxLO (l.map fun c => mkS [c]) (mkS [c]) = some (k : Int) := by
  have hm : mkS [c] ∈ l.map fun c => mkS [c] := List.mem_map.mpr ⟨c, List.mem_iff_getElem?.mpr ⟨k, hk⟩, rfl⟩
  obtain ⟨j, hj⟩ := idxL_ex hm
  have h1 := (idxL_at hj).1
  rw [List.getElem?_map] at h1
  obtain ⟨c', hc', e⟩ := Option.map_eq_some_iff.mp h1
  have e : c' = c := by simpa using mkS_inj.mp e
  subst e
  have : j = k := (List.getElem?_inj (List.getElem?_eq_some_iff.mp hc').1 hn).mp (hc'.trans hk.symm)
  subst this
  unfold idxLO
  rw [hj]
  rfl
theorem due_step {t : Tm} {l : List Nat} (hn : l.Nodup) (h : t.Ok) (ha : t.a ∈ l) (hb : t.b ∈ l) {g : Nat → Nat → Rat} {k : Nat} (hg : ∀ i j, i < l.length → j < l.length → Sq k (g i j)) (hk : k ≤ 8000) :
    ((idxLO (l.map fun c => mkS [c]) (vT t).b).bind fun law_i_ => (idxLO (l.map fun c => mkS [c]) (vT t).c).bind fun law_j_ => (Mir.law_times_ (vT t).a (1, 2)).bind fun law_half_ => (((some (law_i_)).bind fun x => (some (law_j_)).bind fun y => (ixO (frt (tbl l.length g)) x).bind fun r => ixO r y).bind fun x0 => (some (law_half_)).bind fun x1 => Mir.law_plus_ x0 x1).bind fun x => (some (law_i_)).bind fun i => (some (law_j_)).bind fun j => (set2O (frt (tbl l.length g)) i j x).bind fun law_form_ => (((some (law_j_)).bind fun x => (some (law_i_)).bind fun y => (ixO law_form_ x).bind fun r => ixO r y).bind fun x0 => (some (law_half_)).bind fun x1 => Mir.law_plus_ x0 x1).bind fun x => (some (law_j_)).bind fun i => (some (law_i_)).bind fun j => (set2O law_form_ i j x).bind fun law_form_ => some law_form_) = some (frt (tbl l.length fun x y => g x y + ctr t (l.getD x 0) (l.getD y 0))) ∧
      ∀ i j, i < l.length → j < l.length → Sq (k + 70) (g i j + ctr t (l.getD i 0) (l.getD j 0)) := by
  have f2 : ((1 : Int), (2 : Int)) = fr (Rat.divInt 1 2) := by decide
  have sh : Sq 32 (t.q * Rat.divInt 1 2) := (Sq.mul (m := 30) (n := 2) (Tm.sq h) ⟨by decide, by decide⟩)
  have sh' : Sq 32 (Rat.divInt 1 2 * t.q) := by rw [Rat.mul_comm]; exact sh
  have hz : Sq 32 (0 : Rat) := ⟨Sz.mono (m := 1) (show Sz 1 0 by decide) (by decide), Sz.mono (m := 1) (show Sz 1 1 by decide) (by decide)⟩
  have mono : ∀ {q : Rat}, Sq k q → Sq (k + 70) q := fun h => h.mono (by omega)
  refine ⟨?_, fun i j hi hj => ?_⟩
  · obtain ⟨i, hi, li⟩ := idx_ex ha
    obtain ⟨j, hj, lj⟩ := idx_ex hb
    have e1 : (vT t).b = mkS [t.a] := rfl
    have e2 : (vT t).c = mkS [t.b] := rfl
    have e3 : (vT t).a = fr t.q := rfl
    rw [e1, e2, e3, idxLO_mk hn hi, bS, idxLO_mk hn hj, bS, f2, law_times_eq (m := 30) (n := 2) (Tm.sq h) ⟨by decide, by decide⟩ (by decide), bS, bS, bS, ix2_tbl li lj, bS, bS, law_plus_eq (hg i j li lj) sh (by omega), bS, bS, bS,
      set2_tbl (a := k + 34) (fun x y hx hy => (hg x y hx hy).mono (by omega)) li lj (((hg i j li lj).add sh).mono (by omega)), bS, bS, bS, ix2_tbl lj li]
    have hg2 : ∀ x y, x < l.length → y < l.length → Sq (k + 34) (if x = i ∧ y = j then g i j + t.q * Rat.divInt 1 2 else g x y) := fun x y hx hy => by
      split
      · exact ((hg i j li lj).add sh).mono (by omega)
      · exact (hg x y hx hy).mono (by omega)
    rw [bS, bS, law_plus_eq (hg2 j i lj li) sh (by omega), bS, bS, bS, set2_tbl (a := k + 70) (fun x y hx hy => (hg2 x y hx hy).mono (by omega)) lj li (((hg2 j i lj li).add sh).mono (by omega)), bS]
    refine congrArg (fun z => some (frt z)) (tbl_congr fun x y hx hy => ?_)
    have k1 := getD_inj hn hx hi
    have k2 := getD_inj hn hx hj
    have k3 := getD_inj hn hy hi
    have k4 := getD_inj hn hy hj
    unfold ctr
    have half2 : Rat.divInt 1 2 + Rat.divInt 1 2 = 1 := by
      rw [Rat.divInt_add_divInt _ _ (by decide) (by decide)]
      exact (divInt_iff (c := 1) (d := 1) (by decide) (by decide)).mpr (by decide)
    by_cases hab : t.a = t.b
    · have hij : i = j := (List.getElem?_inj li hn).mp (by rw [hi, hj, hab])
      subst hij
      rw [if_pos hab]
      by_cases c : x = i ∧ y = i
      · rw [if_pos c, if_pos ⟨rfl, rfl⟩, if_pos ⟨k1.mpr c.1, k3.mpr c.2⟩, c.1, c.2]
        calc g i i + t.q * Rat.divInt 1 2 + t.q * Rat.divInt 1 2 = g i i + t.q * (Rat.divInt 1 2 + Rat.divInt 1 2) := by grind
          _ = g i i + t.q := by rw [half2]; grind
      · rw [if_neg c, if_neg c, if_neg fun z => c ⟨k1.mp z.1, k3.mp z.2⟩]
        grind
    · have hij : i ≠ j := fun e => by
        rw [e, hj] at hi
        exact hab (Option.some.inj hi).symm
      rw [if_neg hab]
      by_cases c2 : x = j ∧ y = i
      · rw [if_pos c2, if_neg (fun z => hij z.1.symm), if_pos (.inr ⟨k2.mpr c2.1, k3.mpr c2.2⟩), c2.1, c2.2, Rat.mul_comm t.q]
      · rw [if_neg c2]
        by_cases c1 : x = i ∧ y = j
        · rw [if_pos c1, if_pos (.inl ⟨k1.mpr c1.1, k4.mpr c1.2⟩), c1.1, c1.2, Rat.mul_comm t.q]
        · rw [if_neg c1, if_neg fun z => z.elim (fun z => c1 ⟨k1.mp z.1, k4.mp z.2⟩) fun z => c2 ⟨k2.mp z.1, k3.mp z.2⟩]
          grind
  · have hc : Sq 33 (ctr t (l.getD i 0) (l.getD j 0)) := by
      unfold ctr
      split
      · split
        · exact (Tm.sq h).mono (by decide)
        · exact hz.mono (by decide)
      · split
        · exact sh'.mono (by decide)
        · exact hz.mono (by decide)
    exact ((hg i j hi hj).add hc).mono (by omega)
theorem due_loop {l : List Nat} (hn : l.Nodup) : ∀ (ts pre : List Tm) (k : Nat), (∀ t ∈ ts, t.Ok ∧ t.a ∈ l ∧ t.b ∈ l) → (∀ i j, i < l.length → j < l.length → Sq k (cs pre (l.getD i 0) (l.getD j 0))) → k + 70 * ts.length ≤ 8000 →
    forN (fun (s6 : (List (List (Int × Int)))) (i6 : (T3 (Int × Int) Str Str)) => (idxLO (l.map fun c => mkS [c]) i6.b).bind fun law_i_ => (idxLO (l.map fun c => mkS [c]) i6.c).bind fun law_j_ => (Mir.law_times_ i6.a (1, 2)).bind fun law_half_ => (((some (law_i_)).bind fun x => (some (law_j_)).bind fun y => (ixO s6 x).bind fun r => ixO r y).bind fun x0 => (some (law_half_)).bind fun x1 => Mir.law_plus_ x0 x1).bind fun x => (some (law_i_)).bind fun i => (some (law_j_)).bind fun j => (set2O s6 i j x).bind fun law_form_ => (((some (law_j_)).bind fun x => (some (law_i_)).bind fun y => (ixO law_form_ x).bind fun r => ixO r y).bind fun x0 => (some (law_half_)).bind fun x1 => Mir.law_plus_ x0 x1).bind fun x => (some (law_j_)).bind fun i => (some (law_i_)).bind fun j => (set2O law_form_ i j x).bind fun law_form_ => some law_form_) (ts.map vT) (frt (tbl l.length fun x y => cs pre (l.getD x 0) (l.getD y 0))) = some (frt (tbl l.length fun x y => cs (pre ++ ts) (l.getD x 0) (l.getD y 0)))
  | [], pre, k, _, _, _ => by rw [List.append_nil]; rfl
  | t :: ts, pre, k, h, hk, hl => by
    obtain ⟨ht, ha, hb⟩ := h t List.mem_cons_self
    rw [List.length_cons] at hl
    have st := due_step hn ht ha hb (g := fun x y => cs pre (l.getD x 0) (l.getD y 0)) hk (by omega)
    rw [List.map_cons]
    unfold forN
    rw [st.1, bS]
    have e : (fun x y => cs pre (l.getD x 0) (l.getD y 0) + ctr t (l.getD x 0) (l.getD y 0)) = fun x y => cs (pre ++ [t]) (l.getD x 0) (l.getD y 0) := funext fun x => funext fun y => (cs_snoc t _ _ pre).symm
    rw [e, due_loop hn ts (pre ++ [t]) (k + 70) (fun z hz => h z (List.mem_cons_of_mem _ hz)) (fun i j hi hj => by rw [cs_snoc]; exact st.2 i j hi hj) (by omega), List.append_assoc]
    rfl
theorem join_sgns (l : List Nat) (hl : l.length ≤ 1000) : joinO (mkS []) (l.map fun c => mkS [c]) = some (mkS l) := by
  have e : Txt.join (mkS []) (l.map fun c => mkS [c]) = mkS l := by
    refine _root_.TL.ext_tl ?_
    rw [_root_.TL.join_eq, _root_.TL.tl_join, List.map_map]
    show joinL [] (l.map fun c => [c]) = l
    clear hl
    induction l with
    | nil => rfl
    | cons k ks ih =>
      cases ks with
      | nil => rfl
      | cons k2 ks =>
        show [k] ++ ([] ++ joinL [] ((k2 :: ks).map fun c => [c])) = _
        rw [ih]
        rfl
  have hsum : ((l.map fun c => mkS [c]).map (·.length)).sum ≤ l.length := by
    rw [List.map_map]
    clear e hl
    induction l with
    | nil => exact Nat.le_refl 0
    | cons k ks ih =>
      rw [List.map_cons, List.sum_cons, List.length_cons]
      show 1 + _ ≤ _
      omega
  unfold joinO
  rw [if_pos (by
    rw [mkS_len]
    show _ + _ * 0 ≤ 16000000
    omega), e]
def dueV (ts : List Tm) : Str × List (List (Int × Int)) := (mkS (lts ts), frt (tbl (lts ts).length fun x y => cs ts ((lts ts).getD x 0) ((lts ts).getD y 0)))
theorem due_eq {ts : List Tm} (h : ∀ t ∈ ts, t.Ok) (hl : ts.length ≤ 100) : Mir.law_due_ (ts.map vT) = some (dueV ts) := by
  have l26 := lts_len ts
  have hn := lts_nodup ts
  unfold Mir.law_due_
  rw [L_alph, L_empty, bS, sgnsO_mk (by decide), bS]
  rw [filO_mapS (p := fun c => ts.any fun t => hasL t c) fun c hc => by
    rw [bS, bS, mapO_map (g := fun v : T3 (Int × Int) Str Str => v.b) fun _ _ => rfl, bS, bS, List.map_map]
    have m1 : mkS [c] ∈ ts.map ((fun v : T3 (Int × Int) Str Str => v.b) ∘ vT) ↔ ∃ t ∈ ts, t.a = c := by
      rw [List.mem_map]
      exact ⟨fun ⟨t, ht, e⟩ => ⟨t, ht, by simpa using mkS_inj.mp (show mkS [t.a] = mkS [c] from e)⟩, fun ⟨t, ht, e⟩ => ⟨t, ht, by show mkS [t.a] = mkS [c]; rw [e]⟩⟩
    have m2 : mkS [c] ∈ ts.map ((fun v : T3 (Int × Int) Str Str => v.c) ∘ vT) ↔ ∃ t ∈ ts, t.b = c := by
      rw [List.mem_map]
      exact ⟨fun ⟨t, ht, e⟩ => ⟨t, ht, by simpa using mkS_inj.mp (show mkS [t.b] = mkS [c] from e)⟩, fun ⟨t, ht, e⟩ => ⟨t, ht, by show mkS [t.b] = mkS [c]; rw [e]⟩⟩
    by_cases c1 : ∃ t ∈ ts, t.a = c
    · rw [decide_eq_true (m1.mpr c1), cond_true]
      obtain ⟨t, ht, e⟩ := c1
      exact congrArg some (List.any_eq_true.mpr ⟨t, ht, by unfold hasL; rw [decide_eq_true e]; rfl⟩).symm
    · rw [decide_eq_false fun g => c1 (m1.mp g), cond_false, bS, bS, mapO_map (g := fun v : T3 (Int × Int) Str Str => v.c) fun _ _ => rfl, bS, List.map_map]
      refine congrArg some ?_
      rw [Bool.eq_iff_iff, decide_eq_true_eq, m2, List.any_eq_true]
      constructor
      · rintro ⟨t, ht, e⟩
        exact ⟨t, ht, by unfold hasL; rw [decide_eq_true e, Bool.or_true]⟩
      · rintro ⟨t, ht, e⟩
        unfold hasL at e
        rw [Bool.or_eq_true, decide_eq_true_eq, decide_eq_true_eq] at e
        rcases e with e | e
        · exact absurd ⟨t, ht, e⟩ c1
        · exact ⟨t, ht, e⟩, bS]
  rw [show (alph.filter fun c => ts.any fun t => hasL t c) = lts ts from rfl, List.length_map, bS, rangeC_s (by decide) (by decide) (by omega) (by omega) (by omega), bS]
  have f0 : ((0 : Int), (1 : Int)) = fr 0 := by decide
  have e3 : mapO (fun (_ : Int) => (some (rangeL 0 ((lts ts).length : Int))).bind fun xs => mapO (fun (_ : Int) => some ((0 : Int), (1 : Int))) xs) (rangeL 0 ((lts ts).length : Int)) = some (frt (tbl (lts ts).length fun x y => cs [] ((lts ts).getD x 0) ((lts ts).getD y 0))) := by
    rw [bS, f0, range_cast]
    rw [mapO_map (g := fun _ : Int => frs ((List.range (lts ts).length).map fun _ => (0 : Rat))) fun x _ => by
      rw [mapO_map (g := fun _ : Int => fr 0) fun _ _ => rfl]
      refine congrArg some ?_
      unfold frs
      rw [List.map_map, List.map_map]
      rfl]
    refine congrArg some ?_
    unfold frt tbl
    rw [List.map_map, List.map_map]
    rfl
  rw [e3, bS, bS]
  have hz : Sq 1 (0 : Rat) := ⟨by decide, by decide⟩
  rw [due_loop hn ts [] 1 (fun z hz => ⟨h z hz, lts_mem hz (h z hz)⟩) (fun _ _ _ _ => hz) (by omega), bS, join_sgns _ (by omega), bS, bS]
  rfl
/-! ### the law -/
theorem ok_rows (v : List (List (Int × Int))) : OkQ.ok v = true := List.all_eq_true.mpr fun r _ => List.all_eq_true.mpr fun p _ => rfl
theorem is_true (ts : List Tm) : Mir.law_is_ (dueV ts) (dueV ts) = some true := by
  refine Tot.is ?_
  have hk : OkQ.ok (dueV ts) = true := by
    show (OkQ.ok (mkS (lts ts)) && OkQ.ok _) = true
    rw [ok_rows, ok_str fun c hc => by have := lts_lt hc; omega]
    rfl
  have e1 : neQO (dueV ts) (dueV ts) = some false := by
    unfold neQO
    rw [if_pos (by rw [hk]; rfl), decide_eq_true rfl]
    rfl
  unfold Mir.law_is_
  rw [Bool.not_true, bc_f, decide_eq_true rfl, Bool.not_true, bc_f, bc_f, e1, bc_f, bS]
  refine tot_bind (Q := fun o => o = .inl ()) (tot_forRI (fun _ => True) trivial (fun r s _ _ => ?_) fun _ _ => rfl) fun o ho => by subst ho; exact tot_some rfl
  rw [bc_f, bS]
  refine tot_bind (Q := fun o => o = .inl ()) (tot_forRI (fun _ => True) trivial (fun u s _ _ => ?_) fun _ _ => rfl) fun o ho => by subst ho; exact tot_some trivial
  exact tot_some trivial
theorem law_true (ns : List Int) (hl : ns.length ≤ 63) (hb : ∀ z ∈ ns, Sz 1048576 z) : Mir.law_ ⟨ns⟩ = some true := by
  refine Tot.is ?_
  unfold Mir.law_
  simp only [bA, bI]
  obtain ⟨xs, hxs, hx⟩ := rangeS_in (lo := 0) (hi := min 9 (ns.length : Int) + 1) (c := 3) (by decide) (by omega) (by omega)
  rw [hxs, bS]
  refine tot_bind (Q := fun o => o = .inl ()) (tot_forRI (fun _ => True) trivial (fun i s hi _ => ?_) fun _ _ => rfl) fun o ho => by subst ho; exact tot_some rfl
  have hi := hx i hi
  refine tot_bind (big_tot ns i hi.1 (by omega) hb) fun cell hcell => ?_
  rw [bS, bS]
  refine tot_bind (Q := fun m : Int => ∃ n : Nat, m = (n : Int) ∧ 0 < n ∧ n ≤ 40) (tot_cond (fun _ => tot_some ⟨(1 + cell / 96 % 40).toNat, by omega, by omega, by omega⟩) fun _ => tot_some ⟨(1 + cell % 12).toNat, by omega, by omega, by omega⟩) fun m ⟨k, em, k0, k40⟩ => ?_
  subst em
  obtain ⟨n, hn⟩ := Int.eq_ofNat_of_zero_le (show 0 ≤ 1 + cell / 4000 % 8 by omega)
  rw [hn]
  have h8 : n ≤ 8 := by omega
  have n0 : 0 < n := by omega
  refine tot_bind (letters_tot h8 _) fun v ⟨L, ev, hL⟩ => ?_
  subst ev
  rw [bS, bS]
  refine tot_bind (big_tot ns (i + 1) (by omega) (by omega) hb) fun c2 _ => ?_
  refine tot_bind (big_tot ns (i + 2) (by omega) (by omega) hb) fun c3 _ => ?_
  refine tot_bind (terms_tot hL n0 h8 k40 _ _) fun w ⟨ts, h1, h2, h3, h4⟩ => ?_
  have h2' : ∀ t ∈ ts, t.Ok := fun t ht => (h2 t ht).1
  rw [h3, h4, due_eq h2' (by omega), bS]
  cases ts with
  | nil => exact absurd h1 (by show ¬ (0 = k); omega)
  | cons t ts =>
    have hle : lts (t :: ts) = L.filter fun c => (t :: ts).any fun t => hasL t c := by
      refine sorted_ext (List.Pairwise.filter _ (List.pairwise_lt_range' (step := 1))) (List.Pairwise.filter _ hL.up) fun c => ?_
      rw [show lts (t :: ts) = alph.filter fun c => (t :: ts).any fun t => hasL t c from rfl, List.mem_filter, List.mem_filter]
      constructor
      · rintro ⟨_, h⟩
        refine ⟨?_, h⟩
        obtain ⟨u, hu, h⟩ := List.any_eq_true.mp h
        have hu := h2 u hu
        unfold hasL at h
        rw [Bool.or_eq_true, decide_eq_true_eq, decide_eq_true_eq] at h
        rcases h with h | h
        · rw [← h]; exact hu.2.1
        · rw [← h]; exact hu.2.2
      · rintro ⟨h, h'⟩
        have := hL.let' c h
        exact ⟨List.mem_range'_1.mpr ⟨this.1, by omega⟩, h'⟩
    have hlt : (lts (t :: ts)).length ≤ 8 := by
      rw [hle]
      exact Nat.le_trans (List.length_filter_le _ _) (by rw [hL.len]; exact h8)
    have h0 : 0 < (lts (t :: ts)).length := List.length_pos_of_mem (lts_mem List.mem_cons_self (h2' t List.mem_cons_self)).1
    have hr : Mir.read_form_ (mkS ((t :: ts).foldl appT [])) = some (dueV (t :: ts)) := by
      rw [fold_textT]
      exact read_form_eq h2' (by omega) hlt
    have hT : (tbl (lts (t :: ts)).length fun x y => cs (t :: ts) ((lts (t :: ts)).getD x 0) ((lts (t :: ts)).getD y 0)).length = (lts (t :: ts)).length := by
      unfold tbl
      rw [List.length_map, List.length_range]
    have hd : ∃ z, clr2O (dueV (t :: ts)).2 0 = some z ∧ z.length ≤ 26 := by
      have h1 := ix_frt (t := tbl (lts (t :: ts)).length fun x y => cs (t :: ts) ((lts (t :: ts)).getD x 0) ((lts (t :: ts)).getD y 0)) (i := 0) (by rw [hT]; exact h0)
      refine ⟨(dueV (t :: ts)).2.set 0 [], ?_, by
        rw [List.length_set]
        show (frt _).length ≤ 26
        rw [frt_len, hT]
        omega⟩
      show clr2O (frt _) 0 = some ((frt _).set 0 [])
      unfold clr2O
      rw [show ixO (frt (tbl (lts (t :: ts)).length fun x y => cs (t :: ts) ((lts (t :: ts)).getD x 0) ((lts (t :: ts)).getD y 0))) 0 = _ from h1, bS]
      unfold setO
      rw [if_pos ⟨by decide, by rw [frt_len, hT]; omega⟩]
      rfl
    obtain ⟨z, hz, hz2⟩ := hd
    rw [hr, bS, is_true, bS, Bool.not_true, bS, cond_false, hz, bS, bS, bS, show appO z [] = some (z ++ [[]]) from if_pos (by omega), bS, bS, bS, is_true, bS, Bool.not_true, bS, cond_false]
    exact tot_some trivial
end Mi

namespace Mi
instance tbs0 : Tbs := ⟨[]⟩
open PySem L2
open Rp (rep)
set_option simprocs false
abbrev N_law_big_ : List Str := ["_law_script", "_law_k", "_law_cell", "_law_number", "_law_j", "_law_step"]
theorem sc_law_big_ : FnScope N_law_big_ ["_law_script", "_law_k"] (defScope s_law_big_) := ⟨rfl, rfl, rfl, by decide +kernel, rfl, by decide +kernel, by decide +kernel⟩
abbrev N_law_letters_ : List Str := ["_law_n", "_law_rest", "_law_letters_here", "_law_k", "_law_left"]
theorem sc_law_letters_ : FnScope N_law_letters_ ["_law_n", "_law_rest"] (defScope s_law_letters_) := ⟨rfl, rfl, rfl, by decide +kernel, rfl, by decide +kernel, by decide +kernel⟩
abbrev N_law_low_ : List Str := ["_law_top", "_law_bottom", "_law_one", "_law_other", "_law_rest"]
theorem sc_law_low_ : FnScope N_law_low_ ["_law_top", "_law_bottom"] (defScope s_law_low_) := ⟨rfl, rfl, rfl, by decide +kernel, rfl, by decide +kernel, by decide +kernel⟩
abbrev N_law_written_ : List Str := ["_law_rest", "_law_way", "_law_top", "_law_bottom"]
theorem sc_law_written_ : FnScope N_law_written_ ["_law_rest"] (defScope s_law_written_) := ⟨rfl, rfl, rfl, by decide +kernel, rfl, by decide +kernel, by decide +kernel⟩
abbrev N_law_terms_ : List Str := ["_law_letters_here", "_law_many", "_law_rest", "_law_signs", "_law_text", "_law_terms_here", "_law_k", "_law_one", "_law_other", "_law_wrote", "_law_number", "_law_is_minus"]
theorem sc_law_terms_ : FnScope N_law_terms_ ["_law_letters_here", "_law_many", "_law_rest", "_law_signs"] (defScope s_law_terms_) := ⟨rfl, rfl, rfl, by decide +kernel, rfl, by decide +kernel, by decide +kernel⟩
abbrev N_law_times_ : List Str := ["_law_u", "_law_v"]
theorem sc_law_times_ : FnScope N_law_times_ ["_law_u", "_law_v"] (defScope s_law_times_) := ⟨rfl, rfl, rfl, by decide +kernel, rfl, by decide +kernel, by decide +kernel⟩
abbrev N_law_plus_ : List Str := ["_law_u", "_law_v"]
theorem sc_law_plus_ : FnScope N_law_plus_ ["_law_u", "_law_v"] (defScope s_law_plus_) := ⟨rfl, rfl, rfl, by decide +kernel, rfl, by decide +kernel, by decide +kernel⟩
abbrev N_law_due_ : List Str := ["_law_terms_here", "_law_letters_here", "_law_n", "_law_i", "_law_j", "_law_form", "_law_number", "_law_one", "_law_other", "_law_half", "_law_c", "_law_t"]
theorem sc_law_due_ : FnScope N_law_due_ ["_law_terms_here"] (defScope s_law_due_) := ⟨rfl, rfl, rfl, by decide +kernel, rfl, by decide +kernel, by decide +kernel⟩
abbrev N_read_number_ : List Str := ["word", "sign"]
theorem sc_read_number_ : FnScope N_read_number_ ["word"] (defScope s_read_number_) := ⟨rfl, rfl, rfl, by decide +kernel, rfl, by decide +kernel, by decide +kernel⟩
abbrev N_common_ : List Str := ["one", "other"]
theorem sc_common_ : FnScope N_common_ ["one", "other"] (defScope s_common_) := ⟨rfl, rfl, rfl, by decide +kernel, rfl, by decide +kernel, by decide +kernel⟩
abbrev N_fraction_ : List Str := ["top", "bottom", "part"]
theorem sc_fraction_ : FnScope N_fraction_ ["top", "bottom"] (defScope s_fraction_) := ⟨rfl, rfl, rfl, by decide +kernel, rfl, by decide +kernel, by decide +kernel⟩
abbrev N_read_fraction_ : List Str := ["word", "top", "stroke", "bottom"]
theorem sc_read_fraction_ : FnScope N_read_fraction_ ["word"] (defScope s_read_fraction_) := ⟨rfl, rfl, rfl, by decide +kernel, rfl, by decide +kernel, by decide +kernel⟩
abbrev N_read_term_ : List Str := ["word", "parts", "number", "part"]
theorem sc_read_term_ : FnScope N_read_term_ ["word"] (defScope s_read_term_) := ⟨rfl, rfl, rfl, by decide +kernel, rfl, by decide +kernel, by decide +kernel⟩
abbrev N_minus_ : List Str := ["u", "v"]
theorem sc_minus_ : FnScope N_minus_ ["u", "v"] (defScope s_minus_) := ⟨rfl, rfl, rfl, by decide +kernel, rfl, by decide +kernel, by decide +kernel⟩
abbrev N_signed_term_ : List Str := ["sign", "word", "number", "one", "other"]
theorem sc_signed_term_ : FnScope N_signed_term_ ["sign", "word"] (defScope s_signed_term_) := ⟨rfl, rfl, rfl, by decide +kernel, rfl, by decide +kernel, by decide +kernel⟩
abbrev N_read_terms_ : List Str := ["text", "words", "found", "k"]
theorem sc_read_terms_ : FnScope N_read_terms_ ["text"] (defScope s_read_terms_) := ⟨rfl, rfl, rfl, by decide +kernel, rfl, by decide +kernel, by decide +kernel⟩
abbrev N_times_ : List Str := ["u", "v"]
theorem sc_times_ : FnScope N_times_ ["u", "v"] (defScope s_times_) := ⟨rfl, rfl, rfl, by decide +kernel, rfl, by decide +kernel, by decide +kernel⟩
abbrev N_plus_ : List Str := ["u", "v"]
theorem sc_plus_ : FnScope N_plus_ ["u", "v"] (defScope s_plus_) := ⟨rfl, rfl, rfl, by decide +kernel, rfl, by decide +kernel, by decide +kernel⟩
abbrev N_read_form_ : List Str := ["text", "terms", "letters", "letter", "other", "form", "number", "one", "i", "j", "half", "term"]
theorem sc_read_form_ : FnScope N_read_form_ ["text"] (defScope s_read_form_) := ⟨rfl, rfl, rfl, by decide +kernel, rfl, by decide +kernel, by decide +kernel⟩
abbrev N_law_whole_ : List Str := ["_law_found"]
theorem sc_law_whole_ : FnScope N_law_whole_ ["_law_found"] (defScope s_law_whole_) := ⟨rfl, rfl, rfl, by decide +kernel, rfl, by decide +kernel, by decide +kernel⟩
abbrev N_law_is_ : List Str := ["_law_found", "_law_due_here", "_law_row", "_law_number"]
theorem sc_law_is_ : FnScope N_law_is_ ["_law_found", "_law_due_here"] (defScope s_law_is_) := ⟨rfl, rfl, rfl, by decide +kernel, rfl, by decide +kernel, by decide +kernel⟩
abbrev N_law_ : List Str := ["_law_script", "_law_k", "_law_cell", "_law_many", "_law_letters_here", "_law_text", "_law_terms_here", "_law_due_here", "_law_found"]
theorem sc_law_ : FnScope N_law_ ["_law_script"] (defScope s_law_) := ⟨rfl, rfl, rfl, by decide +kernel, rfl, by decide +kernel, by decide +kernel⟩
/-! ### where all stands -/
structure Txt (K : PySem.W.Frag) (mg : Str → Option Value) where
  a_law_big_ : Addr
  d_law_big_ : FuncData
  F_law_big_ : Fun K "_law_big" "_law_big" s_law_big_ a_law_big_ d_law_big_
  g_law_big_ : mg "_law_big" = some (.ref a_law_big_)
  a_law_letters_ : Addr
  d_law_letters_ : FuncData
  F_law_letters_ : Fun K "_law_letters" "_law_letters" s_law_letters_ a_law_letters_ d_law_letters_
  g_law_letters_ : mg "_law_letters" = some (.ref a_law_letters_)
  a_law_low_ : Addr
  d_law_low_ : FuncData
  F_law_low_ : Fun K "_law_low" "_law_low" s_law_low_ a_law_low_ d_law_low_
  g_law_low_ : mg "_law_low" = some (.ref a_law_low_)
  a_law_written_ : Addr
  d_law_written_ : FuncData
  F_law_written_ : Fun K "_law_written" "_law_written" s_law_written_ a_law_written_ d_law_written_
  g_law_written_ : mg "_law_written" = some (.ref a_law_written_)
  a_law_terms_ : Addr
  d_law_terms_ : FuncData
  F_law_terms_ : Fun K "_law_terms" "_law_terms" s_law_terms_ a_law_terms_ d_law_terms_
  g_law_terms_ : mg "_law_terms" = some (.ref a_law_terms_)
  a_law_times_ : Addr
  d_law_times_ : FuncData
  F_law_times_ : Fun K "_law_times" "_law_times" s_law_times_ a_law_times_ d_law_times_
  g_law_times_ : mg "_law_times" = some (.ref a_law_times_)
  a_law_plus_ : Addr
  d_law_plus_ : FuncData
  F_law_plus_ : Fun K "_law_plus" "_law_plus" s_law_plus_ a_law_plus_ d_law_plus_
  g_law_plus_ : mg "_law_plus" = some (.ref a_law_plus_)
  a_law_due_ : Addr
  d_law_due_ : FuncData
  F_law_due_ : Fun K "_law_due" "_law_due" s_law_due_ a_law_due_ d_law_due_
  g_law_due_ : mg "_law_due" = some (.ref a_law_due_)
  a_read_number_ : Addr
  d_read_number_ : FuncData
  F_read_number_ : Fun K "read_number" "read_number" s_read_number_ a_read_number_ d_read_number_
  g_read_number_ : mg "read_number" = some (.ref a_read_number_)
  a_common_ : Addr
  d_common_ : FuncData
  F_common_ : Fun K "common" "common" s_common_ a_common_ d_common_
  g_common_ : mg "common" = some (.ref a_common_)
  a_fraction_ : Addr
  d_fraction_ : FuncData
  F_fraction_ : Fun K "fraction" "fraction" s_fraction_ a_fraction_ d_fraction_
  g_fraction_ : mg "fraction" = some (.ref a_fraction_)
  a_read_fraction_ : Addr
  d_read_fraction_ : FuncData
  F_read_fraction_ : Fun K "read_fraction" "read_fraction" s_read_fraction_ a_read_fraction_ d_read_fraction_
  g_read_fraction_ : mg "read_fraction" = some (.ref a_read_fraction_)
  a_read_term_ : Addr
  d_read_term_ : FuncData
  F_read_term_ : Fun K "read_term" "read_term" s_read_term_ a_read_term_ d_read_term_
  g_read_term_ : mg "read_term" = some (.ref a_read_term_)
  a_minus_ : Addr
  d_minus_ : FuncData
  F_minus_ : Fun K "minus" "minus" s_minus_ a_minus_ d_minus_
  g_minus_ : mg "minus" = some (.ref a_minus_)
  a_signed_term_ : Addr
  d_signed_term_ : FuncData
  F_signed_term_ : Fun K "signed_term" "signed_term" s_signed_term_ a_signed_term_ d_signed_term_
  g_signed_term_ : mg "signed_term" = some (.ref a_signed_term_)
  a_read_terms_ : Addr
  d_read_terms_ : FuncData
  F_read_terms_ : Fun K "read_terms" "read_terms" s_read_terms_ a_read_terms_ d_read_terms_
  g_read_terms_ : mg "read_terms" = some (.ref a_read_terms_)
  a_times_ : Addr
  d_times_ : FuncData
  F_times_ : Fun K "times" "times" s_times_ a_times_ d_times_
  g_times_ : mg "times" = some (.ref a_times_)
  a_plus_ : Addr
  d_plus_ : FuncData
  F_plus_ : Fun K "plus" "plus" s_plus_ a_plus_ d_plus_
  g_plus_ : mg "plus" = some (.ref a_plus_)
  a_read_form_ : Addr
  d_read_form_ : FuncData
  F_read_form_ : Fun K "read_form" "read_form" s_read_form_ a_read_form_ d_read_form_
  g_read_form_ : mg "read_form" = some (.ref a_read_form_)
  a_law_whole_ : Addr
  d_law_whole_ : FuncData
  F_law_whole_ : Fun K "_law_whole" "_law_whole" s_law_whole_ a_law_whole_ d_law_whole_
  g_law_whole_ : mg "_law_whole" = some (.ref a_law_whole_)
  a_law_is_ : Addr
  d_law_is_ : FuncData
  F_law_is_ : Fun K "_law_is" "_law_is" s_law_is_ a_law_is_ d_law_is_
  g_law_is_ : mg "_law_is" = some (.ref a_law_is_)
  a_law_ : Addr
  d_law_ : FuncData
  F_law_ : Fun K "law" "law" s_law_ a_law_ d_law_
  g_law_ : mg "law" = some (.ref a_law_)
  n_abs : mg "abs" = none
  n_bool : mg "bool" = none
  n_int : mg "int" = none
  n_isinstance : mg "isinstance" = none
  n_len : mg "len" = none
  n_list : mg "list" = none
  n_max : mg "max" = none
  n_min : mg "min" = none
  n_range : mg "range" = none
  n_str : mg "str" = none
  n_tuple : mg "tuple" = none
  t_FIGURES_ : Tok
  c_FIGURES_ : mg "FIGURES" = some (.str Mir.c_FIGURES_ t_FIGURES_)
  t_MOST_FIGURES_ : Tok
  c_MOST_FIGURES_ : mg "MOST_FIGURES" = some (.int 9 t_MOST_FIGURES_)
  t_LETTERS_ : Tok
  c_LETTERS_ : mg "LETTERS" = some (.str Mir.c_LETTERS_ t_LETTERS_)
  b_ONE_ : Addr
  c_ONE_ : mg "ONE" = some (.ref b_ONE_)
  k_ONE_ : ∀ G, rep K G (.ref b_ONE_) Mir.c_ONE_
  b_NOUGHT_ : Addr
  c_NOUGHT_ : mg "NOUGHT" = some (.ref b_NOUGHT_)
  k_NOUGHT_ : ∀ G, rep K G (.ref b_NOUGHT_) Mir.c_NOUGHT_
  b_HALF_ : Addr
  c_HALF_ : mg "HALF" = some (.ref b_HALF_)
  k_HALF_ : ∀ G, rep K G (.ref b_HALF_) Mir.c_HALF_
  t_MOST_UNKNOWNS_ : Tok
  c_MOST_UNKNOWNS_ : mg "MOST_UNKNOWNS" = some (.int 8 t_MOST_UNKNOWNS_)
section
variable {P : Program} {w : World} {K : PySem.W.Frag} {mg : Str → Option Value} {base : Heap}
theorem bind_law_big_ (T : Txt K mg) : Binds K T.d_law_big_ ["_law_script", "_law_k"] [] := T.F_law_big_.binds (ps := ["_law_script", "_law_k"]) fun _ _ _ _ _ _ us hl => match us, hl with | [_, _], _ => rfl
theorem bind_law_letters_ (T : Txt K mg) : Binds K T.d_law_letters_ ["_law_n", "_law_rest"] [] := T.F_law_letters_.binds (ps := ["_law_n", "_law_rest"]) fun _ _ _ _ _ _ us hl => match us, hl with | [_, _], _ => rfl
theorem bind_law_low_ (T : Txt K mg) : Binds K T.d_law_low_ ["_law_top", "_law_bottom"] [] := T.F_law_low_.binds (ps := ["_law_top", "_law_bottom"]) fun _ _ _ _ _ _ us hl => match us, hl with | [_, _], _ => rfl
theorem bind_law_written_ (T : Txt K mg) : Binds K T.d_law_written_ ["_law_rest"] [] := T.F_law_written_.binds (ps := ["_law_rest"]) fun _ _ _ _ _ _ us hl => match us, hl with | [_], _ => rfl
theorem bind_law_terms_ (T : Txt K mg) : Binds K T.d_law_terms_ ["_law_letters_here", "_law_many", "_law_rest", "_law_signs"] [] := T.F_law_terms_.binds (ps := ["_law_letters_here", "_law_many", "_law_rest", "_law_signs"]) fun _ _ _ _ _ _ us hl => match us, hl with | [_, _, _, _], _ => rfl
theorem bind_law_times_ (T : Txt K mg) : Binds K T.d_law_times_ ["_law_u", "_law_v"] [] := T.F_law_times_.binds (ps := ["_law_u", "_law_v"]) fun _ _ _ _ _ _ us hl => match us, hl with | [_, _], _ => rfl
theorem bind_law_plus_ (T : Txt K mg) : Binds K T.d_law_plus_ ["_law_u", "_law_v"] [] := T.F_law_plus_.binds (ps := ["_law_u", "_law_v"]) fun _ _ _ _ _ _ us hl => match us, hl with | [_, _], _ => rfl
theorem bind_law_due_ (T : Txt K mg) : Binds K T.d_law_due_ ["_law_terms_here"] [] := T.F_law_due_.binds (ps := ["_law_terms_here"]) fun _ _ _ _ _ _ us hl => match us, hl with | [_], _ => rfl
theorem bind_read_number_ (T : Txt K mg) : Binds K T.d_read_number_ ["word"] [] := T.F_read_number_.binds (ps := ["word"]) fun _ _ _ _ _ _ us hl => match us, hl with | [_], _ => rfl
theorem bind_common_ (T : Txt K mg) : Binds K T.d_common_ ["one", "other"] [] := T.F_common_.binds (ps := ["one", "other"]) fun _ _ _ _ _ _ us hl => match us, hl with | [_, _], _ => rfl
theorem bind_fraction_ (T : Txt K mg) : Binds K T.d_fraction_ ["top", "bottom"] [] := T.F_fraction_.binds (ps := ["top", "bottom"]) fun _ _ _ _ _ _ us hl => match us, hl with | [_, _], _ => rfl
theorem bind_read_fraction_ (T : Txt K mg) : Binds K T.d_read_fraction_ ["word"] [] := T.F_read_fraction_.binds (ps := ["word"]) fun _ _ _ _ _ _ us hl => match us, hl with | [_], _ => rfl
theorem bind_read_term_ (T : Txt K mg) : Binds K T.d_read_term_ ["word"] [] := T.F_read_term_.binds (ps := ["word"]) fun _ _ _ _ _ _ us hl => match us, hl with | [_], _ => rfl
theorem bind_minus_ (T : Txt K mg) : Binds K T.d_minus_ ["u", "v"] [] := T.F_minus_.binds (ps := ["u", "v"]) fun _ _ _ _ _ _ us hl => match us, hl with | [_, _], _ => rfl
theorem bind_signed_term_ (T : Txt K mg) : Binds K T.d_signed_term_ ["sign", "word"] [] := T.F_signed_term_.binds (ps := ["sign", "word"]) fun _ _ _ _ _ _ us hl => match us, hl with | [_, _], _ => rfl
theorem bind_read_terms_ (T : Txt K mg) : Binds K T.d_read_terms_ ["text"] [] := T.F_read_terms_.binds (ps := ["text"]) fun _ _ _ _ _ _ us hl => match us, hl with | [_], _ => rfl
theorem bind_times_ (T : Txt K mg) : Binds K T.d_times_ ["u", "v"] [] := T.F_times_.binds (ps := ["u", "v"]) fun _ _ _ _ _ _ us hl => match us, hl with | [_, _], _ => rfl
theorem bind_plus_ (T : Txt K mg) : Binds K T.d_plus_ ["u", "v"] [] := T.F_plus_.binds (ps := ["u", "v"]) fun _ _ _ _ _ _ us hl => match us, hl with | [_, _], _ => rfl
theorem bind_read_form_ (T : Txt K mg) : Binds K T.d_read_form_ ["text"] [] := T.F_read_form_.binds (ps := ["text"]) fun _ _ _ _ _ _ us hl => match us, hl with | [_], _ => rfl
theorem bind_law_whole_ (T : Txt K mg) : Binds K T.d_law_whole_ ["_law_found"] [] := T.F_law_whole_.binds (ps := ["_law_found"]) fun _ _ _ _ _ _ us hl => match us, hl with | [_], _ => rfl
theorem bind_law_is_ (T : Txt K mg) : Binds K T.d_law_is_ ["_law_found", "_law_due_here"] [] := T.F_law_is_.binds (ps := ["_law_found", "_law_due_here"]) fun _ _ _ _ _ _ us hl => match us, hl with | [_, _], _ => rfl
theorem bind_law_ (T : Txt K mg) : Binds K T.d_law_ ["_law_script"] [] := T.F_law_.binds (ps := ["_law_script"]) fun _ _ _ _ _ _ us hl => match us, hl with | [_], _ => rfl
theorem ok_law_big_ (T : Txt K mg) : FnOk P w K mg base CX0 1 T.a_law_big_ T.d_law_big_ ["_law_script", "_law_k"] (Sp2 K (RV K) Mir.law_big_) := by
  refine T.F_law_big_.ok sc_law_big_ (Sp2.len rfl) (fun cdv A outer s He vs Q E hr h => ?_)
  obtain ⟨Ge, w_law_script_, w_law_k_, law_script_, law_k_, r, rfl, hs, r_law_script_, r_law_k_, hm, q⟩ := h
  have e : Ext Ge He Ge He := Ext.refl hs
  have r2_law_k_ : w_law_k_ = V.int law_k_ := r_law_k_
  subst r2_law_k_
  clear r_law_k_
  unfold Mir.law_big_ at hm
  refine ⟨_, (pss_cons (ps_set (i := 2) sc_law_big_.nd rfl (Or.inl rfl) (pe_op op_add pe_int (pv 1))) (pss_cons (ps_if (pt_cmpR op_lt (pv 1) (pe_callB call_len_seq (by rfl) T.n_len (by decide +kernel) (pa_cons (pv 0) pa_nil)) (nomark _)) (pss_one (ps_set (i := 2) sc_law_big_.nd rfl (Or.inl rfl) (pe_ix ix_list (pv 0) (pv 1) (fun _ _ => rfl)))) pss_nil) (pss_cons (ps_if (PW.pt (pw_or (pt_cmpR op_lt (pv 2) pe_int (nomark _)) (pw_or1 (pt_cmpR op_ge (pv 2) (pe_op op_pow pe_int pe_int) (nomark _))))) (pss_one (ps_ret (pe_callB call_abs (by rfl) T.n_abs (by decide +kernel) (pa_cons (pv 2) pa_nil)))) pss_nil) (pss_cons (ps_set (i := 3) sc_law_big_.nd rfl (Or.inl rfl) pe_int) (pss_cons (ps_for PassesOwn.never rfl (pi_range1 (by rfl) T.n_range (pa_cons pe_int pa_nil)) (pg_name (i := 4) sc_law_big_.nd rfl (Or.inl rfl)) (pss_cons (ps_set (i := 5) sc_law_big_.nd rfl (Or.inl rfl) (pe_op op_mod (pe_op op_mulZ (pe_op op_mod (pe_op op_add (pe_op op_mulZ (pv 2) (pe_op op_add pe_int (pe_op op_mulZ pe_int (pv 4)))) (pe_op op_mulZ (pe_op op_mulZ (pe_op op_add (pv 4) pe_int) (pe_op op_add (pe_op op_add (pv 1) (pv 4)) pe_int)) pe_int)) pe_int) pe_int) pe_int)) (pss_one (ps_set (i := 3) sc_law_big_.nd rfl (Or.inl rfl) (pe_op op_add (pe_op op_mulZ (pv 3) pe_int) (pe_op op_mod (pe_op op_mulZ (pv 5) (pe_op op_add (pv 4) pe_int)) pe_int)))))) (pss_one (ps_ret (pv 3)))))))), ?_⟩
  try dsimp only
  refine st_seq ?_
  refine st_set (K := K) e.s (se_addp (se_int (n := 11)) (se_iv (i := 1) (d := law_k_) rfl)) hm (fun law_cell_ w_law_cell_ G1 H1 ce r_law_cell_ hm => ?_)
  replace e := e.trans ce
  replace r_law_script_ := Rp.mono ce.g r_law_script_
  have r_law_cell_ : w_law_cell_ = V.int law_cell_ := r_law_cell_; subst r_law_cell_
  try dsimp only
  refine st_seq ?_
  obtain ⟨s1, hA, hm⟩ := bind_some hm
  refine st_join (fun σ H => ∃ G, ∃ (w_law_script_ : V) (j3 : Option V) (j4 : Option V) (j5 : Option V), σ = [some w_law_script_, some (V.int law_k_), some (V.int s1), j3, j4, j5] ∧ Ext Ge He G H ∧ rep K G w_law_script_ law_script_) (fun σ H h => ?_) (fun N hN => ?_)
  · obtain ⟨G, w_law_script_, j3, j4, j5, es, e, r_law_script_⟩ := h
    subst es
    try dsimp only
    refine st_seq ?_
    refine st_if e.s (st_orp (st_test (K := K) (se_ltp (se_iv (i := 2) (d := s1) rfl) (se_int (n := 0)))) (st_test (K := K) (se_gep (se_iv (i := 2) (d := s1) rfl) (se_kpow (n := 1000000000000000000) (se_int (n := 10)) (se_int (n := 18)) (by decide +kernel))))) hm (fun G1 H1 ce hm => ?_) (fun G1 H1 ce hm => ?_)
    · replace e := e.trans ce
      replace r_law_script_ := Rp.mono ce.g r_law_script_
      try dsimp only
      exact st_ret (RR := RV K) e rvm (SE.xe (se_absp (se_iv (i := 2) (d := s1) rfl))) hm q
    · replace e := e.trans ce
      replace r_law_script_ := Rp.mono ce.g r_law_script_
      refine st_next ?_
      try dsimp only
      refine st_seq ?_
      refine st_set (K := K) e.s (se_int (n := 1)) hm (fun law_number_ w_law_number_ G1 H1 ce r_law_number_ hm => ?_)
      replace e := e.trans ce
      replace r_law_script_ := Rp.mono ce.g r_law_script_
      have r_law_number_ : w_law_number_ = V.int law_number_ := r_law_number_; subst r_law_number_
      try dsimp only
      refine st_seq ?_
      refine st_for (K := K) e.s (ie_range1p (se_int (n := 40))) hm (fun xs J Gs2 Hs2 ce it hm => ?_)
      replace e := e.trans ce
      replace r_law_script_ := Rp.mono ce.g r_law_script_
      have sg2 : Same Gs2 Gs2 := Same.refl _
      obtain ⟨z2, hw, hm⟩ := bind_some hm
      refine lg_N (K := K) (fun (s2 : Int) σ G H => ∃ (w_law_script_ : V) (j4 : Option V) (j5 : Option V), σ = [some w_law_script_, some (V.int law_k_), some (V.int s1), some (V.int s2), j4, j5] ∧ Ext Ge He G H ∧ Same Gs2 G ∧ rep K G w_law_script_ law_script_) it hw ⟨_, _, _, rfl, e, sg2, r_law_script_⟩ (fun s2 σ G H h => ?_) (fun s2 i2 f w2 σ G H G1 H1 N hx h ce hv hm hN => ?_) (fun σ G H h => ?_)
      · obtain ⟨w_law_script_, j4, j5, es, e, sg2, r_law_script_⟩ := h
        subst es
        exact ⟨sg2, e.s⟩
      · clear hw it
        obtain ⟨w_law_script_, j4, j5, es, e, sg2, r_law_script_⟩ := h
        subst es
        replace e := e.trans ce
        replace sg2 := sg2.trans ce.g
        replace r_law_script_ := Rp.mono ce.g r_law_script_
        refine g_name ?_
        have hv2 : w2 = V.int i2 := hv
        subst hv2
        clear hv
        try dsimp only
        refine st_seq ?_
        refine st_set (K := K) e.s (se_modc (se_mul (se_modc (se_add (se_mul (se_iv (i := 2) (d := s1) rfl) (se_add (se_int (n := 48271)) (se_mulp (se_int (n := 7919)) (se_iv (i := 4) (d := i2) rfl)))) (se_mul (se_mulp (se_addp (se_iv (i := 4) (d := i2) rfl) (se_int (n := 3))) (se_addp (se_addp (se_iv (i := 1) (d := law_k_) rfl) (se_iv (i := 4) (d := i2) rfl)) (se_int (n := 5)))) (se_int (n := 69621)))) (by decide)) (se_int (n := 16807))) (by decide)) hm (fun law_step_ w_law_step_ G1 H1 ce r_law_step_ hm => ?_)
        replace e := e.trans ce
        replace sg2 := sg2.trans ce.g
        replace r_law_script_ := Rp.mono ce.g r_law_script_
        have r_law_step_ : w_law_step_ = V.int law_step_ := r_law_step_; subst r_law_step_
        try dsimp only
        refine st_set (K := K) e.s (se_add (se_mulp (se_iv (i := 3) (d := s2) rfl) (se_int (n := 1000000007))) (se_modc (se_mulp (se_iv (i := 5) (d := law_step_) rfl) (se_addp (se_iv (i := 4) (d := i2) rfl) (se_int (n := 2)))) (by decide))) hm (fun law_number_ w_law_number_ G1 H1 ce r_law_number_ hm => ?_)
        replace e := e.trans ce
        replace sg2 := sg2.trans ce.g
        replace r_law_script_ := Rp.mono ce.g r_law_script_
        have r_law_number_ : w_law_number_ = V.int law_number_ := r_law_number_; subst r_law_number_
        cases hm
        exact hN _ _ _ ⟨_, _, _, rfl, e, sg2, r_law_script_⟩
      · clear hw it
        obtain ⟨w_law_script_, j4, j5, es, e, sg2, r_law_script_⟩ := h
        subst es
        clear sg2
        try dsimp only
        exact st_ret (RR := RV K) e rvm (SE.xe (se_iv (i := 3) (d := z2) rfl)) hm q
  · clear hm
    refine st_if e.s (st_test (K := K) (se_ltp (se_iv (i := 1) (d := law_k_) rfl) (se_lenKp (se_var (i := 0) (d := law_script_) rfl r_law_script_)))) hA (fun G1 H1 ce hm => ?_) (fun G1 H1 ce hm => ?_)
    · replace e := e.trans ce
      replace r_law_script_ := Rp.mono ce.g r_law_script_
      try dsimp only
      refine st_set (K := K) e.s (se_ixKp (se_var (i := 0) (d := law_script_) rfl r_law_script_) (se_iv (i := 1) (d := law_k_) rfl)) hm (fun law_cell_ w_law_cell_ G1 H1 ce r_law_cell_ hm => ?_)
      replace e := e.trans ce
      replace r_law_script_ := Rp.mono ce.g r_law_script_
      have r_law_cell_ : w_law_cell_ = V.int law_cell_ := r_law_cell_; subst r_law_cell_
      cases hm
      exact hN _ _ ⟨_, _, _, _, _, rfl, e, r_law_script_⟩
    · replace e := e.trans ce
      replace r_law_script_ := Rp.mono ce.g r_law_script_
      refine st_next ?_
      cases hm
      exact hN _ _ ⟨_, _, _, _, _, rfl, e, r_law_script_⟩
theorem ok_law_letters_ (T : Txt K mg) : FnOk P w K mg base CX0 1 T.a_law_letters_ T.d_law_letters_ ["_law_n", "_law_rest"] (Sp2 K (RV K) Mir.law_letters_) := by
  refine T.F_law_letters_.ok sc_law_letters_ (Sp2.len rfl) (fun cdv A outer s He vs Q E hr h => ?_)
  obtain ⟨Ge, w_law_n_, w_law_rest_, law_n_, law_rest_, r, rfl, hs, r_law_n_, r_law_rest_, hm, q⟩ := h
  have e : Ext Ge He Ge He := Ext.refl hs
  have r2_law_n_ : w_law_n_ = V.int law_n_ := r_law_n_
  subst r2_law_n_
  clear r_law_n_
  have r2_law_rest_ : w_law_rest_ = V.int law_rest_ := r_law_rest_
  subst r2_law_rest_
  clear r_law_rest_
  unfold Mir.law_letters_ at hm
  refine ⟨_, (pss_cons (ps_set (i := 2) sc_law_letters_.nd rfl (Or.inl rfl) pe_str) (pss_cons (ps_for PassesOwn.never rfl (pi_range1 (by rfl) T.n_range (pa_cons pe_int pa_nil)) (pg_name (i := 3) sc_law_letters_.nd rfl (Or.inl rfl)) (pss_cons (ps_set (i := 4) sc_law_letters_.nd rfl (Or.inl rfl) (pe_op op_sub (pv 0) (pe_callB call_len_str (by rfl) T.n_len (by decide +kernel) (pa_cons (pv 2) pa_nil)))) (pss_cons (ps_if (PW.pt (pw_and (pt_cmpR op_gt (pv 4) pe_int (nomark _)) (pw_and1 (PW.pt (pw_or (pt_cmpR op_eq (pe_op op_mod (pv 1) pe_int) pe_int (nomark _)) (pw_or1 (pt_cmpR op_le (pe_op op_sub pe_int (pv 3)) (pv 4) (nomark _)))))))) (pss_one (ps_set (i := 2) sc_law_letters_.nd rfl (Or.inl rfl) (pe_op op_add_str (pv 2) (pe_ix ix_str pe_str (pv 3) (fun _ _ => rfl))))) pss_nil) (pss_one (ps_set (i := 1) sc_law_letters_.nd rfl (Or.inl rfl) (pe_op op_fdivW (pv 1) pe_int)))))) (pss_one (ps_ret (pv 2))))), ?_⟩
  try dsimp only
  refine st_seq ?_
  refine st_set (K := K) e.s (se_str (b := Str.ofString "")) hm (fun law_letters_here_ w_law_letters_here_ G1 H1 ce r_law_letters_here_ hm => ?_)
  replace e := e.trans ce
  have r_law_letters_here_ : w_law_letters_here_ = V.str law_letters_here_ := r_law_letters_here_; subst r_law_letters_here_
  try dsimp only
  refine st_seq ?_
  refine st_for (K := K) e.s (ie_range1p (se_int (n := 26))) hm (fun xs J Gs1 Hs1 ce it hm => ?_)
  replace e := e.trans ce
  have sg1 : Same Gs1 Gs1 := Same.refl _
  obtain ⟨z1, hw, hm⟩ := bind_some hm
  refine lg_N (K := K) (fun (s1 : Int × Str) σ G H => ∃ (j3 : Option V) (j4 : Option V), σ = [some (V.int law_n_), some (V.int s1.1), some (V.str s1.2), j3, j4] ∧ Ext Ge He G H ∧ Same Gs1 G) it hw ⟨_, _, rfl, e, sg1⟩ (fun s1 σ G H h => ?_) (fun s1 i1 f w1 σ G H G1 H1 N hx h ce hv hm hN => ?_) (fun σ G H h => ?_)
  · obtain ⟨j3, j4, es, e, sg1⟩ := h
    subst es
    exact ⟨sg1, e.s⟩
  · clear hw it
    obtain ⟨j3, j4, es, e, sg1⟩ := h
    subst es
    replace e := e.trans ce
    replace sg1 := sg1.trans ce.g
    refine g_name ?_
    have hv2 : w1 = V.int i1 := hv
    subst hv2
    clear hv
    try dsimp only
    refine st_seq ?_
    refine st_set (K := K) e.s (se_sub (se_iv (i := 0) (d := law_n_) rfl) (se_lenSp (se_sv (i := 2) (d := s1.2) rfl))) hm (fun law_left_ w_law_left_ G1 H1 ce r_law_left_ hm => ?_)
    replace e := e.trans ce
    replace sg1 := sg1.trans ce.g
    have r_law_left_ : w_law_left_ = V.int law_left_ := r_law_left_; subst r_law_left_
    try dsimp only
    refine st_seq ?_
    obtain ⟨s2, hA, hm⟩ := bind_some hm
    refine st_join (fun σ H => ∃ G, σ = [some (V.int law_n_), some (V.int s1.1), some (V.str s2), some (V.int i1), some (V.int law_left_)] ∧ Ext Ge He G H ∧ Same Gs1 G) (fun σ H h => ?_) (fun N hN => ?_)
    · obtain ⟨G, es, e, sg1⟩ := h
      subst es
      try dsimp only
      refine st_set (K := K) e.s (se_divcp (se_iv (i := 1) (d := s1.1) rfl) (by decide)) hm (fun law_rest_ w_law_rest_ G1 H1 ce r_law_rest_ hm => ?_)
      replace e := e.trans ce
      replace sg1 := sg1.trans ce.g
      have r_law_rest_ : w_law_rest_ = V.int law_rest_ := r_law_rest_; subst r_law_rest_
      cases hm
      exact hN _ _ _ ⟨_, _, rfl, e, sg1⟩
    · clear hm
      refine st_if e.s (st_andp (st_test (K := K) (se_gtp (se_iv (i := 4) (d := law_left_) rfl) (se_int (n := 0)))) (st_orp (st_test (K := K) (se_eqp (se_modcp (se_iv (i := 1) (d := s1.1) rfl) (by decide)) (se_int (n := 0)))) (st_test (K := K) (se_lep (se_subp (se_int (n := 26)) (se_iv (i := 3) (d := i1) rfl)) (se_iv (i := 4) (d := law_left_) rfl))))) hA (fun G1 H1 ce hm => ?_) (fun G1 H1 ce hm => ?_)
      · replace e := e.trans ce
        replace sg1 := sg1.trans ce.g
        try dsimp only
        refine st_set (K := K) e.s (se_catS (se_sv (i := 2) (d := s1.2) rfl) (se_ixSp (se_str (b := Str.ofString "abcdefghijklmnopqrstuvwxyz")) (se_iv (i := 3) (d := i1) rfl))) hm (fun law_letters_here_ w_law_letters_here_ G1 H1 ce r_law_letters_here_ hm => ?_)
        replace e := e.trans ce
        replace sg1 := sg1.trans ce.g
        have r_law_letters_here_ : w_law_letters_here_ = V.str law_letters_here_ := r_law_letters_here_; subst r_law_letters_here_
        cases hm
        exact hN _ _ ⟨_, rfl, e, sg1⟩
      · replace e := e.trans ce
        replace sg1 := sg1.trans ce.g
        refine st_next ?_
        cases hm
        exact hN _ _ ⟨_, rfl, e, sg1⟩
  · clear hw it
    obtain ⟨j3, j4, es, e, sg1⟩ := h
    subst es
    clear sg1
    try dsimp only
    exact st_ret (RR := RV K) e rvm (SE.xe (se_sv (i := 2) (d := z1.2) rfl)) hm q
theorem ok_law_low_ (T : Txt K mg) : FnOk P w K mg base CX0 1 T.a_law_low_ T.d_law_low_ ["_law_top", "_law_bottom"] (Sp2 K (RV K) Mir.law_low_) := by
  refine T.F_law_low_.ok sc_law_low_ (Sp2.len rfl) (fun cdv A outer s He vs Q E hr h => ?_)
  obtain ⟨Ge, w_law_top_, w_law_bottom_, law_top_, law_bottom_, r, rfl, hs, r_law_top_, r_law_bottom_, hm, q⟩ := h
  have e : Ext Ge He Ge He := Ext.refl hs
  have r2_law_top_ : w_law_top_ = V.int law_top_ := r_law_top_
  subst r2_law_top_
  clear r_law_top_
  have r2_law_bottom_ : w_law_bottom_ = V.int law_bottom_ := r_law_bottom_
  subst r2_law_bottom_
  clear r_law_bottom_
  unfold Mir.law_low_ at hm
  refine ⟨_, (pss_cons (ps_set (i := 2) sc_law_low_.nd rfl (Or.inl rfl) (pe_callB call_abs (by rfl) T.n_abs (by decide +kernel) (pa_cons (pv 0) pa_nil))) (pss_cons (ps_set (i := 3) sc_law_low_.nd rfl (Or.inl rfl) (pe_callB call_abs (by rfl) T.n_abs (by decide +kernel) (pa_cons (pv 1) pa_nil))) (pss_cons (ps_while PassesOwn.never (pt_cmpR op_gt (pv 3) pe_int (nomark _)) (pss_cons (ps_set (i := 4) sc_law_low_.nd rfl (Or.inl rfl) (pe_op op_modN (pv 2) (pv 3))) (pss_cons (ps_set (i := 2) sc_law_low_.nd rfl (Or.inl rfl) (pv 3)) (pss_one (ps_set (i := 3) sc_law_low_.nd rfl (Or.inl rfl) (pv 4)))))) (pss_cons (ps_if (pt_cmpR op_lt (pv 1) pe_int (nomark _)) (pss_one (ps_set (i := 2) sc_law_low_.nd rfl (Or.inl rfl) (pe_un un_neg (pv 2)))) pss_nil) (pss_one (ps_ret (pe_tup (pa_cons (pe_op op_divZ (pv 0) (pv 2)) (pa_cons (pe_op op_divZ (pv 1) (pv 2)) pa_nil))))))))), ?_⟩
  try dsimp only
  refine st_seq ?_
  refine st_set (K := K) e.s (se_absp (se_iv (i := 0) (d := law_top_) rfl)) hm (fun law_one_ w_law_one_ G1 H1 ce r_law_one_ hm => ?_)
  replace e := e.trans ce
  have r_law_one_ : w_law_one_ = V.int law_one_ := r_law_one_; subst r_law_one_
  try dsimp only
  refine st_seq ?_
  refine st_set (K := K) e.s (se_absp (se_iv (i := 1) (d := law_bottom_) rfl)) hm (fun law_other_ w_law_other_ G1 H1 ce r_law_other_ hm => ?_)
  replace e := e.trans ce
  have r_law_other_ : w_law_other_ = V.int law_other_ := r_law_other_; subst r_law_other_
  try dsimp only
  refine st_seq ?_
  obtain ⟨z1, hw, hm⟩ := bind_some hm
  refine st_whileN (fun (s1 : Int × Int) σ G H => ∃ (j4 : Option V), σ = [some (V.int law_top_), some (V.int law_bottom_), some (V.int s1.1), some (V.int s1.2), j4] ∧ Ext Ge He G H) hw ⟨_, rfl, e⟩ (fun s1 σ G H h => ?_) (fun s1 σ G H h => ?_) (fun s1 f σ G H G1 H1 N h ce hc hm hN => ?_) (fun σ G H G1 H1 h ce => ?_)
  · obtain ⟨j4, es, e⟩ := h
    subst es
    exact e.s
  · obtain ⟨j4, es, e⟩ := h
    subst es
    exact (st_test (K := K) (se_gtp (se_iv (i := 3) (d := s1.2) rfl) (se_int (n := 0))))
  · clear hw
    obtain ⟨j4, es, e⟩ := h
    subst es
    replace e := e.trans ce
    try dsimp only
    refine st_seq ?_
    refine st_set (K := K) e.s (se_modp (se_iv (i := 2) (d := s1.1) rfl) (se_iv (i := 3) (d := s1.2) rfl)) hm (fun law_rest_ w_law_rest_ G1 H1 ce r_law_rest_ hm => ?_)
    replace e := e.trans ce
    have r_law_rest_ : w_law_rest_ = V.int law_rest_ := r_law_rest_; subst r_law_rest_
    try dsimp only
    refine st_seq ?_
    refine st_set (K := K) e.s (se_iv (i := 3) (d := s1.2) rfl) hm (fun law_one_ w_law_one_ G1 H1 ce r_law_one_ hm => ?_)
    replace e := e.trans ce
    have r_law_one_ : w_law_one_ = V.int law_one_ := r_law_one_; subst r_law_one_
    try dsimp only
    refine st_set (K := K) e.s (se_iv (i := 4) (d := law_rest_) rfl) hm (fun law_other_ w_law_other_ G1 H1 ce r_law_other_ hm => ?_)
    replace e := e.trans ce
    have r_law_other_ : w_law_other_ = V.int law_other_ := r_law_other_; subst r_law_other_
    cases hm
    exact hN _ _ _ ⟨_, rfl, e⟩
  · obtain ⟨j4, es, e⟩ := h
    subst es
    replace e := e.trans ce
    try dsimp only
    refine st_seq ?_
    obtain ⟨s2, hA, hm⟩ := bind_some hm
    refine st_join (fun σ H => ∃ G, ∃ (j4 : Option V), σ = [some (V.int law_top_), some (V.int law_bottom_), some (V.int s2), some (V.int z1.2), j4] ∧ Ext Ge He G H) (fun σ H h => ?_) (fun N hN => ?_)
    · obtain ⟨G, j4, es, e⟩ := h
      subst es
      try dsimp only
      exact st_ret (RR := RV K) e rvm (SE.xe (se_tup2 (se_divp (se_iv (i := 0) (d := law_top_) rfl) (se_iv (i := 2) (d := s2) rfl)) (se_divp (se_iv (i := 1) (d := law_bottom_) rfl) (se_iv (i := 2) (d := s2) rfl)))) hm q
    · clear hm
      refine st_if e.s (st_test (K := K) (se_ltp (se_iv (i := 1) (d := law_bottom_) rfl) (se_int (n := 0)))) hA (fun G1 H1 ce hm => ?_) (fun G1 H1 ce hm => ?_)
      · replace e := e.trans ce
        try dsimp only
        refine st_set (K := K) e.s (se_negp (se_iv (i := 2) (d := z1.1) rfl)) hm (fun law_one_ w_law_one_ G1 H1 ce r_law_one_ hm => ?_)
        replace e := e.trans ce
        have r_law_one_ : w_law_one_ = V.int law_one_ := r_law_one_; subst r_law_one_
        cases hm
        exact hN _ _ ⟨_, _, rfl, e⟩
      · replace e := e.trans ce
        refine st_next ?_
        cases hm
        exact hN _ _ ⟨_, _, rfl, e⟩
theorem ok_law_written_ (T : Txt K mg) : FnOk P w K mg base CX0 2 T.a_law_written_ T.d_law_written_ ["_law_rest"] (Sp1 K (RV K) Mir.law_written_) := by
  refine T.F_law_written_.ok sc_law_written_ (Sp1.len rfl) (fun cdv A outer s He vs Q E hr h => ?_)
  obtain ⟨Ge, w_law_rest_, law_rest_, r, rfl, hs, r_law_rest_, hm, q⟩ := h
  have e : Ext Ge He Ge He := Ext.refl hs
  have r2_law_rest_ : w_law_rest_ = V.int law_rest_ := r_law_rest_
  subst r2_law_rest_
  clear r_law_rest_
  unfold Mir.law_written_ at hm
  refine ⟨_, (pss_cons (ps_set (i := 1) sc_law_written_.nd rfl (Or.inl rfl) (pe_op op_mod (pv 0) pe_int)) (pss_cons (ps_set (i := 0) sc_law_written_.nd rfl (Or.inl rfl) (pe_op op_fdivW (pv 0) pe_int)) (pss_cons (ps_set (i := 2) sc_law_written_.nd rfl (Or.inl rfl) (pe_op op_modN (pv 0) (pe_ix ix_list (pe_lst (pa_cons pe_int (pa_cons (pe_op op_pow pe_int pe_int) pa_nil))) (pe_op op_mod (pe_op op_fdivW (pv 0) (pe_op op_pow pe_int pe_int)) pe_int) (fun _ _ => rfl)))) (pss_cons (ps_set (i := 3) sc_law_written_.nd rfl (Or.inl rfl) (pe_op op_add pe_int (pe_op op_modN (pe_op op_fdivW (pv 0) (pe_op op_mulZ pe_int (pe_op op_pow pe_int pe_int))) (pe_ix ix_list (pe_lst (pa_cons pe_int (pa_cons pe_int pa_nil))) (pe_op op_mod (pe_op op_fdivW (pv 0) (pe_op op_pow pe_int pe_int)) pe_int) (fun _ _ => rfl))))) (pss_cons (ps_set (i := 0) sc_law_written_.nd rfl (Or.inl rfl) (pe_op op_fdivW (pv 0) (pe_op op_pow pe_int pe_int))) (pss_cons (ps_if (pt_cmpR op_eq (pv 1) pe_int (nomark _)) (pss_one (ps_ret (pe_tup (pa_cons pe_str (pa_cons (pe_tup (pa_cons pe_int (pa_cons pe_int pa_nil))) (pa_cons (pv 0) pa_nil)))))) pss_nil) (pss_cons (ps_if (pt_cmpR op_eq (pv 1) pe_int (nomark _)) (pss_one (ps_ret (pe_tup (pa_cons (pe_op op_add_str (pe_callTy call_str_int (by rfl) T.n_str (by decide +kernel) (pa_cons (pv 2) pa_nil)) pe_str) (pa_cons (pe_tup (pa_cons (pv 2) (pa_cons pe_int pa_nil))) (pa_cons (pv 0) pa_nil)))))) pss_nil) (pss_one (ps_ret (pe_tup (pa_cons (pe_op op_add_str (pe_op op_add_str (pe_op op_add_str (pe_callTy call_str_int (by rfl) T.n_str (by decide +kernel) (pa_cons (pv 2) pa_nil)) pe_str) (pe_callTy call_str_int (by rfl) T.n_str (by decide +kernel) (pa_cons (pv 3) pa_nil))) pe_str) (pa_cons (pe_call (ok_law_low_ T) (hr.mono (by decide)) (by rfl) T.g_law_low_ T.F_law_low_.kp (bind_law_low_ T) .nil pass0 (pa_cons (pv 2) (pa_cons (pv 3) pa_nil))) (pa_cons (pv 0) pa_nil))))))))))))), ?_⟩
  try dsimp only
  refine st_seq ?_
  refine st_set (K := K) e.s (se_modcp (se_iv (i := 0) (d := law_rest_) rfl) (by decide)) hm (fun law_way_ w_law_way_ G1 H1 ce r_law_way_ hm => ?_)
  replace e := e.trans ce
  have r_law_way_ : w_law_way_ = V.int law_way_ := r_law_way_; subst r_law_way_
  try dsimp only
  refine st_seq ?_
  refine st_set (K := K) e.s (se_divcp (se_iv (i := 0) (d := law_rest_) rfl) (by decide)) hm (fun law_rest_ w_law_rest_ G1 H1 ce r_law_rest_ hm => ?_)
  replace e := e.trans ce
  have r_law_rest_ : w_law_rest_ = V.int law_rest_ := r_law_rest_; subst r_law_rest_
  try dsimp only
  refine st_seq ?_
  refine st_set (K := K) e.s (se_mod (se_iv (i := 0) (d := law_rest_) rfl) (se_ixp (FE.se (fe_lst (la_consp (se_int (n := 10)) (la_consp (se_kpow (n := 1000000000) (se_int (n := 10)) (se_int (n := 9)) (by decide +kernel)) la_nil)))) (se_modcp (se_divk (se_iv (i := 0) (d := law_rest_) rfl) (se_kpow (n := 1000000000) (se_int (n := 10)) (se_int (n := 9)) (by decide +kernel)) (by decide +kernel)) (by decide)))) hm (fun law_top_ w_law_top_ G1 H1 ce r_law_top_ hm => ?_)
  replace e := e.trans ce
  have r_law_top_ : w_law_top_ = V.int law_top_ := r_law_top_; subst r_law_top_
  try dsimp only
  refine st_seq ?_
  refine st_set (K := K) e.s (se_add (se_int (n := 1)) (se_mod (se_divk (se_iv (i := 0) (d := law_rest_) rfl) (se_kmul (n := 2000000000) (se_int (n := 2)) (se_kpow (n := 1000000000) (se_int (n := 10)) (se_int (n := 9)) (by decide +kernel)) (by decide +kernel)) (by decide +kernel)) (se_ixp (FE.se (fe_lst (la_consp (se_int (n := 9)) (la_consp (se_int (n := 999999999)) la_nil)))) (se_modcp (se_divk (se_iv (i := 0) (d := law_rest_) rfl) (se_kpow (n := 1000000000) (se_int (n := 10)) (se_int (n := 9)) (by decide +kernel)) (by decide +kernel)) (by decide))))) hm (fun law_bottom_ w_law_bottom_ G1 H1 ce r_law_bottom_ hm => ?_)
  replace e := e.trans ce
  have r_law_bottom_ : w_law_bottom_ = V.int law_bottom_ := r_law_bottom_; subst r_law_bottom_
  try dsimp only
  refine st_seq ?_
  refine st_set (K := K) e.s (se_divk (se_iv (i := 0) (d := law_rest_) rfl) (se_kpow (n := 10000000000000000000) (se_int (n := 10)) (se_int (n := 19)) (by decide +kernel)) (by decide +kernel)) hm (fun law_rest_ w_law_rest_ G1 H1 ce r_law_rest_ hm => ?_)
  replace e := e.trans ce
  have r_law_rest_ : w_law_rest_ = V.int law_rest_ := r_law_rest_; subst r_law_rest_
  try dsimp only
  refine st_seq ?_
  refine st_if e.s (st_test (K := K) (se_eqp (se_iv (i := 1) (d := law_way_) rfl) (se_int (n := 0)))) hm (fun G1 H1 ce hm => ?_) (fun G1 H1 ce hm => ?_)
  · replace e := e.trans ce
    try dsimp only
    exact st_ret (RR := RV K) e rvm (SE.xe (se_tup3p (se_str (b := Str.ofString "")) (se_tup2p (se_int (n := 1)) (se_int (n := 1))) (se_iv (i := 0) (d := law_rest_) rfl))) hm q
  · replace e := e.trans ce
    refine st_next ?_
    try dsimp only
    refine st_seq ?_
    refine st_if e.s (st_test (K := K) (se_eqp (se_iv (i := 1) (d := law_way_) rfl) (se_int (n := 1)))) hm (fun G1 H1 ce hm => ?_) (fun G1 H1 ce hm => ?_)
    · replace e := e.trans ce
      try dsimp only
      exact st_ret (RR := RV K) e rvm (SE.xe (se_tup3 (se_catS (se_strIp (se_iv (i := 2) (d := law_top_) rfl)) (se_str (b := Str.ofString "*"))) (se_tup2p (se_iv (i := 2) (d := law_top_) rfl) (se_int (n := 1))) (se_iv (i := 0) (d := law_rest_) rfl))) hm q
    · replace e := e.trans ce
      refine st_next ?_
      try dsimp only
      exact st_ret (RR := RV K) e rvm (SE.xe (se_tup3 (se_catS (se_catS (se_catS (se_strIp (se_iv (i := 2) (d := law_top_) rfl)) (se_str (b := Str.ofString "/"))) (se_strIp (se_iv (i := 3) (d := law_bottom_) rfl))) (se_str (b := Str.ofString "*"))) (XE.se (xe_call2p rvm (se_iv (i := 2) (d := law_top_) rfl) (se_iv (i := 3) (d := law_bottom_) rfl))) (se_iv (i := 0) (d := law_rest_) rfl))) hm q
theorem ok_law_terms_ (T : Txt K mg) : FnOk P w K mg base CX0 3 T.a_law_terms_ T.d_law_terms_ ["_law_letters_here", "_law_many", "_law_rest", "_law_signs"] (Sp4 K (RV K) Mir.law_terms_) := by
  refine T.F_law_terms_.ok sc_law_terms_ (Sp4.len rfl) (fun cdv A outer s He vs Q E hr h => ?_)
  obtain ⟨Ge, w_law_letters_here_, w_law_many_, w_law_rest_, w_law_signs_, law_letters_here_, law_many_, law_rest_, law_signs_, r, rfl, hs, r_law_letters_here_, r_law_many_, r_law_rest_, r_law_signs_, hm, q⟩ := h
  have e : Ext Ge He Ge He := Ext.refl hs
  have r2_law_letters_here_ : w_law_letters_here_ = V.str law_letters_here_ := r_law_letters_here_
  subst r2_law_letters_here_
  clear r_law_letters_here_
  have r2_law_many_ : w_law_many_ = V.int law_many_ := r_law_many_
  subst r2_law_many_
  clear r_law_many_
  have r2_law_rest_ : w_law_rest_ = V.int law_rest_ := r_law_rest_
  subst r2_law_rest_
  clear r_law_rest_
  have r2_law_signs_ : w_law_signs_ = V.int law_signs_ := r_law_signs_
  subst r2_law_signs_
  clear r_law_signs_
  unfold Mir.law_terms_ at hm
  have st0 : ∀ a0 a1 a2 a3, L2.start N_law_terms_ [a0, a1, a2, a3] = [some a0, some a1, some a2, some a3, none, none, none, none, none, none, none, none] := fun _ _ _ _ => rfl
  refine ⟨_, (pss_cons (ps_set (i := 4) sc_law_terms_.nd rfl (Or.inl rfl) pe_str) (pss_cons (ps_set (i := 5) sc_law_terms_.nd rfl (Or.inl rfl) (pe_lst pa_nil)) (pss_cons (ps_for PassesOwn.never rfl (pi_range1 (by rfl) T.n_range (pa_cons (pv 1) pa_nil)) (pg_name (i := 6) sc_law_terms_.nd rfl (Or.inl rfl)) (pss_cons (ps_set (i := 7) sc_law_terms_.nd rfl (Or.inl rfl) (pe_ix ix_str (pv 0) (pe_op op_modN (pv 2) (pe_callB call_len_str (by rfl) T.n_len (by decide +kernel) (pa_cons (pv 0) pa_nil))) (fun _ _ => rfl))) (pss_cons (ps_set (i := 8) sc_law_terms_.nd rfl (Or.inl rfl) (pe_ix ix_str (pv 0) (pe_op op_modN (pe_op op_fdivW (pv 2) pe_int) (pe_callB call_len_str (by rfl) T.n_len (by decide +kernel) (pa_cons (pv 0) pa_nil))) (fun _ _ => rfl))) (pss_cons (ps_asg (pe_call (ok_law_written_ T) (hr.mono (by decide)) (by rfl) T.g_law_written_ T.F_law_written_.kp (bind_law_written_ T) .nil pass0 (pa_cons (pe_op op_fdivW (pv 2) pe_int) pa_nil)) (pg_tup rfl (pgs_cons (pg_name (i := 9) sc_law_terms_.nd rfl (Or.inl rfl)) (pgs_cons (pg_name (i := 10) sc_law_terms_.nd rfl (Or.inl rfl)) (pgs_cons (pg_name (i := 2) sc_law_terms_.nd rfl (Or.inl rfl)) pgs_nil))))) (pss_cons (ps_set (i := 11) sc_law_terms_.nd rfl (Or.inl rfl) (pe_cmpR op_eq (pe_op op_mod (pe_op op_divZ (pv 3) (pe_op op_shl pe_int (pv 6))) pe_int) pe_int (nomark _))) (pss_cons (ps_if (pt_cmpR op_gt (pv 6) pe_int (nomark _)) (pss_one (ps_set (i := 4) sc_law_terms_.nd rfl (Or.inl rfl) (pe_op op_add_str (pv 4) (pe_ix ix_list (pe_lst (pa_cons pe_str (pa_cons pe_str pa_nil))) (pe_callTy call_int1 (by rfl) T.n_int (by decide +kernel) (pa_cons (pv 11) pa_nil)) (fun _ _ => rfl))))) (pss_one (ps_if (pt_val (pv 11)) (pss_one (ps_set (i := 4) sc_law_terms_.nd rfl (Or.inl rfl) (pe_op op_add_str (pv 4) pe_str))) pss_nil))) (pss_cons (ps_set (i := 4) sc_law_terms_.nd rfl (Or.inl rfl) (pe_op op_add_str (pe_op op_add_str (pe_op op_add_str (pe_op op_add_str (pv 4) (pv 9)) (pv 7)) pe_str) (pv 8))) (pss_cons (ps_if (pt_val (pv 11)) (pss_one (ps_set (i := 10) sc_law_terms_.nd rfl (Or.inl rfl) (pe_tup (pa_cons (pe_un un_neg (pe_ix ix_tup (pv 10) pe_int (fun _ _ => rfl))) (pa_cons (pe_ix ix_tup (pv 10) pe_int (fun _ _ => rfl)) pa_nil))))) pss_nil) (pss_one (ps_expr (pe_bm PySem.F.plainAttrs_list PySem.F.slot_list_append PySem.F.type_list_append mt_append (pv 5) (pa_cons (pe_tup (pa_cons (pv 10) (pa_cons (pv 7) (pa_cons (pv 8) pa_nil)))) pa_nil)))))))))))) (pss_one (ps_ret (pe_tup (pa_cons (pv 4) (pa_cons (pv 5) pa_nil)))))))), ?_⟩
  try dsimp only
  try simp only [st0, List.set_cons_zero, List.set_cons_succ]
  refine st_seq ?_
  refine st_set (K := K) e.s (se_str (b := Str.ofString "")) hm (fun law_text_ w_law_text_ G1 H1 ce r_law_text_ hm => ?_)
  replace e := e.trans ce
  have r_law_text_ : w_law_text_ = V.str law_text_ := r_law_text_; subst r_law_text_
  try dsimp only
  try simp only [st0, List.set_cons_zero, List.set_cons_succ]
  refine st_seq ?_
  refine st_setF (K := K) e.s (fe_lst la_nil) hm (fun law_terms_here_ p_law_terms_here_ G1 H1 ce r_law_terms_here_ hm => ?_)
  replace r_law_terms_here_ := r_law_terms_here_.up e.h
  replace e := e.trans ce
  try dsimp only
  try simp only [st0, List.set_cons_zero, List.set_cons_succ]
  refine st_seq ?_
  refine st_for (K := K) e.s (ie_range1p (se_iv (i := 1) (d := law_many_) rfl)) hm (fun xs J Gs1 Hs1 ce it hm => ?_)
  replace e := e.trans ce
  replace r_law_terms_here_ := r_law_terms_here_.mono ce
  have sg1 : Same Gs1 Gs1 := Same.refl _
  obtain ⟨z1, hw, hm⟩ := bind_some hm
  refine lg_N (K := K) (fun (s1 : Int × Str × (List (T3 (Int × Int) Str Str))) σ G H => ∃ (p_law_terms_here_ : Addr) (j6 : Option V) (j7 : Option V) (j8 : Option V) (j9 : Option V) (j10 : Option V) (j11 : Option V), σ = [some (V.str law_letters_here_), some (V.int law_many_), some (V.int s1.1), some (V.int law_signs_), some (V.str s1.2.1), some (V.ref p_law_terms_here_), j6, j7, j8, j9, j10, j11] ∧ Ext Ge He G H ∧ Same Gs1 G ∧ Own K He G H p_law_terms_here_ s1.2.2) it hw ⟨_, _, _, _, _, _, _, rfl, e, sg1, r_law_terms_here_⟩ (fun s1 σ G H h => ?_) (fun s1 i1 f w1 σ G H G1 H1 N hx h ce hv hm hN => ?_) (fun σ G H h => ?_)
  · obtain ⟨p_law_terms_here_, j6, j7, j8, j9, j10, j11, es, e, sg1, r_law_terms_here_⟩ := h
    subst es
    exact ⟨sg1, e.s⟩
  · clear hw it
    obtain ⟨p_law_terms_here_, j6, j7, j8, j9, j10, j11, es, e, sg1, r_law_terms_here_⟩ := h
    subst es
    replace e := e.trans ce
    replace sg1 := sg1.trans ce.g
    replace r_law_terms_here_ := r_law_terms_here_.mono ce
    refine g_name ?_
    have hv2 : w1 = V.int i1 := hv
    subst hv2
    clear hv
    try dsimp only
    try simp only [st0, List.set_cons_zero, List.set_cons_succ]
    refine st_seq ?_
    refine st_set (K := K) e.s (se_ixS (se_sv (i := 0) (d := law_letters_here_) rfl) (se_mod (se_iv (i := 2) (d := s1.1) rfl) (se_lenSp (se_sv (i := 0) (d := law_letters_here_) rfl)))) hm (fun law_one_ w_law_one_ G1 H1 ce r_law_one_ hm => ?_)
    replace e := e.trans ce
    replace sg1 := sg1.trans ce.g
    replace r_law_terms_here_ := r_law_terms_here_.mono ce
    have r_law_one_ : w_law_one_ = V.str law_one_ := r_law_one_; subst r_law_one_
    try dsimp only
    try simp only [st0, List.set_cons_zero, List.set_cons_succ]
    refine st_seq ?_
    refine st_set (K := K) e.s (se_ixS (se_sv (i := 0) (d := law_letters_here_) rfl) (se_mod (se_divcp (se_iv (i := 2) (d := s1.1) rfl) (by decide)) (se_lenSp (se_sv (i := 0) (d := law_letters_here_) rfl)))) hm (fun law_other_ w_law_other_ G1 H1 ce r_law_other_ hm => ?_)
    replace e := e.trans ce
    replace sg1 := sg1.trans ce.g
    replace r_law_terms_here_ := r_law_terms_here_.mono ce
    have r_law_other_ : w_law_other_ = V.str law_other_ := r_law_other_; subst r_law_other_
    try dsimp only
    try simp only [st0, List.set_cons_zero, List.set_cons_succ]
    refine st_seq ?_
    refine st_un3 (K := K) e.s (XE.se (xe_call1p rvm (se_divcp (se_iv (i := 2) (d := s1.1) rfl) (by decide)))) hm (fun t2 w_law_wrote_ w_law_number_ w_law_rest_ G1 H1 ce r_law_wrote_ r_law_number_ r_law_rest_ hm => ?_)
    replace e := e.trans ce
    replace sg1 := sg1.trans ce.g
    replace r_law_terms_here_ := r_law_terms_here_.mono ce
    have r_law_wrote_ : w_law_wrote_ = V.str t2.a := r_law_wrote_; subst r_law_wrote_
    have r_law_rest_ : w_law_rest_ = V.int t2.c := r_law_rest_; subst r_law_rest_
    try dsimp only
    try simp only [st0, List.set_cons_zero, List.set_cons_succ]
    refine st_seq ?_
    refine st_set (K := K) e.s (se_eq (se_modc (se_div (se_iv (i := 3) (d := law_signs_) rfl) (se_shlp (se_int (n := 1)) (se_iv (i := 6) (d := i1) rfl))) (by decide)) (se_int (n := 1))) hm (fun law_is_minus_ w_law_is_minus_ G1 H1 ce r_law_is_minus_ hm => ?_)
    replace e := e.trans ce
    replace sg1 := sg1.trans ce.g
    replace r_law_terms_here_ := r_law_terms_here_.mono ce
    replace r_law_number_ := Rp.mono ce.g r_law_number_
    have r_law_is_minus_ : w_law_is_minus_ = V.bl law_is_minus_ := r_law_is_minus_; subst r_law_is_minus_
    try dsimp only
    try simp only [st0, List.set_cons_zero, List.set_cons_succ]
    refine st_seq ?_
    obtain ⟨s3, hA, hm⟩ := bind_some hm
    refine st_join (fun σ H => ∃ G, ∃ (p_law_terms_here_ : Addr) (w_law_number_ : V), σ = [some (V.str law_letters_here_), some (V.int law_many_), some (V.int t2.c), some (V.int law_signs_), some (V.str s3), some (V.ref p_law_terms_here_), some (V.int i1), some (V.str law_one_), some (V.str law_other_), some (V.str t2.a), some w_law_number_, some (V.bl law_is_minus_)] ∧ Ext Ge He G H ∧ Same Gs1 G ∧ Own K He G H p_law_terms_here_ s1.2.2 ∧ rep K G w_law_number_ t2.b) (fun σ H h => ?_) (fun N hN => ?_)
    · obtain ⟨G, p_law_terms_here_, w_law_number_, es, e, sg1, r_law_terms_here_, r_law_number_⟩ := h
      subst es
      try dsimp only
      try simp only [st0, List.set_cons_zero, List.set_cons_succ]
      refine st_seq ?_
      refine st_set (K := K) e.s (se_catS (se_catS (se_catS (se_catSp (se_sv (i := 4) (d := s3) rfl) (se_sv (i := 9) (d := t2.a) rfl)) (se_sv (i := 7) (d := law_one_) rfl)) (se_str (b := Str.ofString "*"))) (se_sv (i := 8) (d := law_other_) rfl)) hm (fun law_text_ w_law_text_ G1 H1 ce r_law_text_ hm => ?_)
      replace e := e.trans ce
      replace sg1 := sg1.trans ce.g
      replace r_law_terms_here_ := r_law_terms_here_.mono ce
      replace r_law_number_ := Rp.mono ce.g r_law_number_
      have r_law_text_ : w_law_text_ = V.str law_text_ := r_law_text_; subst r_law_text_
      try dsimp only
      try simp only [st0, List.set_cons_zero, List.set_cons_succ]
      refine st_seq ?_
      obtain ⟨s4, hA, hm⟩ := bind_some hm
      refine st_join (fun σ H => ∃ G, ∃ (p_law_terms_here_ : Addr) (w_law_number_ : V), σ = [some (V.str law_letters_here_), some (V.int law_many_), some (V.int t2.c), some (V.int law_signs_), some (V.str law_text_), some (V.ref p_law_terms_here_), some (V.int i1), some (V.str law_one_), some (V.str law_other_), some (V.str t2.a), some w_law_number_, some (V.bl law_is_minus_)] ∧ Ext Ge He G H ∧ Same Gs1 G ∧ Own K He G H p_law_terms_here_ s1.2.2 ∧ rep K G w_law_number_ s4) (fun σ H h => ?_) (fun N hN => ?_)
      · obtain ⟨G, p_law_terms_here_, w_law_number_, es, e, sg1, r_law_terms_here_, r_law_number_⟩ := h
        subst es
        try dsimp only
        try simp only [st0, List.set_cons_zero, List.set_cons_succ]
        refine st_app (K := K) e.s rfl r_law_terms_here_ (se_tup3p (se_var (i := 10) (d := s4) rfl r_law_number_) (se_sv (i := 7) (d := law_one_) rfl) (se_sv (i := 8) (d := law_other_) rfl)) hm (fun law_terms_here_ h_law_terms_here_ G1 H1 ce ro g0 hm => ?_)
        replace e := e.trans ce
        replace sg1 := sg1.trans ce.g
        replace r_law_number_ := Rp.mono ce.g r_law_number_
        replace e := e.put (o := h_law_terms_here_) ro.z g0 (r_law_terms_here_.mono ce).pn
        clear r_law_terms_here_ g0
        have r_law_terms_here_ := ro
        clear ro
        cases hm
        exact hN _ _ _ ⟨_, _, _, _, _, _, _, rfl, e, sg1, r_law_terms_here_⟩
      · clear hm
        refine st_if e.s (st_val (K := K) (se_bv (i := 11) (d := law_is_minus_) rfl)) hA (fun G1 H1 ce hm => ?_) (fun G1 H1 ce hm => ?_)
        · replace e := e.trans ce
          replace sg1 := sg1.trans ce.g
          replace r_law_terms_here_ := r_law_terms_here_.mono ce
          replace r_law_number_ := Rp.mono ce.g r_law_number_
          try dsimp only
          try simp only [st0, List.set_cons_zero, List.set_cons_succ]
          refine st_set (K := K) e.s (se_tup2p (se_negp (se_t2_0p (se_var (i := 10) (d := t2.b) rfl r_law_number_))) (se_t2_1p (se_var (i := 10) (d := t2.b) rfl r_law_number_))) hm (fun law_number_ w_law_number_ G1 H1 ce r_law_number_ hm => ?_)
          replace e := e.trans ce
          replace sg1 := sg1.trans ce.g
          replace r_law_terms_here_ := r_law_terms_here_.mono ce
          cases hm
          exact hN _ _ ⟨_, _, _, rfl, e, sg1, r_law_terms_here_, r_law_number_⟩
        · replace e := e.trans ce
          replace sg1 := sg1.trans ce.g
          replace r_law_terms_here_ := r_law_terms_here_.mono ce
          replace r_law_number_ := Rp.mono ce.g r_law_number_
          refine st_next ?_
          cases hm
          exact hN _ _ ⟨_, _, _, rfl, e, sg1, r_law_terms_here_, r_law_number_⟩
    · clear hm
      refine st_if e.s (st_test (K := K) (se_gtp (se_iv (i := 6) (d := i1) rfl) (se_int (n := 0)))) hA (fun G1 H1 ce hm => ?_) (fun G1 H1 ce hm => ?_)
      · replace e := e.trans ce
        replace sg1 := sg1.trans ce.g
        replace r_law_terms_here_ := r_law_terms_here_.mono ce
        replace r_law_number_ := Rp.mono ce.g r_law_number_
        try dsimp only
        try simp only [st0, List.set_cons_zero, List.set_cons_succ]
        refine st_set (K := K) e.s (se_catS (se_sv (i := 4) (d := s1.2.1) rfl) (se_ixp (FE.se (fe_lst (la_consp (se_str (b := Str.ofString " + ")) (la_consp (se_str (b := Str.ofString " - ")) la_nil)))) (se_intbp (se_bv (i := 11) (d := law_is_minus_) rfl)))) hm (fun law_text_ w_law_text_ G1 H1 ce r_law_text_ hm => ?_)
        replace e := e.trans ce
        replace sg1 := sg1.trans ce.g
        replace r_law_terms_here_ := r_law_terms_here_.mono ce
        replace r_law_number_ := Rp.mono ce.g r_law_number_
        have r_law_text_ : w_law_text_ = V.str law_text_ := r_law_text_; subst r_law_text_
        cases hm
        exact hN _ _ ⟨_, _, _, rfl, e, sg1, r_law_terms_here_, r_law_number_⟩
      · replace e := e.trans ce
        replace sg1 := sg1.trans ce.g
        replace r_law_terms_here_ := r_law_terms_here_.mono ce
        replace r_law_number_ := Rp.mono ce.g r_law_number_
        try dsimp only
        try simp only [st0, List.set_cons_zero, List.set_cons_succ]
        refine st_if e.s (st_val (K := K) (se_bv (i := 11) (d := law_is_minus_) rfl)) hm (fun G1 H1 ce hm => ?_) (fun G1 H1 ce hm => ?_)
        · replace e := e.trans ce
          replace sg1 := sg1.trans ce.g
          replace r_law_terms_here_ := r_law_terms_here_.mono ce
          replace r_law_number_ := Rp.mono ce.g r_law_number_
          try dsimp only
          try simp only [st0, List.set_cons_zero, List.set_cons_succ]
          refine st_set (K := K) e.s (se_catSp (se_sv (i := 4) (d := s1.2.1) rfl) (se_str (b := Str.ofString "-"))) hm (fun law_text_ w_law_text_ G1 H1 ce r_law_text_ hm => ?_)
          replace e := e.trans ce
          replace sg1 := sg1.trans ce.g
          replace r_law_terms_here_ := r_law_terms_here_.mono ce
          replace r_law_number_ := Rp.mono ce.g r_law_number_
          have r_law_text_ : w_law_text_ = V.str law_text_ := r_law_text_; subst r_law_text_
          cases hm
          exact hN _ _ ⟨_, _, _, rfl, e, sg1, r_law_terms_here_, r_law_number_⟩
        · replace e := e.trans ce
          replace sg1 := sg1.trans ce.g
          replace r_law_terms_here_ := r_law_terms_here_.mono ce
          replace r_law_number_ := Rp.mono ce.g r_law_number_
          refine st_next ?_
          cases hm
          exact hN _ _ ⟨_, _, _, rfl, e, sg1, r_law_terms_here_, r_law_number_⟩
  · clear hw it
    obtain ⟨p_law_terms_here_, j6, j7, j8, j9, j10, j11, es, e, sg1, r_law_terms_here_⟩ := h
    subst es
    clear sg1
    try dsimp only
    try simp only [st0, List.set_cons_zero, List.set_cons_succ]
    obtain ⟨vs_law_terms_here_, e, sg_law_terms_here_, q_law_terms_here_⟩ := r_law_terms_here_.show e
    clear r_law_terms_here_
    have r_law_terms_here_ := q_law_terms_here_
    clear q_law_terms_here_
    exact st_ret (RR := RV K) e rvm (SE.xe (se_tup2p (se_sv (i := 4) (d := z1.2.1) rfl) (se_var (i := 5) (d := z1.2.2) rfl r_law_terms_here_))) hm q
theorem ok_law_times_ (T : Txt K mg) : FnOk P w K mg base CX0 2 T.a_law_times_ T.d_law_times_ ["_law_u", "_law_v"] (Sp2 K (RV K) Mir.law_times_) := by
  refine T.F_law_times_.ok sc_law_times_ (Sp2.len rfl) (fun cdv A outer s He vs Q E hr h => ?_)
  obtain ⟨Ge, w_law_u_, w_law_v_, law_u_, law_v_, r, rfl, hs, r_law_u_, r_law_v_, hm, q⟩ := h
  have e : Ext Ge He Ge He := Ext.refl hs
  unfold Mir.law_times_ at hm
  refine ⟨_, (pss_one (ps_ret (pe_call (ok_law_low_ T) (hr.mono (by decide)) (by rfl) T.g_law_low_ T.F_law_low_.kp (bind_law_low_ T) .nil pass0 (pa_cons (pe_op op_mulZ (pe_ix ix_tup (pv 0) pe_int (fun _ _ => rfl)) (pe_ix ix_tup (pv 1) pe_int (fun _ _ => rfl))) (pa_cons (pe_op op_mulZ (pe_ix ix_tup (pv 0) pe_int (fun _ _ => rfl)) (pe_ix ix_tup (pv 1) pe_int (fun _ _ => rfl))) pa_nil))))), ?_⟩
  try dsimp only
  exact st_ret (RR := RV K) e rvm (SE.xe (XE.se (xe_call2 rvm (se_mulp (se_t2_0p (se_var (i := 0) (d := law_u_) rfl r_law_u_)) (se_t2_0p (se_var (i := 1) (d := law_v_) rfl r_law_v_))) (se_mulp (se_t2_1p (se_var (i := 0) (d := law_u_) rfl r_law_u_)) (se_t2_1p (se_var (i := 1) (d := law_v_) rfl r_law_v_)))))) hm q
theorem ok_law_plus_ (T : Txt K mg) : FnOk P w K mg base CX0 2 T.a_law_plus_ T.d_law_plus_ ["_law_u", "_law_v"] (Sp2 K (RV K) Mir.law_plus_) := by
  refine T.F_law_plus_.ok sc_law_plus_ (Sp2.len rfl) (fun cdv A outer s He vs Q E hr h => ?_)
  obtain ⟨Ge, w_law_u_, w_law_v_, law_u_, law_v_, r, rfl, hs, r_law_u_, r_law_v_, hm, q⟩ := h
  have e : Ext Ge He Ge He := Ext.refl hs
  unfold Mir.law_plus_ at hm
  refine ⟨_, (pss_one (ps_ret (pe_call (ok_law_low_ T) (hr.mono (by decide)) (by rfl) T.g_law_low_ T.F_law_low_.kp (bind_law_low_ T) .nil pass0 (pa_cons (pe_op op_add (pe_op op_mulZ (pe_ix ix_tup (pv 0) pe_int (fun _ _ => rfl)) (pe_ix ix_tup (pv 1) pe_int (fun _ _ => rfl))) (pe_op op_mulZ (pe_ix ix_tup (pv 1) pe_int (fun _ _ => rfl)) (pe_ix ix_tup (pv 0) pe_int (fun _ _ => rfl)))) (pa_cons (pe_op op_mulZ (pe_ix ix_tup (pv 0) pe_int (fun _ _ => rfl)) (pe_ix ix_tup (pv 1) pe_int (fun _ _ => rfl))) pa_nil))))), ?_⟩
  try dsimp only
  exact st_ret (RR := RV K) e rvm (SE.xe (XE.se (xe_call2 rvm (se_add (se_mulp (se_t2_0p (se_var (i := 0) (d := law_u_) rfl r_law_u_)) (se_t2_1p (se_var (i := 1) (d := law_v_) rfl r_law_v_))) (se_mulp (se_t2_0p (se_var (i := 1) (d := law_v_) rfl r_law_v_)) (se_t2_1p (se_var (i := 0) (d := law_u_) rfl r_law_u_)))) (se_mulp (se_t2_1p (se_var (i := 0) (d := law_u_) rfl r_law_u_)) (se_t2_1p (se_var (i := 1) (d := law_v_) rfl r_law_v_)))))) hm q
theorem ok_law_due_ (T : Txt K mg) : FnOk P w K mg base CX0 3 T.a_law_due_ T.d_law_due_ ["_law_terms_here"] (Sp1 K (RV K) Mir.law_due_) := by
  refine T.F_law_due_.ok sc_law_due_ (Sp1.len rfl) (fun cdv A outer s He vs Q E hr h => ?_)
  obtain ⟨Ge, w_law_terms_here_, law_terms_here_, r, rfl, hs, r_law_terms_here_, hm, q⟩ := h
  have e : Ext Ge He Ge He := Ext.refl hs
  unfold Mir.law_due_ at hm
  have st0 : ∀ a0, L2.start N_law_due_ [a0] = [some a0, none, none, none, none, none, none, none, none, none, none, none] := fun _ => rfl
  refine ⟨_, (pss_cons (ps_setLc (i := 1) (own := [("_law_c", 10)]) rfl sc_law_due_.nd rfl rfl (sw_true rfl rfl rfl (by decide +kernel)) (pi_str pe_str) (blkOk_by (own := [("_law_c", 10)]) (N := N_law_due_) (sc := defScope s_law_due_) (by decide +kernel)) (fun _ _ _ _ _ => pg_name (i := 10) sc_law_due_.nd rfl (Or.inl rfl)) (fun _ _ _ _ _ => pts_one (PW.pt (pw_or (pt_cmpR (op_in_seqK (K := K) rfl) (pv 10) (pe_lc (own := [("_law_t", 11)]) (by rfl) sc_law_due_.nd (pi_listK (K := K) rfl (pv 0)) (blkOk_by (own := [("_law_t", 11)]) (N := N_law_due_) (sc := relS _ (defScope s_law_due_)) (by decide +kernel)) (fun _ _ _ _ _ => pg_name (i := 11) sc_law_due_.nd rfl (Or.inl rfl)) (fun _ _ _ _ _ => pts_nil) (fun _ _ _ _ _ => (pe_ix (ix_tupK (K := K) rfl) (pv 11) pe_int (fun _ _ => rfl)))) (by rfl)) (pw_or1 (pt_cmpR (op_in_seqK (K := K) rfl) (pv 10) (pe_lc (own := [("_law_t", 11)]) (by rfl) sc_law_due_.nd (pi_listK (K := K) rfl (pv 0)) (blkOk_by (own := [("_law_t", 11)]) (N := N_law_due_) (sc := relS _ (defScope s_law_due_)) (by decide +kernel)) (fun _ _ _ _ _ => pg_name (i := 11) sc_law_due_.nd rfl (Or.inl rfl)) (fun _ _ _ _ _ => pts_nil) (fun _ _ _ _ _ => (pe_ix (ix_tupK (K := K) rfl) (pv 11) pe_int (fun _ _ => rfl)))) (by rfl)))))) (fun _ _ _ _ _ => (pv 10))) (pss_cons (ps_set (i := 2) sc_law_due_.nd rfl (Or.inr rfl) (pe_callB call_len_seq (by rfl) T.n_len (by decide +kernel) (pa_cons (pv 1) pa_nil))) (pss_cons (ps_setLc (i := 5) (own := [("_law_i", 3)]) rfl sc_law_due_.nd rfl rfl (sw_true rfl rfl rfl (by decide +kernel)) (pi_range1 (by rfl) T.n_range (pa_cons (pv 2) pa_nil)) (blkOk_by (own := [("_law_i", 3)]) (N := N_law_due_) (sc := defScope s_law_due_) (by decide +kernel)) (fun _ _ _ _ _ => pg_name (i := 3) sc_law_due_.nd rfl (Or.inl rfl)) (fun _ _ _ _ _ => pts_nil) (fun _ _ _ _ _ => (pe_lc (own := [("_law_j", 4)]) (by rfl) sc_law_due_.nd (pi_range1 (by rfl) T.n_range (pa_cons (pv 2) pa_nil)) (blkOk_by (own := [("_law_j", 4)]) (N := N_law_due_) (sc := relS _ (defScope s_law_due_)) (by decide +kernel)) (fun _ _ _ _ _ => pg_name (i := 4) sc_law_due_.nd rfl (Or.inl rfl)) (fun _ _ _ _ _ => pts_nil) (fun _ _ _ _ _ => (pe_tup (pa_cons pe_int (pa_cons pe_int pa_nil))))))) (pss_cons (ps_for PassesOwn.never rfl (pi_list (pv 0)) (pg_tup rfl (pgs_cons (pg_name (i := 6) sc_law_due_.nd rfl (Or.inl rfl)) (pgs_cons (pg_name (i := 7) sc_law_due_.nd rfl (Or.inl rfl)) (pgs_cons (pg_name (i := 8) sc_law_due_.nd rfl (Or.inl rfl)) pgs_nil)))) (pss_cons (ps_set (i := 3) sc_law_due_.nd rfl (Or.inl rfl) (pe_bm PySem.F.plainAttrs_list PySem.F.slot_list_index PySem.F.type_list_index mt_index (pv 1) (pa_cons (pv 7) pa_nil))) (pss_cons (ps_set (i := 4) sc_law_due_.nd rfl (Or.inl rfl) (pe_bm PySem.F.plainAttrs_list PySem.F.slot_list_index PySem.F.type_list_index mt_index (pv 1) (pa_cons (pv 8) pa_nil))) (pss_cons (ps_set (i := 9) sc_law_due_.nd rfl (Or.inl rfl) (pe_call (ok_law_times_ T) (hr.mono (by decide)) (by rfl) T.g_law_times_ T.F_law_times_.kp (bind_law_times_ T) .nil pass0 (pa_cons (pv 6) (pa_cons (pe_tup (pa_cons pe_int (pa_cons pe_int pa_nil))) pa_nil)))) (pss_cons (ps_asg (pe_call (ok_law_plus_ T) (hr.mono (by decide)) (by rfl) T.g_law_plus_ T.F_law_plus_.kp (bind_law_plus_ T) .nil pass0 (pa_cons (pe_ix ix_list (pe_ix ix_list (pv 5) (pv 3) (fun _ _ => rfl)) (pv 4) (fun _ _ => rfl)) (pa_cons (pv 9) pa_nil))) (pg_sub (pe_ix ix_list (pv 5) (pv 3) (fun _ _ => rfl)) (pv 4) set_list)) (pss_one (ps_asg (pe_call (ok_law_plus_ T) (hr.mono (by decide)) (by rfl) T.g_law_plus_ T.F_law_plus_.kp (bind_law_plus_ T) .nil pass0 (pa_cons (pe_ix ix_list (pe_ix ix_list (pv 5) (pv 4) (fun _ _ => rfl)) (pv 3) (fun _ _ => rfl)) (pa_cons (pv 9) pa_nil))) (pg_sub (pe_ix ix_list (pv 5) (pv 4) (fun _ _ => rfl)) (pv 3) set_list)))))))) (pss_one (ps_ret (pe_tup (pa_cons (pe_join pe_str (pv 1)) (pa_cons (pv 5) pa_nil))))))))), ?_⟩
  try dsimp only
  try simp only [st0, List.set_cons_zero, List.set_cons_succ]
  refine st_seq ?_
  refine st_set (K := K) e.s (FE.se (fe_lc _ (ib_str (se_str (b := Str.ofString "abcdefghijklmnopqrstuvwxyz"))) tg_name (fun law_c_ s1 G1 H1 ce1 ⟨w1, es1, h1⟩ => by subst es1; have h1 : w1 = V.str law_c_ := h1; subst h1; exact (st_or (st_test (K := K) (se_in (se_sv (i := 10) (d := law_c_) rfl) (FE.se (fe_map _ (ib_list (se_var (i := 0) (d := law_terms_here_) rfl (Rp.mono ce1.g r_law_terms_here_))) tg_name (fun law_t_ s2 G2 H2 ce2 ⟨w2, es2, h2⟩ => by subst es2; exact (se_t3_1p (se_var (i := 11) (d := law_t_) rfl h2))))))) (st_test (K := K) (se_in (se_sv (i := 10) (d := law_c_) rfl) (FE.se (fe_map _ (ib_list (se_var (i := 0) (d := law_terms_here_) rfl (Rp.mono ce1.g r_law_terms_here_))) tg_name (fun law_t_ s3 G3 H3 ce3 ⟨w3, es3, h3⟩ => by subst es3; exact (se_t3_2p (se_var (i := 11) (d := law_t_) rfl h3))))))))) (fun law_c_ s1 G1 H1 ce1 ⟨w1, es1, h1⟩ => by subst es1; have h1 : w1 = V.str law_c_ := h1; subst h1; exact (se_sv (i := 10) (d := law_c_) rfl)))) hm (fun law_letters_here_ w_law_letters_here_ G1 H1 ce r_law_letters_here_ hm => ?_)
  replace e := e.trans ce
  replace r_law_terms_here_ := Rp.mono ce.g r_law_terms_here_
  try dsimp only
  try simp only [st0, List.set_cons_zero, List.set_cons_succ]
  refine st_seq ?_
  refine st_set (K := K) e.s (se_lenp (se_var (i := 1) (d := law_letters_here_) rfl r_law_letters_here_)) hm (fun law_n_ w_law_n_ G1 H1 ce r_law_n_ hm => ?_)
  replace e := e.trans ce
  replace r_law_terms_here_ := Rp.mono ce.g r_law_terms_here_
  replace r_law_letters_here_ := Rp.mono ce.g r_law_letters_here_
  have r_law_n_ : w_law_n_ = V.int law_n_ := r_law_n_; subst r_law_n_
  try dsimp only
  try simp only [st0, List.set_cons_zero, List.set_cons_succ]
  refine st_seq ?_
  refine st_setF2 (K := K) e.s (fe2_map _ (ib_range1p (se_iv (i := 2) (d := law_n_) rfl)) tg_name (fun law_i_ s4 G4 H4 ce4 ⟨w4, es4, h4⟩ => by subst es4; have h4 : w4 = V.int law_i_ := h4; subst h4; exact (fe_map _ (ib_range1p (se_iv (i := 2) (d := law_n_) rfl)) tg_name (fun law_j_ s5 G5 H5 ce5 ⟨w5, es5, h5⟩ => by subst es5; have h5 : w5 = V.int law_j_ := h5; subst h5; exact (se_tup2p (se_int (n := 0)) (se_int (n := 1))))))) hm (fun law_form_ p_law_form_ qs_law_form_ G1 H1 ce r_law_form_ hm => ?_)
  replace r_law_form_ := r_law_form_.up e.h
  replace e := e.trans ce
  replace r_law_terms_here_ := Rp.mono ce.g r_law_terms_here_
  replace r_law_letters_here_ := Rp.mono ce.g r_law_letters_here_
  try dsimp only
  try simp only [st0, List.set_cons_zero, List.set_cons_succ]
  refine st_seq ?_
  refine st_for (K := K) e.s (IB.ie (ib_list (se_var (i := 0) (d := law_terms_here_) rfl r_law_terms_here_))) hm (fun xs J Gs6 Hs6 ce it hm => ?_)
  replace e := e.trans ce
  replace r_law_terms_here_ := Rp.mono ce.g r_law_terms_here_
  replace r_law_letters_here_ := Rp.mono ce.g r_law_letters_here_
  replace r_law_form_ := r_law_form_.mono ce
  have sg6 : Same Gs6 Gs6 := Same.refl _
  obtain ⟨z6, hw, hm⟩ := bind_some hm
  refine lg_N (K := K) (fun (s6 : (List (List (Int × Int)))) σ G H => ∃ (w_law_terms_here_ : V) (w_law_letters_here_ : V) (j3 : Option V) (j4 : Option V) (p_law_form_ : Addr) (qs_law_form_ : List Nat) (j6 : Option V) (j7 : Option V) (j8 : Option V) (j9 : Option V) (j10 : Option V) (j11 : Option V), σ = [some w_law_terms_here_, some w_law_letters_here_, some (V.int law_n_), j3, j4, some (V.ref p_law_form_), j6, j7, j8, j9, j10, j11] ∧ Ext Ge He G H ∧ Same Gs6 G ∧ rep K G w_law_terms_here_ law_terms_here_ ∧ rep K G w_law_letters_here_ law_letters_here_ ∧ Own2 K He G H p_law_form_ qs_law_form_ s6) it hw ⟨_, _, _, _, _, _, _, _, _, _, _, _, rfl, e, sg6, r_law_terms_here_, r_law_letters_here_, r_law_form_⟩ (fun s6 σ G H h => ?_) (fun s6 i6 f w6 σ G H G1 H1 N hx h ce hv hm hN => ?_) (fun σ G H h => ?_)
  · obtain ⟨w_law_terms_here_, w_law_letters_here_, j3, j4, p_law_form_, qs_law_form_, j6, j7, j8, j9, j10, j11, es, e, sg6, r_law_terms_here_, r_law_letters_here_, r_law_form_⟩ := h
    subst es
    exact ⟨sg6, e.s⟩
  · clear hw it
    obtain ⟨w_law_terms_here_, w_law_letters_here_, j3, j4, p_law_form_, qs_law_form_, j6, j7, j8, j9, j10, j11, es, e, sg6, r_law_terms_here_, r_law_letters_here_, r_law_form_⟩ := h
    subst es
    replace e := e.trans ce
    replace sg6 := sg6.trans ce.g
    replace r_law_terms_here_ := Rp.mono ce.g r_law_terms_here_
    replace r_law_letters_here_ := Rp.mono ce.g r_law_letters_here_
    replace r_law_form_ := r_law_form_.mono ce
    refine g_three (K := K) e.s hv (fun w_law_number_ w_law_one_ w_law_other_ r_law_number_ r_law_one_ r_law_other_ => ?_)
    clear hv
    have r_law_one_ : w_law_one_ = V.str i6.b := r_law_one_; subst r_law_one_
    have r_law_other_ : w_law_other_ = V.str i6.c := r_law_other_; subst r_law_other_
    try dsimp only
    try simp only [st0, List.set_cons_zero, List.set_cons_succ]
    refine st_seq ?_
    refine st_set (K := K) e.s (se_idxLp (se_var (i := 1) (d := law_letters_here_) rfl r_law_letters_here_) (se_sv (i := 7) (d := i6.b) rfl)) hm (fun law_i_ w_law_i_ G1 H1 ce r_law_i_ hm => ?_)
    replace e := e.trans ce
    replace sg6 := sg6.trans ce.g
    replace r_law_terms_here_ := Rp.mono ce.g r_law_terms_here_
    replace r_law_letters_here_ := Rp.mono ce.g r_law_letters_here_
    replace r_law_form_ := r_law_form_.mono ce
    replace r_law_number_ := Rp.mono ce.g r_law_number_
    have r_law_i_ : w_law_i_ = V.int law_i_ := r_law_i_; subst r_law_i_
    try dsimp only
    try simp only [st0, List.set_cons_zero, List.set_cons_succ]
    refine st_seq ?_
    refine st_set (K := K) e.s (se_idxLp (se_var (i := 1) (d := law_letters_here_) rfl r_law_letters_here_) (se_sv (i := 8) (d := i6.c) rfl)) hm (fun law_j_ w_law_j_ G1 H1 ce r_law_j_ hm => ?_)
    replace e := e.trans ce
    replace sg6 := sg6.trans ce.g
    replace r_law_terms_here_ := Rp.mono ce.g r_law_terms_here_
    replace r_law_letters_here_ := Rp.mono ce.g r_law_letters_here_
    replace r_law_form_ := r_law_form_.mono ce
    replace r_law_number_ := Rp.mono ce.g r_law_number_
    have r_law_j_ : w_law_j_ = V.int law_j_ := r_law_j_; subst r_law_j_
    try dsimp only
    try simp only [st0, List.set_cons_zero, List.set_cons_succ]
    refine st_seq ?_
    refine st_set (K := K) e.s (XE.se (xe_call2p rvm (se_var (i := 6) (d := i6.a) rfl r_law_number_) (se_tup2p (se_int (n := 1)) (se_int (n := 2))))) hm (fun law_half_ w_law_half_ G1 H1 ce r_law_half_ hm => ?_)
    replace e := e.trans ce
    replace sg6 := sg6.trans ce.g
    replace r_law_terms_here_ := Rp.mono ce.g r_law_terms_here_
    replace r_law_letters_here_ := Rp.mono ce.g r_law_letters_here_
    replace r_law_form_ := r_law_form_.mono ce
    replace r_law_number_ := Rp.mono ce.g r_law_number_
    try dsimp only
    try simp only [st0, List.set_cons_zero, List.set_cons_succ]
    refine st_seq ?_
    refine st_put2 (K := K) e.s rfl r_law_form_ (XE.se (xe_call2 rvm (se_own2_ix (i := 5) rfl r_law_form_ (se_iv (i := 3) (d := law_i_) rfl) (se_iv (i := 4) (d := law_j_) rfl)) (se_var (i := 9) (d := law_half_) rfl r_law_half_))) (se_iv (i := 3) (d := law_i_) rfl) (se_iv (i := 4) (d := law_j_) rfl) hm (fun law_form_ q_law_form_ h_law_form_ G1 H1 ce ro rb hq hm => ?_)
    replace e := e.trans ce
    replace sg6 := sg6.trans ce.g
    replace r_law_terms_here_ := Rp.mono ce.g r_law_terms_here_
    replace r_law_letters_here_ := Rp.mono ce.g r_law_letters_here_
    replace r_law_number_ := Rp.mono ce.g r_law_number_
    replace r_law_half_ := Rp.mono ce.g r_law_half_
    replace e := e.put (o := h_law_form_) (rb.zs _ hq) (rb.gs _ hq) (rb.pn _ hq)
    clear r_law_form_ rb hq
    have r_law_form_ := ro
    clear ro
    try dsimp only
    try simp only [st0, List.set_cons_zero, List.set_cons_succ]
    refine st_put2 (K := K) e.s rfl r_law_form_ (XE.se (xe_call2 rvm (se_own2_ix (i := 5) rfl r_law_form_ (se_iv (i := 4) (d := law_j_) rfl) (se_iv (i := 3) (d := law_i_) rfl)) (se_var (i := 9) (d := law_half_) rfl r_law_half_))) (se_iv (i := 4) (d := law_j_) rfl) (se_iv (i := 3) (d := law_i_) rfl) hm (fun law_form_ q_law_form_ h_law_form_ G1 H1 ce ro rb hq hm => ?_)
    replace e := e.trans ce
    replace sg6 := sg6.trans ce.g
    replace r_law_terms_here_ := Rp.mono ce.g r_law_terms_here_
    replace r_law_letters_here_ := Rp.mono ce.g r_law_letters_here_
    replace r_law_number_ := Rp.mono ce.g r_law_number_
    replace r_law_half_ := Rp.mono ce.g r_law_half_
    replace e := e.put (o := h_law_form_) (rb.zs _ hq) (rb.gs _ hq) (rb.pn _ hq)
    clear r_law_form_ rb hq
    have r_law_form_ := ro
    clear ro
    cases hm
    exact hN _ _ _ ⟨_, _, _, _, _, _, _, _, _, _, _, _, rfl, e, sg6, r_law_terms_here_, r_law_letters_here_, r_law_form_⟩
  · clear hw it
    obtain ⟨w_law_terms_here_, w_law_letters_here_, j3, j4, p_law_form_, qs_law_form_, j6, j7, j8, j9, j10, j11, es, e, sg6, r_law_terms_here_, r_law_letters_here_, r_law_form_⟩ := h
    subst es
    clear sg6
    try dsimp only
    try simp only [st0, List.set_cons_zero, List.set_cons_succ]
    obtain ⟨e, sg_law_form_, q_law_form_⟩ := r_law_form_.show e
    replace r_law_terms_here_ := Rp.mono sg_law_form_ r_law_terms_here_
    replace r_law_letters_here_ := Rp.mono sg_law_form_ r_law_letters_here_
    clear r_law_form_
    have r_law_form_ := q_law_form_
    clear q_law_form_
    exact st_ret (RR := RV K) e rvm (SE.xe (se_tup2 (se_joinp (se_str (b := Str.ofString "")) (se_var (i := 1) (d := law_letters_here_) rfl r_law_letters_here_)) (se_var (i := 5) (d := z6) rfl r_law_form_))) hm q
theorem ok_read_number_ (T : Txt K mg) : FnOk P w K mg base CX0 1 T.a_read_number_ T.d_read_number_ ["word"] (Sp1 K (RV K) Mir.read_number_) := by
  refine T.F_read_number_.ok sc_read_number_ (Sp1.len rfl) (fun cdv A outer s He vs Q E hr h => ?_)
  obtain ⟨Ge, w_word_, word_, r, rfl, hs, r_word_, hm, q⟩ := h
  have e : Ext Ge He Ge He := Ext.refl hs
  have r2_word_ : w_word_ = V.str word_ := r_word_
  subst r2_word_
  clear r_word_
  unfold Mir.read_number_ at hm
  refine ⟨_, (pss_cons (ps_if (PW.pt (pw_or (pt_cmpR op_eq (pv 0) pe_str (nomark _)) (pw_or (pt_cmpR op_gt (pe_callB call_len_str (by rfl) T.n_len (by decide +kernel) (pa_cons (pv 0) pa_nil)) (pe_glob (v := V.int (9)) rfl T.c_MOST_FIGURES_ ⟨_, rfl⟩) (nomark _)) (pw_or1 (PW.pt (pw_and (pt_cmpR op_eq (pe_ix ix_str (pv 0) pe_int (fun _ _ => rfl)) pe_str (nomark _)) (pw_and1 (pt_cmpR op_gt (pe_callB call_len_str (by rfl) T.n_len (by decide +kernel) (pa_cons (pv 0) pa_nil)) pe_int (nomark _))))))))) (pss_one ps_never) pss_nil) (pss_cons (ps_for PassesOwn.never rfl (pi_str (pv 0)) (pg_name (i := 1) sc_read_number_.nd rfl (Or.inl rfl)) (pss_one (ps_if (pt_cmpR op_notIn_str2 (pv 1) (pe_glob (v := V.str Mir.c_FIGURES_) rfl T.c_FIGURES_ ⟨_, rfl⟩) (by rfl)) (pss_one ps_never) pss_nil))) (pss_one (ps_ret (pe_callTy call_int_str (by rfl) T.n_int (by decide +kernel) (pa_cons (pv 0) pa_nil)))))), ?_⟩
  try dsimp only
  refine st_seq ?_
  refine st_if e.s (st_or (st_test (K := K) (se_eqp (se_sv (i := 0) (d := word_) rfl) (se_str (b := Str.ofString "")))) (st_or (st_test (K := K) (se_gt (se_lenSp (se_sv (i := 0) (d := word_) rfl)) (se_int (n := 9)))) (st_and (st_test (K := K) (se_eq (se_ixSp (se_sv (i := 0) (d := word_) rfl) (se_int (n := 0))) (se_str (b := Str.ofString "0")))) (st_test (K := K) (se_gt (se_lenSp (se_sv (i := 0) (d := word_) rfl)) (se_int (n := 1))))))) hm (fun G1 H1 ce hm => ?_) (fun G1 H1 ce hm => ?_)
  · replace e := e.trans ce
    try dsimp only
    cases hm
  · replace e := e.trans ce
    refine st_next ?_
    try dsimp only
    refine st_seq ?_
    refine st_for (K := K) e.s (IB.ie (ib_str (se_sv (i := 0) (d := word_) rfl))) hm (fun xs J Gs1 Hs1 ce it hm => ?_)
    replace e := e.trans ce
    have sg1 : Same Gs1 Gs1 := Same.refl _
    obtain ⟨z1, hw, hm⟩ := bind_some hm
    refine lg_N (K := K) (fun (s1 : Unit) σ G H => ∃ (j1 : Option V), σ = [some (V.str word_), j1] ∧ Ext Ge He G H ∧ Same Gs1 G) it hw ⟨_, rfl, e, sg1⟩ (fun s1 σ G H h => ?_) (fun s1 i1 f w1 σ G H G1 H1 N hx h ce hv hm hN => ?_) (fun σ G H h => ?_)
    · obtain ⟨j1, es, e, sg1⟩ := h
      subst es
      exact ⟨sg1, e.s⟩
    · clear hw it
      obtain ⟨j1, es, e, sg1⟩ := h
      subst es
      replace e := e.trans ce
      replace sg1 := sg1.trans ce.g
      refine g_name ?_
      have hv2 : w1 = V.str i1 := hv
      subst hv2
      clear hv
      try dsimp only
      refine st_if e.s (st_test (K := K) (se_notInSp (se_sv (i := 1) (d := i1) rfl) (se_str (b := Mir.c_FIGURES_)))) hm (fun G1 H1 ce hm => ?_) (fun G1 H1 ce hm => ?_)
      · replace e := e.trans ce
        replace sg1 := sg1.trans ce.g
        try dsimp only
        cases hm
      · replace e := e.trans ce
        replace sg1 := sg1.trans ce.g
        refine st_next ?_
        cases hm
        exact hN _ _ _ ⟨_, rfl, e, sg1⟩
    · clear hw it
      obtain ⟨j1, es, e, sg1⟩ := h
      subst es
      clear sg1
      try dsimp only
      exact st_ret (RR := RV K) e rvm (SE.xe (se_intSp (se_sv (i := 0) (d := word_) rfl))) hm q
theorem ok_common_ (T : Txt K mg) : FnOk P w K mg base CX0 1 T.a_common_ T.d_common_ ["one", "other"] (Sp2 K (RV K) Mir.common_) := by
  refine T.F_common_.ok sc_common_ (Sp2.len rfl) (fun cdv A outer s He vs Q E hr h => ?_)
  obtain ⟨Ge, w_one_, w_other_, one_, other_, r, rfl, hs, r_one_, r_other_, hm, q⟩ := h
  have e : Ext Ge He Ge He := Ext.refl hs
  have r2_one_ : w_one_ = V.int one_ := r_one_
  subst r2_one_
  clear r_one_
  have r2_other_ : w_other_ = V.int other_ := r_other_
  subst r2_other_
  clear r_other_
  unfold Mir.common_ at hm
  refine ⟨_, (pss_cons (ps_while PassesOwn.never (pt_cmpR op_ne (pv 1) pe_int (nomark _)) (pss_one (ps_par (by rfl) sc_common_.nd (i := 0) (j := 1) rfl rfl (by decide) rfl rfl (pa_cons (pv 1) (pa_cons (pe_op op_modN (pv 0) (pv 1)) pa_nil)) (by rfl)))) (pss_one (ps_ret (pe_callB call_abs (by rfl) T.n_abs (by decide +kernel) (pa_cons (pv 0) pa_nil))))), ?_⟩
  try dsimp only
  refine st_seq ?_
  obtain ⟨z1, hw, hm⟩ := bind_some hm
  refine st_whileN (fun (s1 : Int × Int) σ G H => σ = [some (V.int s1.1), some (V.int s1.2)] ∧ Ext Ge He G H) hw ⟨rfl, e⟩ (fun s1 σ G H h => ?_) (fun s1 σ G H h => ?_) (fun s1 f σ G H G1 H1 N h ce hc hm hN => ?_) (fun σ G H G1 H1 h ce => ?_)
  · obtain ⟨es, e⟩ := h
    subst es
    exact e.s
  · obtain ⟨es, e⟩ := h
    subst es
    exact (st_test (K := K) (se_nep (se_iv (i := 1) (d := s1.2) rfl) (se_int (n := 0))))
  · clear hw
    obtain ⟨es, e⟩ := h
    subst es
    replace e := e.trans ce
    try dsimp only
    refine st_par (K := K) e.s (se_iv (i := 1) (d := s1.2) rfl) (se_modp (se_iv (i := 0) (d := s1.1) rfl) (se_iv (i := 1) (d := s1.2) rfl)) hm (fun y2 y3 w_one_ w_other_ G1 H1 ce r_one_ r_other_ hm => ?_)
    replace e := e.trans ce
    have r_one_ : w_one_ = V.int y2 := r_one_; subst r_one_
    have r_other_ : w_other_ = V.int y3 := r_other_; subst r_other_
    cases hm
    exact hN _ _ _ ⟨rfl, e⟩
  · obtain ⟨es, e⟩ := h
    subst es
    replace e := e.trans ce
    try dsimp only
    exact st_ret (RR := RV K) e rvm (SE.xe (se_absp (se_iv (i := 0) (d := z1.1) rfl))) hm q
theorem ok_fraction_ (T : Txt K mg) : FnOk P w K mg base CX0 2 T.a_fraction_ T.d_fraction_ ["top", "bottom"] (Sp2 K (RV K) Mir.fraction_) := by
  refine T.F_fraction_.ok sc_fraction_ (Sp2.len rfl) (fun cdv A outer s He vs Q E hr h => ?_)
  obtain ⟨Ge, w_top_, w_bottom_, top_, bottom_, r, rfl, hs, r_top_, r_bottom_, hm, q⟩ := h
  have e : Ext Ge He Ge He := Ext.refl hs
  have r2_top_ : w_top_ = V.int top_ := r_top_
  subst r2_top_
  clear r_top_
  have r2_bottom_ : w_bottom_ = V.int bottom_ := r_bottom_
  subst r2_bottom_
  clear r_bottom_
  unfold Mir.fraction_ at hm
  refine ⟨_, (pss_cons (ps_set (i := 2) sc_fraction_.nd rfl (Or.inl rfl) (pe_call (ok_common_ T) (hr.mono (by decide)) (by rfl) T.g_common_ T.F_common_.kp (bind_common_ T) .nil pass0 (pa_cons (pv 0) (pa_cons (pv 1) pa_nil)))) (pss_cons (ps_if (pt_cmpR op_lt (pv 1) pe_int (nomark _)) (pss_one (ps_set (i := 2) sc_fraction_.nd rfl (Or.inl rfl) (pe_un un_neg (pv 2)))) pss_nil) (pss_one (ps_ret (pe_tup (pa_cons (pe_op op_divZ (pv 0) (pv 2)) (pa_cons (pe_op op_divZ (pv 1) (pv 2)) pa_nil))))))), ?_⟩
  try dsimp only
  refine st_seq ?_
  refine st_set (K := K) e.s (XE.se (xe_call2p rvm (se_iv (i := 0) (d := top_) rfl) (se_iv (i := 1) (d := bottom_) rfl))) hm (fun part_ w_part_ G1 H1 ce r_part_ hm => ?_)
  replace e := e.trans ce
  have r_part_ : w_part_ = V.int part_ := r_part_; subst r_part_
  try dsimp only
  refine st_seq ?_
  obtain ⟨s1, hA, hm⟩ := bind_some hm
  refine st_join (fun σ H => ∃ G, σ = [some (V.int top_), some (V.int bottom_), some (V.int s1)] ∧ Ext Ge He G H) (fun σ H h => ?_) (fun N hN => ?_)
  · obtain ⟨G, es, e⟩ := h
    subst es
    try dsimp only
    exact st_ret (RR := RV K) e rvm (SE.xe (se_tup2 (se_divp (se_iv (i := 0) (d := top_) rfl) (se_iv (i := 2) (d := s1) rfl)) (se_divp (se_iv (i := 1) (d := bottom_) rfl) (se_iv (i := 2) (d := s1) rfl)))) hm q
  · clear hm
    refine st_if e.s (st_test (K := K) (se_ltp (se_iv (i := 1) (d := bottom_) rfl) (se_int (n := 0)))) hA (fun G1 H1 ce hm => ?_) (fun G1 H1 ce hm => ?_)
    · replace e := e.trans ce
      try dsimp only
      refine st_set (K := K) e.s (se_negp (se_iv (i := 2) (d := part_) rfl)) hm (fun part_ w_part_ G1 H1 ce r_part_ hm => ?_)
      replace e := e.trans ce
      have r_part_ : w_part_ = V.int part_ := r_part_; subst r_part_
      cases hm
      exact hN _ _ ⟨_, rfl, e⟩
    · replace e := e.trans ce
      refine st_next ?_
      cases hm
      exact hN _ _ ⟨_, rfl, e⟩
theorem ok_read_fraction_ (T : Txt K mg) : FnOk P w K mg base CX0 3 T.a_read_fraction_ T.d_read_fraction_ ["word"] (Sp1 K (RV K) Mir.read_fraction_) := by
  refine T.F_read_fraction_.ok sc_read_fraction_ (Sp1.len rfl) (fun cdv A outer s He vs Q E hr h => ?_)
  obtain ⟨Ge, w_word_, word_, r, rfl, hs, r_word_, hm, q⟩ := h
  have e : Ext Ge He Ge He := Ext.refl hs
  have r2_word_ : w_word_ = V.str word_ := r_word_
  subst r2_word_
  clear r_word_
  unfold Mir.read_fraction_ at hm
  refine ⟨_, (pss_cons (ps_asg (pe_partition (pv 0) pe_str) (pg_tup rfl (pgs_cons (pg_name (i := 1) sc_read_fraction_.nd rfl (Or.inl rfl)) (pgs_cons (pg_name (i := 2) sc_read_fraction_.nd rfl (Or.inl rfl)) (pgs_cons (pg_name (i := 3) sc_read_fraction_.nd rfl (Or.inl rfl)) pgs_nil))))) (pss_cons (ps_if (pt_cmpR op_eq (pv 2) pe_str (nomark _)) (pss_one (ps_ret (pe_tup (pa_cons (pe_call (ok_read_number_ T) (hr.mono (by decide)) (by rfl) T.g_read_number_ T.F_read_number_.kp (bind_read_number_ T) .nil pass0 (pa_cons (pv 1) pa_nil)) (pa_cons pe_int pa_nil))))) pss_nil) (pss_cons (ps_if (pt_cmpR op_eq (pv 3) pe_str (nomark _)) (pss_one ps_never) pss_nil) (pss_one (ps_ret (pe_call (ok_fraction_ T) (hr.mono (by decide)) (by rfl) T.g_fraction_ T.F_fraction_.kp (bind_fraction_ T) .nil pass0 (pa_cons (pe_call (ok_read_number_ T) (hr.mono (by decide)) (by rfl) T.g_read_number_ T.F_read_number_.kp (bind_read_number_ T) .nil pass0 (pa_cons (pv 1) pa_nil)) (pa_cons (pe_call (ok_read_number_ T) (hr.mono (by decide)) (by rfl) T.g_read_number_ T.F_read_number_.kp (bind_read_number_ T) .nil pass0 (pa_cons (pv 3) pa_nil)) pa_nil)))))))), ?_⟩
  try dsimp only
  refine st_seq ?_
  refine st_un3 (K := K) e.s (se_partp (se_sv (i := 0) (d := word_) rfl) (se_str (b := Str.ofString "/"))) hm (fun t1 w_top_ w_stroke_ w_bottom_ G1 H1 ce r_top_ r_stroke_ r_bottom_ hm => ?_)
  replace e := e.trans ce
  have r_top_ : w_top_ = V.str t1.a := r_top_; subst r_top_
  have r_stroke_ : w_stroke_ = V.str t1.b := r_stroke_; subst r_stroke_
  have r_bottom_ : w_bottom_ = V.str t1.c := r_bottom_; subst r_bottom_
  try dsimp only
  refine st_seq ?_
  refine st_if e.s (st_test (K := K) (se_eqp (se_sv (i := 2) (d := t1.b) rfl) (se_str (b := Str.ofString "")))) hm (fun G1 H1 ce hm => ?_) (fun G1 H1 ce hm => ?_)
  · replace e := e.trans ce
    try dsimp only
    exact st_ret (RR := RV K) e rvm (SE.xe (se_tup2 (XE.se (xe_call1p rvm (se_sv (i := 1) (d := t1.a) rfl))) (se_int (n := 1)))) hm q
  · replace e := e.trans ce
    refine st_next ?_
    try dsimp only
    refine st_seq ?_
    refine st_if e.s (st_test (K := K) (se_eqp (se_sv (i := 3) (d := t1.c) rfl) (se_str (b := Str.ofString "0")))) hm (fun G1 H1 ce hm => ?_) (fun G1 H1 ce hm => ?_)
    · replace e := e.trans ce
      try dsimp only
      cases hm
    · replace e := e.trans ce
      refine st_next ?_
      try dsimp only
      exact st_ret (RR := RV K) e rvm (SE.xe (XE.se (xe_call2 rvm (XE.se (xe_call1p rvm (se_sv (i := 1) (d := t1.a) rfl))) (XE.se (xe_call1p rvm (se_sv (i := 3) (d := t1.c) rfl)))))) hm q
theorem ok_read_term_ (T : Txt K mg) : FnOk P w K mg base CX0 4 T.a_read_term_ T.d_read_term_ ["word"] (Sp1 K (RV K) Mir.read_term_) := by
  refine T.F_read_term_.ok sc_read_term_ (Sp1.len rfl) (fun cdv A outer s He vs Q E hr h => ?_)
  obtain ⟨Ge, w_word_, word_, r, rfl, hs, r_word_, hm, q⟩ := h
  have e : Ext Ge He Ge He := Ext.refl hs
  have r2_word_ : w_word_ = V.str word_ := r_word_
  subst r2_word_
  clear r_word_
  unfold Mir.read_term_ at hm
  refine ⟨_, (pss_cons (ps_set (i := 1) sc_read_term_.nd rfl (Or.inl rfl) (pe_split (pv 0) pe_str)) (pss_cons (ps_set (i := 2) sc_read_term_.nd rfl (Or.inl rfl) (pe_glob (v := V.ref T.b_ONE_) rfl T.c_ONE_ rfl)) (pss_cons (ps_if (pt_cmpR op_eq (pe_callB call_len_seq (by rfl) T.n_len (by decide +kernel) (pa_cons (pv 1) pa_nil)) pe_int (nomark _)) (pss_cons (ps_set (i := 2) sc_read_term_.nd rfl (Or.inl rfl) (pe_call (ok_read_fraction_ T) (hr.mono (by decide)) (by rfl) T.g_read_fraction_ T.F_read_fraction_.kp (bind_read_fraction_ T) .nil pass0 (pa_cons (pe_ix ix_list (pv 1) pe_int (fun _ _ => rfl)) pa_nil))) (pss_one (ps_set (i := 1) sc_read_term_.nd rfl (Or.inl rfl) (pe_slice sl_list (pv 1) (po_some pe_int) po_none)))) pss_nil) (pss_cons (ps_if (pt_cmpR op_ne (pe_callB call_len_seq (by rfl) T.n_len (by decide +kernel) (pa_cons (pv 1) pa_nil)) pe_int (nomark _)) (pss_one ps_never) pss_nil) (pss_cons (ps_for PassesOwn.never rfl (pi_list (pv 1)) (pg_name (i := 3) sc_read_term_.nd rfl (Or.inl rfl)) (pss_one (ps_if (PW.pt (pw_or (pt_cmpR op_ne (pe_callB call_len_str (by rfl) T.n_len (by decide +kernel) (pa_cons (pv 3) pa_nil)) pe_int (nomark _)) (pw_or1 (pt_cmpR op_notIn_str2 (pv 3) (pe_glob (v := V.str Mir.c_LETTERS_) rfl T.c_LETTERS_ ⟨_, rfl⟩) (by rfl))))) (pss_one ps_never) pss_nil))) (pss_one (ps_ret (pe_tup (pa_cons (pv 2) (pa_cons (pe_callB (cr_minS rfl) (by rfl) T.n_min (by decide +kernel) (pa_cons (pv 1) pa_nil)) (pa_cons (pe_callB (cr_maxS rfl) (by rfl) T.n_max (by decide +kernel) (pa_cons (pv 1) pa_nil)) pa_nil))))))))))), ?_⟩
  try dsimp only
  refine st_seq ?_
  refine st_set (K := K) e.s (FE.se (fe_splitp (se_sv (i := 0) (d := word_) rfl) (se_str (b := Str.ofString "*")))) hm (fun parts_ w_parts_ G1 H1 ce r_parts_ hm => ?_)
  replace e := e.trans ce
  try dsimp only
  refine st_seq ?_
  refine st_set (K := K) e.s (se_c T.k_ONE_) hm (fun number_ w_number_ G1 H1 ce r_number_ hm => ?_)
  replace e := e.trans ce
  replace r_parts_ := Rp.mono ce.g r_parts_
  try dsimp only
  refine st_seq ?_
  obtain ⟨s1, hA, hm⟩ := bind_some hm
  refine st_join (fun σ H => ∃ G, ∃ (w_parts_ : V) (w_number_ : V) (j3 : Option V), σ = [some (V.str word_), some w_parts_, some w_number_, j3] ∧ Ext Ge He G H ∧ rep K G w_parts_ s1.2 ∧ rep K G w_number_ s1.1) (fun σ H h => ?_) (fun N hN => ?_)
  · obtain ⟨G, w_parts_, w_number_, j3, es, e, r_parts_, r_number_⟩ := h
    subst es
    try dsimp only
    refine st_seq ?_
    refine st_if e.s (st_test (K := K) (se_nep (se_lenp (se_var (i := 1) (d := s1.2) rfl r_parts_)) (se_int (n := 2)))) hm (fun G1 H1 ce hm => ?_) (fun G1 H1 ce hm => ?_)
    · replace e := e.trans ce
      replace r_parts_ := Rp.mono ce.g r_parts_
      replace r_number_ := Rp.mono ce.g r_number_
      try dsimp only
      cases hm
    · replace e := e.trans ce
      replace r_parts_ := Rp.mono ce.g r_parts_
      replace r_number_ := Rp.mono ce.g r_number_
      refine st_next ?_
      try dsimp only
      refine st_seq ?_
      refine st_for (K := K) e.s (IB.ie (ib_list (se_var (i := 1) (d := s1.2) rfl r_parts_))) hm (fun xs J Gs2 Hs2 ce it hm => ?_)
      replace e := e.trans ce
      replace r_parts_ := Rp.mono ce.g r_parts_
      replace r_number_ := Rp.mono ce.g r_number_
      have sg2 : Same Gs2 Gs2 := Same.refl _
      obtain ⟨z2, hw, hm⟩ := bind_some hm
      refine lg_N (K := K) (fun (s2 : Unit) σ G H => ∃ (w_parts_ : V) (w_number_ : V) (j3 : Option V), σ = [some (V.str word_), some w_parts_, some w_number_, j3] ∧ Ext Ge He G H ∧ Same Gs2 G ∧ rep K G w_parts_ s1.2 ∧ rep K G w_number_ s1.1) it hw ⟨_, _, _, rfl, e, sg2, r_parts_, r_number_⟩ (fun s2 σ G H h => ?_) (fun s2 i2 f w2 σ G H G1 H1 N hx h ce hv hm hN => ?_) (fun σ G H h => ?_)
      · obtain ⟨w_parts_, w_number_, j3, es, e, sg2, r_parts_, r_number_⟩ := h
        subst es
        exact ⟨sg2, e.s⟩
      · clear hw it
        obtain ⟨w_parts_, w_number_, j3, es, e, sg2, r_parts_, r_number_⟩ := h
        subst es
        replace e := e.trans ce
        replace sg2 := sg2.trans ce.g
        replace r_parts_ := Rp.mono ce.g r_parts_
        replace r_number_ := Rp.mono ce.g r_number_
        refine g_name ?_
        have hv2 : w2 = V.str i2 := hv
        subst hv2
        clear hv
        try dsimp only
        refine st_if e.s (st_or (st_test (K := K) (se_ne (se_lenSp (se_sv (i := 3) (d := i2) rfl)) (se_int (n := 1)))) (st_test (K := K) (se_notInSp (se_sv (i := 3) (d := i2) rfl) (se_str (b := Mir.c_LETTERS_))))) hm (fun G1 H1 ce hm => ?_) (fun G1 H1 ce hm => ?_)
        · replace e := e.trans ce
          replace sg2 := sg2.trans ce.g
          replace r_parts_ := Rp.mono ce.g r_parts_
          replace r_number_ := Rp.mono ce.g r_number_
          try dsimp only
          cases hm
        · replace e := e.trans ce
          replace sg2 := sg2.trans ce.g
          replace r_parts_ := Rp.mono ce.g r_parts_
          replace r_number_ := Rp.mono ce.g r_number_
          refine st_next ?_
          cases hm
          exact hN _ _ _ ⟨_, _, _, rfl, e, sg2, r_parts_, r_number_⟩
      · clear hw it
        obtain ⟨w_parts_, w_number_, j3, es, e, sg2, r_parts_, r_number_⟩ := h
        subst es
        clear sg2
        try dsimp only
        exact st_ret (RR := RV K) e rvm (SE.xe (se_tup3 (se_var (i := 2) (d := s1.1) rfl r_number_) (se_minSp (se_var (i := 1) (d := s1.2) rfl r_parts_)) (se_maxSp (se_var (i := 1) (d := s1.2) rfl r_parts_)))) hm q
  · clear hm
    refine st_if e.s (st_test (K := K) (se_eqp (se_lenp (se_var (i := 1) (d := parts_) rfl r_parts_)) (se_int (n := 3)))) hA (fun G1 H1 ce hm => ?_) (fun G1 H1 ce hm => ?_)
    · replace e := e.trans ce
      replace r_parts_ := Rp.mono ce.g r_parts_
      replace r_number_ := Rp.mono ce.g r_number_
      try dsimp only
      refine st_seq ?_
      refine st_set (K := K) e.s (XE.se (xe_call1 rvm (se_ixp (se_var (i := 1) (d := parts_) rfl r_parts_) (se_int (n := 0))))) hm (fun number_ w_number_ G1 H1 ce r_number_ hm => ?_)
      replace e := e.trans ce
      replace r_parts_ := Rp.mono ce.g r_parts_
      try dsimp only
      refine st_set (K := K) e.s (FE.se (fe_slicep (se_var (i := 1) (d := parts_) rfl r_parts_) (so_somep (K := K) (se_int (n := 1))) so_none)) hm (fun parts_ w_parts_ G1 H1 ce r_parts_ hm => ?_)
      replace e := e.trans ce
      replace r_number_ := Rp.mono ce.g r_number_
      cases hm
      exact hN _ _ ⟨_, _, _, _, rfl, e, r_parts_, r_number_⟩
    · replace e := e.trans ce
      replace r_parts_ := Rp.mono ce.g r_parts_
      replace r_number_ := Rp.mono ce.g r_number_
      refine st_next ?_
      cases hm
      exact hN _ _ ⟨_, _, _, _, rfl, e, r_parts_, r_number_⟩
theorem ok_minus_ (T : Txt K mg) : FnOk P w K mg base CX0 3 T.a_minus_ T.d_minus_ ["u", "v"] (Sp2 K (RV K) Mir.minus_) := by
  refine T.F_minus_.ok sc_minus_ (Sp2.len rfl) (fun cdv A outer s He vs Q E hr h => ?_)
  obtain ⟨Ge, w_u_, w_v_, u_, v_, r, rfl, hs, r_u_, r_v_, hm, q⟩ := h
  have e : Ext Ge He Ge He := Ext.refl hs
  unfold Mir.minus_ at hm
  refine ⟨_, (pss_one (ps_ret (pe_call (ok_fraction_ T) (hr.mono (by decide)) (by rfl) T.g_fraction_ T.F_fraction_.kp (bind_fraction_ T) .nil pass0 (pa_cons (pe_op op_sub (pe_op op_mulZ (pe_ix ix_tup (pv 0) pe_int (fun _ _ => rfl)) (pe_ix ix_tup (pv 1) pe_int (fun _ _ => rfl))) (pe_op op_mulZ (pe_ix ix_tup (pv 1) pe_int (fun _ _ => rfl)) (pe_ix ix_tup (pv 0) pe_int (fun _ _ => rfl)))) (pa_cons (pe_op op_mulZ (pe_ix ix_tup (pv 0) pe_int (fun _ _ => rfl)) (pe_ix ix_tup (pv 1) pe_int (fun _ _ => rfl))) pa_nil))))), ?_⟩
  try dsimp only
  exact st_ret (RR := RV K) e rvm (SE.xe (XE.se (xe_call2 rvm (se_sub (se_mulp (se_t2_0p (se_var (i := 0) (d := u_) rfl r_u_)) (se_t2_1p (se_var (i := 1) (d := v_) rfl r_v_))) (se_mulp (se_t2_0p (se_var (i := 1) (d := v_) rfl r_v_)) (se_t2_1p (se_var (i := 0) (d := u_) rfl r_u_)))) (se_mulp (se_t2_1p (se_var (i := 0) (d := u_) rfl r_u_)) (se_t2_1p (se_var (i := 1) (d := v_) rfl r_v_)))))) hm q
theorem ok_signed_term_ (T : Txt K mg) : FnOk P w K mg base CX0 5 T.a_signed_term_ T.d_signed_term_ ["sign", "word"] (Sp2 K (RV K) Mir.signed_term_) := by
  refine T.F_signed_term_.ok sc_signed_term_ (Sp2.len rfl) (fun cdv A outer s He vs Q E hr h => ?_)
  obtain ⟨Ge, w_sign_, w_word_, sign_, word_, r, rfl, hs, r_sign_, r_word_, hm, q⟩ := h
  have e : Ext Ge He Ge He := Ext.refl hs
  have r2_sign_ : w_sign_ = V.str sign_ := r_sign_
  subst r2_sign_
  clear r_sign_
  have r2_word_ : w_word_ = V.str word_ := r_word_
  subst r2_word_
  clear r_word_
  unfold Mir.signed_term_ at hm
  refine ⟨_, (pss_cons (ps_asg (pe_call (ok_read_term_ T) (hr.mono (by decide)) (by rfl) T.g_read_term_ T.F_read_term_.kp (bind_read_term_ T) .nil pass0 (pa_cons (pv 1) pa_nil)) (pg_tup rfl (pgs_cons (pg_name (i := 2) sc_signed_term_.nd rfl (Or.inl rfl)) (pgs_cons (pg_name (i := 3) sc_signed_term_.nd rfl (Or.inl rfl)) (pgs_cons (pg_name (i := 4) sc_signed_term_.nd rfl (Or.inl rfl)) pgs_nil))))) (pss_cons (ps_if (pt_cmpR op_eq (pv 0) pe_str (nomark _)) (pss_one (ps_ret (pe_tup (pa_cons (pe_call (ok_minus_ T) (hr.mono (by decide)) (by rfl) T.g_minus_ T.F_minus_.kp (bind_minus_ T) .nil pass0 (pa_cons (pe_glob (v := V.ref T.b_NOUGHT_) rfl T.c_NOUGHT_ rfl) (pa_cons (pv 2) pa_nil))) (pa_cons (pv 3) (pa_cons (pv 4) pa_nil)))))) pss_nil) (pss_cons (ps_if (pt_cmpR op_ne (pv 0) pe_str (nomark _)) (pss_one ps_never) pss_nil) (pss_one (ps_ret (pe_tup (pa_cons (pv 2) (pa_cons (pv 3) (pa_cons (pv 4) pa_nil))))))))), ?_⟩
  try dsimp only
  refine st_seq ?_
  refine st_un3 (K := K) e.s (XE.se (xe_call1p rvm (se_sv (i := 1) (d := word_) rfl))) hm (fun t1 w_number_ w_one_ w_other_ G1 H1 ce r_number_ r_one_ r_other_ hm => ?_)
  replace e := e.trans ce
  have r_one_ : w_one_ = V.str t1.b := r_one_; subst r_one_
  have r_other_ : w_other_ = V.str t1.c := r_other_; subst r_other_
  try dsimp only
  refine st_seq ?_
  refine st_if e.s (st_test (K := K) (se_eqp (se_sv (i := 0) (d := sign_) rfl) (se_str (b := Str.ofString "-")))) hm (fun G1 H1 ce hm => ?_) (fun G1 H1 ce hm => ?_)
  · replace e := e.trans ce
    replace r_number_ := Rp.mono ce.g r_number_
    try dsimp only
    exact st_ret (RR := RV K) e rvm (SE.xe (se_tup3 (XE.se (xe_call2p rvm (se_c T.k_NOUGHT_) (se_var (i := 2) (d := t1.a) rfl r_number_))) (se_sv (i := 3) (d := t1.b) rfl) (se_sv (i := 4) (d := t1.c) rfl))) hm q
  · replace e := e.trans ce
    replace r_number_ := Rp.mono ce.g r_number_
    refine st_next ?_
    try dsimp only
    refine st_seq ?_
    refine st_if e.s (st_test (K := K) (se_nep (se_sv (i := 0) (d := sign_) rfl) (se_str (b := Str.ofString "+")))) hm (fun G1 H1 ce hm => ?_) (fun G1 H1 ce hm => ?_)
    · replace e := e.trans ce
      replace r_number_ := Rp.mono ce.g r_number_
      try dsimp only
      cases hm
    · replace e := e.trans ce
      replace r_number_ := Rp.mono ce.g r_number_
      refine st_next ?_
      try dsimp only
      exact st_ret (RR := RV K) e rvm (SE.xe (se_tup3p (se_var (i := 2) (d := t1.a) rfl r_number_) (se_sv (i := 3) (d := t1.b) rfl) (se_sv (i := 4) (d := t1.c) rfl))) hm q
theorem ok_read_terms_ (T : Txt K mg) : FnOk P w K mg base CX0 6 T.a_read_terms_ T.d_read_terms_ ["text"] (Sp1 K (RF K) Mir.read_terms_) := by
  refine T.F_read_terms_.ok sc_read_terms_ (Sp1.len rfl) (fun cdv A outer s He vs Q E hr h => ?_)
  obtain ⟨Ge, w_text_, text_, r, rfl, hs, r_text_, hm, q⟩ := h
  have e : Ext Ge He Ge He := Ext.refl hs
  have r2_text_ : w_text_ = V.str text_ := r_text_
  subst r2_text_
  clear r_text_
  unfold Mir.read_terms_ at hm
  refine ⟨_, (pss_cons (ps_set (i := 1) sc_read_terms_.nd rfl (Or.inl rfl) (pe_split (pv 0) pe_str)) (pss_cons (ps_if (pt_val (pe_m1 PySem.F.slot_str_startswith PySem.F.type_str_startswith mt_startswith (pe_ix ix_list (pv 1) pe_int (fun _ _ => rfl)) pe_str)) (pss_one (ps_set (i := 2) sc_read_terms_.nd rfl (Or.inl rfl) (pe_lst (pa_cons (pe_call (ok_signed_term_ T) (hr.mono (by decide)) (by rfl) T.g_signed_term_ T.F_signed_term_.kp (bind_signed_term_ T) .nil pass0 (pa_cons pe_str (pa_cons (pe_slice sl_str (pe_ix ix_list (pv 1) pe_int (fun _ _ => rfl)) (po_some pe_int) po_none) pa_nil))) pa_nil)))) (pss_one (ps_set (i := 2) sc_read_terms_.nd rfl (Or.inl rfl) (pe_lst (pa_cons (pe_call (ok_signed_term_ T) (hr.mono (by decide)) (by rfl) T.g_signed_term_ T.F_signed_term_.kp (bind_signed_term_ T) .nil pass0 (pa_cons pe_str (pa_cons (pe_ix ix_list (pv 1) pe_int (fun _ _ => rfl)) pa_nil))) pa_nil))))) (pss_cons (ps_if (pt_cmpR op_eq (pe_op op_mod (pe_callB call_len_seq (by rfl) T.n_len (by decide +kernel) (pa_cons (pv 1) pa_nil)) pe_int) pe_int (nomark _)) (pss_one ps_never) pss_nil) (pss_cons (ps_for PassesOwn.never rfl (pi_range3 (by rfl) T.n_range (pa_cons pe_int (pa_cons (pe_callB call_len_seq (by rfl) T.n_len (by decide +kernel) (pa_cons (pv 1) pa_nil)) (pa_cons pe_int pa_nil)))) (pg_name (i := 3) sc_read_terms_.nd rfl (Or.inl rfl)) (pss_one (ps_expr (pe_bm PySem.F.plainAttrs_list PySem.F.slot_list_append PySem.F.type_list_append mt_append (pv 2) (pa_cons (pe_call (ok_signed_term_ T) (hr.mono (by decide)) (by rfl) T.g_signed_term_ T.F_signed_term_.kp (bind_signed_term_ T) .nil pass0 (pa_cons (pe_ix ix_list (pv 1) (pv 3) (fun _ _ => rfl)) (pa_cons (pe_ix ix_list (pv 1) (pe_op op_add (pv 3) pe_int) (fun _ _ => rfl)) pa_nil))) pa_nil))))) (pss_one (ps_ret (pv 2))))))), ?_⟩
  try dsimp only
  refine st_seq ?_
  refine st_set (K := K) e.s (FE.se (fe_splitp (se_sv (i := 0) (d := text_) rfl) (se_str (b := Str.ofString " ")))) hm (fun words_ w_words_ G1 H1 ce r_words_ hm => ?_)
  replace e := e.trans ce
  try dsimp only
  refine st_seq ?_
  obtain ⟨s1, hA, hm⟩ := bind_some hm
  refine st_join (fun σ H => ∃ G, ∃ (w_words_ : V) (p_found_ : Addr) (j3 : Option V), σ = [some (V.str text_), some w_words_, some (V.ref p_found_), j3] ∧ Ext Ge He G H ∧ rep K G w_words_ words_ ∧ Own K He G H p_found_ s1) (fun σ H h => ?_) (fun N hN => ?_)
  · obtain ⟨G, w_words_, p_found_, j3, es, e, r_words_, r_found_⟩ := h
    subst es
    try dsimp only
    refine st_seq ?_
    refine st_if e.s (st_test (K := K) (se_eqp (se_modcp (se_lenp (se_var (i := 1) (d := words_) rfl r_words_)) (by decide)) (se_int (n := 0)))) hm (fun G1 H1 ce hm => ?_) (fun G1 H1 ce hm => ?_)
    · replace e := e.trans ce
      replace r_words_ := Rp.mono ce.g r_words_
      replace r_found_ := r_found_.mono ce
      try dsimp only
      cases hm
    · replace e := e.trans ce
      replace r_words_ := Rp.mono ce.g r_words_
      replace r_found_ := r_found_.mono ce
      refine st_next ?_
      try dsimp only
      refine st_seq ?_
      refine st_for (K := K) e.s (ie_range3p (c := 2) (by decide) (se_int (n := 1)) (se_lenp (se_var (i := 1) (d := words_) rfl r_words_))) hm (fun xs J Gs2 Hs2 ce it hm => ?_)
      replace e := e.trans ce
      replace r_words_ := Rp.mono ce.g r_words_
      replace r_found_ := r_found_.mono ce
      have sg2 : Same Gs2 Gs2 := Same.refl _
      obtain ⟨z2, hw, hm⟩ := bind_some hm
      refine lg_N (K := K) (fun (s2 : (List (T3 (Int × Int) Str Str))) σ G H => ∃ (w_words_ : V) (p_found_ : Addr) (j3 : Option V), σ = [some (V.str text_), some w_words_, some (V.ref p_found_), j3] ∧ Ext Ge He G H ∧ Same Gs2 G ∧ rep K G w_words_ words_ ∧ Own K He G H p_found_ s2) it hw ⟨_, _, _, rfl, e, sg2, r_words_, r_found_⟩ (fun s2 σ G H h => ?_) (fun s2 i2 f w2 σ G H G1 H1 N hx h ce hv hm hN => ?_) (fun σ G H h => ?_)
      · obtain ⟨w_words_, p_found_, j3, es, e, sg2, r_words_, r_found_⟩ := h
        subst es
        exact ⟨sg2, e.s⟩
      · clear hw it
        obtain ⟨w_words_, p_found_, j3, es, e, sg2, r_words_, r_found_⟩ := h
        subst es
        replace e := e.trans ce
        replace sg2 := sg2.trans ce.g
        replace r_words_ := Rp.mono ce.g r_words_
        replace r_found_ := r_found_.mono ce
        refine g_name ?_
        have hv2 : w2 = V.int i2 := hv
        subst hv2
        clear hv
        try dsimp only
        refine st_app (K := K) e.s rfl r_found_ (XE.se (xe_call2 rvm (se_ixp (se_var (i := 1) (d := words_) rfl r_words_) (se_iv (i := 3) (d := i2) rfl)) (se_ixp (se_var (i := 1) (d := words_) rfl r_words_) (se_addp (se_iv (i := 3) (d := i2) rfl) (se_int (n := 1)))))) hm (fun found_ h_found_ G1 H1 ce ro g0 hm => ?_)
        replace e := e.trans ce
        replace sg2 := sg2.trans ce.g
        replace r_words_ := Rp.mono ce.g r_words_
        replace e := e.put (o := h_found_) ro.z g0 (r_found_.mono ce).pn
        clear r_found_ g0
        have r_found_ := ro
        clear ro
        cases hm
        exact hN _ _ _ ⟨_, _, _, rfl, e, sg2, r_words_, r_found_⟩
      · clear hw it
        obtain ⟨w_words_, p_found_, j3, es, e, sg2, r_words_, r_found_⟩ := h
        subst es
        clear sg2
        try dsimp only
        exact st_retO (K := K) rfl e r_found_ hm q
  · clear hm
    refine st_if e.s (st_val (K := K) (se_starts (se_ixp (se_var (i := 1) (d := words_) rfl r_words_) (se_int (n := 0))) (se_str (b := Str.ofString "-")))) hA (fun G1 H1 ce hm => ?_) (fun G1 H1 ce hm => ?_)
    · replace e := e.trans ce
      replace r_words_ := Rp.mono ce.g r_words_
      try dsimp only
      refine st_setF (K := K) e.s (fe_lst (la_cons (XE.se (xe_call2 rvm (se_str (b := Str.ofString "-")) (se_cutS (se_ixp (se_var (i := 1) (d := words_) rfl r_words_) (se_int (n := 0))) (so_somep (K := K) (se_int (n := 1))) so_none))) la_nil)) hm (fun found_ p_found_ G1 H1 ce r_found_ hm => ?_)
      replace r_found_ := r_found_.up e.h
      replace e := e.trans ce
      replace r_words_ := Rp.mono ce.g r_words_
      cases hm
      exact hN _ _ ⟨_, _, _, _, rfl, e, r_words_, r_found_⟩
    · replace e := e.trans ce
      replace r_words_ := Rp.mono ce.g r_words_
      try dsimp only
      refine st_setF (K := K) e.s (fe_lst (la_cons (XE.se (xe_call2 rvm (se_str (b := Str.ofString "+")) (se_ixp (se_var (i := 1) (d := words_) rfl r_words_) (se_int (n := 0))))) la_nil)) hm (fun found_ p_found_ G1 H1 ce r_found_ hm => ?_)
      replace r_found_ := r_found_.up e.h
      replace e := e.trans ce
      replace r_words_ := Rp.mono ce.g r_words_
      cases hm
      exact hN _ _ ⟨_, _, _, _, rfl, e, r_words_, r_found_⟩
theorem ok_times_ (T : Txt K mg) : FnOk P w K mg base CX0 3 T.a_times_ T.d_times_ ["u", "v"] (Sp2 K (RV K) Mir.times_) := by
  refine T.F_times_.ok sc_times_ (Sp2.len rfl) (fun cdv A outer s He vs Q E hr h => ?_)
  obtain ⟨Ge, w_u_, w_v_, u_, v_, r, rfl, hs, r_u_, r_v_, hm, q⟩ := h
  have e : Ext Ge He Ge He := Ext.refl hs
  unfold Mir.times_ at hm
  refine ⟨_, (pss_one (ps_ret (pe_call (ok_fraction_ T) (hr.mono (by decide)) (by rfl) T.g_fraction_ T.F_fraction_.kp (bind_fraction_ T) .nil pass0 (pa_cons (pe_op op_mulZ (pe_ix ix_tup (pv 0) pe_int (fun _ _ => rfl)) (pe_ix ix_tup (pv 1) pe_int (fun _ _ => rfl))) (pa_cons (pe_op op_mulZ (pe_ix ix_tup (pv 0) pe_int (fun _ _ => rfl)) (pe_ix ix_tup (pv 1) pe_int (fun _ _ => rfl))) pa_nil))))), ?_⟩
  try dsimp only
  exact st_ret (RR := RV K) e rvm (SE.xe (XE.se (xe_call2 rvm (se_mulp (se_t2_0p (se_var (i := 0) (d := u_) rfl r_u_)) (se_t2_0p (se_var (i := 1) (d := v_) rfl r_v_))) (se_mulp (se_t2_1p (se_var (i := 0) (d := u_) rfl r_u_)) (se_t2_1p (se_var (i := 1) (d := v_) rfl r_v_)))))) hm q
theorem ok_plus_ (T : Txt K mg) : FnOk P w K mg base CX0 3 T.a_plus_ T.d_plus_ ["u", "v"] (Sp2 K (RV K) Mir.plus_) := by
  refine T.F_plus_.ok sc_plus_ (Sp2.len rfl) (fun cdv A outer s He vs Q E hr h => ?_)
  obtain ⟨Ge, w_u_, w_v_, u_, v_, r, rfl, hs, r_u_, r_v_, hm, q⟩ := h
  have e : Ext Ge He Ge He := Ext.refl hs
  unfold Mir.plus_ at hm
  refine ⟨_, (pss_one (ps_ret (pe_call (ok_fraction_ T) (hr.mono (by decide)) (by rfl) T.g_fraction_ T.F_fraction_.kp (bind_fraction_ T) .nil pass0 (pa_cons (pe_op op_add (pe_op op_mulZ (pe_ix ix_tup (pv 0) pe_int (fun _ _ => rfl)) (pe_ix ix_tup (pv 1) pe_int (fun _ _ => rfl))) (pe_op op_mulZ (pe_ix ix_tup (pv 1) pe_int (fun _ _ => rfl)) (pe_ix ix_tup (pv 0) pe_int (fun _ _ => rfl)))) (pa_cons (pe_op op_mulZ (pe_ix ix_tup (pv 0) pe_int (fun _ _ => rfl)) (pe_ix ix_tup (pv 1) pe_int (fun _ _ => rfl))) pa_nil))))), ?_⟩
  try dsimp only
  exact st_ret (RR := RV K) e rvm (SE.xe (XE.se (xe_call2 rvm (se_add (se_mulp (se_t2_0p (se_var (i := 0) (d := u_) rfl r_u_)) (se_t2_1p (se_var (i := 1) (d := v_) rfl r_v_))) (se_mulp (se_t2_0p (se_var (i := 1) (d := v_) rfl r_v_)) (se_t2_1p (se_var (i := 0) (d := u_) rfl r_u_)))) (se_mulp (se_t2_1p (se_var (i := 0) (d := u_) rfl r_u_)) (se_t2_1p (se_var (i := 1) (d := v_) rfl r_v_)))))) hm q
theorem ok_read_form_ (T : Txt K mg) : FnOk P w K mg base CX0 7 T.a_read_form_ T.d_read_form_ ["text"] (Sp1 K (RVT K) Mir.read_form_) := by
  refine T.F_read_form_.ok sc_read_form_ (Sp1.len rfl) (fun cdv A outer s He vs Q E hr h => ?_)
  obtain ⟨Ge, w_text_, text_, r, rfl, hs, r_text_, hm, q⟩ := h
  have e : Ext Ge He Ge He := Ext.refl hs
  have r2_text_ : w_text_ = V.str text_ := r_text_
  subst r2_text_
  clear r_text_
  unfold Mir.read_form_ at hm
  have st0 : ∀ a0, L2.start N_read_form_ [a0] = [some a0, none, none, none, none, none, none, none, none, none, none, none] := fun _ => rfl
  refine ⟨_, (pss_cons (ps_set (i := 1) sc_read_form_.nd rfl (Or.inl rfl) (pe_call (ok_read_terms_ T) (hr.mono (by decide)) (by rfl) T.g_read_terms_ T.F_read_terms_.kp (bind_read_terms_ T) .nil pass0 (pa_cons (pv 0) pa_nil))) (pss_cons (ps_set (i := 2) sc_read_form_.nd rfl (Or.inr rfl) pe_str) (pss_cons (ps_for PassesOwn.never rfl (pi_str (pe_glob (v := V.str Mir.c_LETTERS_) rfl T.c_LETTERS_ ⟨_, rfl⟩)) (pg_name (i := 3) sc_read_form_.nd rfl (Or.inr rfl)) (pss_one (ps_if (pt_cmpR (op_neD hr.units) (pe_lc (own := [("term", 11)]) (by rfl) sc_read_form_.nd (pi_list (pv 1)) (blkOk_by (own := [("term", 11)]) (N := N_read_form_) (sc := defScope s_read_form_) (by decide +kernel)) (fun _ _ _ _ _ => pg_name (i := 11) sc_read_form_.nd rfl (Or.inl rfl)) (fun _ _ _ _ _ => pts_one (pt_cmpR (op_in_seqK (K := K) rfl) (pv 3) (pe_slice (sl_tupAK (K := K) rfl) (pv 11) (po_some pe_int) po_none) (by rfl))) (fun _ _ _ _ _ => (pv 11))) (pe_lst pa_nil) (nomark _)) (pss_one (ps_set (i := 2) sc_read_form_.nd rfl (Or.inr rfl) (pe_op op_add_str (pv 2) (pv 3)))) pss_nil))) (pss_cons (ps_if (pt_cmpR op_gt (pe_callB call_len_str (by rfl) T.n_len (by decide +kernel) (pa_cons (pv 2) pa_nil)) (pe_glob (v := V.int (8)) rfl T.c_MOST_UNKNOWNS_ ⟨_, rfl⟩) (nomark _)) (pss_one ps_never) pss_nil) (pss_cons (ps_setLc (i := 5) (own := [("other", 4)]) rfl sc_read_form_.nd rfl rfl (sw_true rfl rfl rfl (by decide +kernel)) (pi_str (pv 2)) (blkOk_by (own := [("other", 4)]) (N := N_read_form_) (sc := defScope s_read_form_) (by decide +kernel)) (fun _ _ _ _ _ => pg_name (i := 4) sc_read_form_.nd rfl (Or.inl rfl)) (fun _ _ _ _ _ => pts_nil) (fun _ _ _ _ _ => (pe_lc (own := [("letter", 3)]) (by rfl) sc_read_form_.nd (pi_str (pv 2)) (blkOk_by (own := [("letter", 3)]) (N := N_read_form_) (sc := relS _ (defScope s_read_form_)) (by decide +kernel)) (fun _ _ _ _ _ => pg_name (i := 3) sc_read_form_.nd rfl (Or.inl rfl)) (fun _ _ _ _ _ => pts_nil) (fun _ _ _ _ _ => (pe_glob (v := V.ref T.b_NOUGHT_) rfl T.c_NOUGHT_ rfl))))) (pss_cons (ps_for PassesOwn.never rfl (pi_list (pv 1)) (pg_tup rfl (pgs_cons (pg_name (i := 6) sc_read_form_.nd rfl (Or.inl rfl)) (pgs_cons (pg_name (i := 7) sc_read_form_.nd rfl (Or.inl rfl)) (pgs_cons (pg_name (i := 4) sc_read_form_.nd rfl (Or.inl rfl)) pgs_nil)))) (pss_cons (ps_set (i := 8) sc_read_form_.nd rfl (Or.inl rfl) (pe_m1 PySem.F.slot_str_index PySem.F.type_str_index mt_indexF (pv 2) (pv 7))) (pss_cons (ps_set (i := 9) sc_read_form_.nd rfl (Or.inl rfl) (pe_m1 PySem.F.slot_str_index PySem.F.type_str_index mt_indexF (pv 2) (pv 4))) (pss_cons (ps_set (i := 10) sc_read_form_.nd rfl (Or.inl rfl) (pv 6)) (pss_cons (ps_if (pt_cmpR op_ne (pv 8) (pv 9) (nomark _)) (pss_cons (ps_set (i := 10) sc_read_form_.nd rfl (Or.inl rfl) (pe_call (ok_times_ T) (hr.mono (by decide)) (by rfl) T.g_times_ T.F_times_.kp (bind_times_ T) .nil pass0 (pa_cons (pe_glob (v := V.ref T.b_HALF_) rfl T.c_HALF_ rfl) (pa_cons (pv 6) pa_nil)))) (pss_one (ps_asg (pe_call (ok_plus_ T) (hr.mono (by decide)) (by rfl) T.g_plus_ T.F_plus_.kp (bind_plus_ T) .nil pass0 (pa_cons (pe_ix ix_list (pe_ix ix_list (pv 5) (pv 9) (fun _ _ => rfl)) (pv 8) (fun _ _ => rfl)) (pa_cons (pv 10) pa_nil))) (pg_sub (pe_ix ix_list (pv 5) (pv 9) (fun _ _ => rfl)) (pv 8) set_list)))) pss_nil) (pss_one (ps_asg (pe_call (ok_plus_ T) (hr.mono (by decide)) (by rfl) T.g_plus_ T.F_plus_.kp (bind_plus_ T) .nil pass0 (pa_cons (pe_ix ix_list (pe_ix ix_list (pv 5) (pv 8) (fun _ _ => rfl)) (pv 9) (fun _ _ => rfl)) (pa_cons (pv 10) pa_nil))) (pg_sub (pe_ix ix_list (pv 5) (pv 8) (fun _ _ => rfl)) (pv 9) set_list)))))))) (pss_one (ps_ret (pe_tup (pa_cons (pv 2) (pa_cons (pv 5) pa_nil))))))))))), ?_⟩
  try dsimp only
  try simp only [st0, List.set_cons_zero, List.set_cons_succ]
  refine st_seq ?_
  refine st_set (K := K) e.s (FE.se (XE.fe (xe_call1p rfm (se_sv (i := 0) (d := text_) rfl)))) hm (fun terms_ w_terms_ G1 H1 ce r_terms_ hm => ?_)
  replace e := e.trans ce
  try dsimp only
  try simp only [st0, List.set_cons_zero, List.set_cons_succ]
  refine st_seq ?_
  refine st_set (K := K) e.s (se_str (b := Str.ofString "")) hm (fun letters_ w_letters_ G1 H1 ce r_letters_ hm => ?_)
  replace e := e.trans ce
  replace r_terms_ := Rp.mono ce.g r_terms_
  have r_letters_ : w_letters_ = V.str letters_ := r_letters_; subst r_letters_
  try dsimp only
  try simp only [st0, List.set_cons_zero, List.set_cons_succ]
  refine st_seq ?_
  refine st_for (K := K) e.s (IB.ie (ib_str (se_str (b := Mir.c_LETTERS_)))) hm (fun xs J Gs1 Hs1 ce it hm => ?_)
  replace e := e.trans ce
  replace r_terms_ := Rp.mono ce.g r_terms_
  have sg1 : Same Gs1 Gs1 := Same.refl _
  obtain ⟨z1, hw, hm⟩ := bind_some hm
  refine lg_N (K := K) (fun (s1 : Str) σ G H => ∃ (w_terms_ : V) (j3 : Option V) (j4 : Option V) (j5 : Option V) (j6 : Option V) (j7 : Option V) (j8 : Option V) (j9 : Option V) (j10 : Option V) (j11 : Option V), σ = [some (V.str text_), some w_terms_, some (V.str s1), j3, j4, j5, j6, j7, j8, j9, j10, j11] ∧ Ext Ge He G H ∧ Same Gs1 G ∧ rep K G w_terms_ terms_) it hw ⟨_, _, _, _, _, _, _, _, _, _, rfl, e, sg1, r_terms_⟩ (fun s1 σ G H h => ?_) (fun s1 i1 f w1 σ G H G1 H1 N hx h ce hv hm hN => ?_) (fun σ G H h => ?_)
  · obtain ⟨w_terms_, j3, j4, j5, j6, j7, j8, j9, j10, j11, es, e, sg1, r_terms_⟩ := h
    subst es
    exact ⟨sg1, e.s⟩
  · clear hw it
    obtain ⟨w_terms_, j3, j4, j5, j6, j7, j8, j9, j10, j11, es, e, sg1, r_terms_⟩ := h
    subst es
    replace e := e.trans ce
    replace sg1 := sg1.trans ce.g
    replace r_terms_ := Rp.mono ce.g r_terms_
    refine g_name ?_
    have hv2 : w1 = V.str i1 := hv
    subst hv2
    clear hv
    try dsimp only
    try simp only [st0, List.set_cons_zero, List.set_cons_succ]
    refine st_if e.s (st_test (K := K) (se_neQ (FE.se (fe_lc _ (ib_list (se_var (i := 1) (d := terms_) rfl r_terms_)) tg_name (fun term_ s2 G2 H2 ce2 ⟨w2, es2, h2⟩ => by subst es2; exact (st_test (K := K) (se_inP2p (se_sv (i := 3) (d := i1) rfl) (se_tsl3p (se_var (i := 11) (d := term_) rfl h2))))) (fun term_ s2 G2 H2 ce2 ⟨w2, es2, h2⟩ => by subst es2; exact (se_var (i := 11) (d := term_) rfl h2)))) (FE.se (fe_lst la_nil)))) hm (fun G1 H1 ce hm => ?_) (fun G1 H1 ce hm => ?_)
    · replace e := e.trans ce
      replace sg1 := sg1.trans ce.g
      replace r_terms_ := Rp.mono ce.g r_terms_
      try dsimp only
      try simp only [st0, List.set_cons_zero, List.set_cons_succ]
      refine st_set (K := K) e.s (se_catSp (se_sv (i := 2) (d := s1) rfl) (se_sv (i := 3) (d := i1) rfl)) hm (fun letters_ w_letters_ G1 H1 ce r_letters_ hm => ?_)
      replace e := e.trans ce
      replace sg1 := sg1.trans ce.g
      replace r_terms_ := Rp.mono ce.g r_terms_
      have r_letters_ : w_letters_ = V.str letters_ := r_letters_; subst r_letters_
      cases hm
      exact hN _ _ _ ⟨_, _, _, _, _, _, _, _, _, _, rfl, e, sg1, r_terms_⟩
    · replace e := e.trans ce
      replace sg1 := sg1.trans ce.g
      replace r_terms_ := Rp.mono ce.g r_terms_
      refine st_next ?_
      cases hm
      exact hN _ _ _ ⟨_, _, _, _, _, _, _, _, _, _, rfl, e, sg1, r_terms_⟩
  · clear hw it
    obtain ⟨w_terms_, j3, j4, j5, j6, j7, j8, j9, j10, j11, es, e, sg1, r_terms_⟩ := h
    subst es
    clear sg1
    try dsimp only
    try simp only [st0, List.set_cons_zero, List.set_cons_succ]
    refine st_seq ?_
    refine st_if e.s (st_test (K := K) (se_gt (se_lenSp (se_sv (i := 2) (d := z1) rfl)) (se_int (n := 8)))) hm (fun G1 H1 ce hm => ?_) (fun G1 H1 ce hm => ?_)
    · replace e := e.trans ce
      replace r_terms_ := Rp.mono ce.g r_terms_
      try dsimp only
      try simp only [st0, List.set_cons_zero, List.set_cons_succ]
      cases hm
    · replace e := e.trans ce
      replace r_terms_ := Rp.mono ce.g r_terms_
      refine st_next ?_
      try dsimp only
      try simp only [st0, List.set_cons_zero, List.set_cons_succ]
      refine st_seq ?_
      refine st_setF2 (K := K) e.s (fe2_map _ (ib_str (se_sv (i := 2) (d := z1) rfl)) tg_name (fun other_ s3 G3 H3 ce3 ⟨w3, es3, h3⟩ => by subst es3; have h3 : w3 = V.str other_ := h3; subst h3; exact (fe_map _ (ib_str (se_sv (i := 2) (d := z1) rfl)) tg_name (fun letter_ s4 G4 H4 ce4 ⟨w4, es4, h4⟩ => by subst es4; have h4 : w4 = V.str letter_ := h4; subst h4; exact (se_c T.k_NOUGHT_))))) hm (fun form_ p_form_ qs_form_ G1 H1 ce r_form_ hm => ?_)
      replace r_form_ := r_form_.up e.h
      replace e := e.trans ce
      replace r_terms_ := Rp.mono ce.g r_terms_
      try dsimp only
      try simp only [st0, List.set_cons_zero, List.set_cons_succ]
      refine st_seq ?_
      refine st_for (K := K) e.s (IB.ie (ib_list (se_var (i := 1) (d := terms_) rfl r_terms_))) hm (fun xs J Gs5 Hs5 ce it hm => ?_)
      replace e := e.trans ce
      replace r_terms_ := Rp.mono ce.g r_terms_
      replace r_form_ := r_form_.mono ce
      have sg5 : Same Gs5 Gs5 := Same.refl _
      obtain ⟨z5, hw, hm⟩ := bind_some hm
      refine lg_N (K := K) (fun (s5 : (List (List (Int × Int)))) σ G H => ∃ (w_terms_ : V) (j3 : Option V) (j4 : Option V) (p_form_ : Addr) (qs_form_ : List Nat) (j6 : Option V) (j7 : Option V) (j8 : Option V) (j9 : Option V) (j10 : Option V) (j11 : Option V), σ = [some (V.str text_), some w_terms_, some (V.str z1), j3, j4, some (V.ref p_form_), j6, j7, j8, j9, j10, j11] ∧ Ext Ge He G H ∧ Same Gs5 G ∧ rep K G w_terms_ terms_ ∧ Own2 K He G H p_form_ qs_form_ s5) it hw ⟨_, _, _, _, _, _, _, _, _, _, _, rfl, e, sg5, r_terms_, r_form_⟩ (fun s5 σ G H h => ?_) (fun s5 i5 f w5 σ G H G1 H1 N hx h ce hv hm hN => ?_) (fun σ G H h => ?_)
      · obtain ⟨w_terms_, j3, j4, p_form_, qs_form_, j6, j7, j8, j9, j10, j11, es, e, sg5, r_terms_, r_form_⟩ := h
        subst es
        exact ⟨sg5, e.s⟩
      · clear hw it
        obtain ⟨w_terms_, j3, j4, p_form_, qs_form_, j6, j7, j8, j9, j10, j11, es, e, sg5, r_terms_, r_form_⟩ := h
        subst es
        replace e := e.trans ce
        replace sg5 := sg5.trans ce.g
        replace r_terms_ := Rp.mono ce.g r_terms_
        replace r_form_ := r_form_.mono ce
        refine g_three (K := K) e.s hv (fun w_number_ w_one_ w_other_ r_number_ r_one_ r_other_ => ?_)
        clear hv
        have r_one_ : w_one_ = V.str i5.b := r_one_; subst r_one_
        have r_other_ : w_other_ = V.str i5.c := r_other_; subst r_other_
        try dsimp only
        try simp only [st0, List.set_cons_zero, List.set_cons_succ]
        refine st_seq ?_
        refine st_set (K := K) e.s (se_idxSp (se_sv (i := 2) (d := z1) rfl) (se_sv (i := 7) (d := i5.b) rfl)) hm (fun i_ w_i_ G1 H1 ce r_i_ hm => ?_)
        replace e := e.trans ce
        replace sg5 := sg5.trans ce.g
        replace r_terms_ := Rp.mono ce.g r_terms_
        replace r_form_ := r_form_.mono ce
        replace r_number_ := Rp.mono ce.g r_number_
        have r_i_ : w_i_ = V.int i_ := r_i_; subst r_i_
        try dsimp only
        try simp only [st0, List.set_cons_zero, List.set_cons_succ]
        refine st_seq ?_
        refine st_set (K := K) e.s (se_idxSp (se_sv (i := 2) (d := z1) rfl) (se_sv (i := 4) (d := i5.c) rfl)) hm (fun j_ w_j_ G1 H1 ce r_j_ hm => ?_)
        replace e := e.trans ce
        replace sg5 := sg5.trans ce.g
        replace r_terms_ := Rp.mono ce.g r_terms_
        replace r_form_ := r_form_.mono ce
        replace r_number_ := Rp.mono ce.g r_number_
        have r_j_ : w_j_ = V.int j_ := r_j_; subst r_j_
        try dsimp only
        try simp only [st0, List.set_cons_zero, List.set_cons_succ]
        refine st_seq ?_
        refine st_set (K := K) e.s (se_var (i := 6) (d := i5.a) rfl r_number_) hm (fun half_ w_half_ G1 H1 ce r_half_ hm => ?_)
        replace e := e.trans ce
        replace sg5 := sg5.trans ce.g
        replace r_terms_ := Rp.mono ce.g r_terms_
        replace r_form_ := r_form_.mono ce
        replace r_number_ := Rp.mono ce.g r_number_
        try dsimp only
        try simp only [st0, List.set_cons_zero, List.set_cons_succ]
        refine st_seq ?_
        obtain ⟨s6, hA, hm⟩ := bind_some hm
        refine st_join (fun σ H => ∃ G, ∃ (w_terms_ : V) (j3 : Option V) (p_form_ : Addr) (qs_form_ : List Nat) (w_number_ : V) (w_half_ : V) (j11 : Option V), σ = [some (V.str text_), some w_terms_, some (V.str z1), j3, some (V.str i5.c), some (V.ref p_form_), some w_number_, some (V.str i5.b), some (V.int i_), some (V.int j_), some w_half_, j11] ∧ Ext Ge He G H ∧ Same Gs5 G ∧ rep K G w_terms_ terms_ ∧ Own2 K He G H p_form_ qs_form_ s6.2 ∧ rep K G w_number_ i5.a ∧ rep K G w_half_ s6.1) (fun σ H h => ?_) (fun N hN => ?_)
        · obtain ⟨G, w_terms_, j3, p_form_, qs_form_, w_number_, w_half_, j11, es, e, sg5, r_terms_, r_form_, r_number_, r_half_⟩ := h
          subst es
          try dsimp only
          try simp only [st0, List.set_cons_zero, List.set_cons_succ]
          refine st_put2 (K := K) e.s rfl r_form_ (XE.se (xe_call2 rvm (se_own2_ix (i := 5) rfl r_form_ (se_iv (i := 8) (d := i_) rfl) (se_iv (i := 9) (d := j_) rfl)) (se_var (i := 10) (d := s6.1) rfl r_half_))) (se_iv (i := 8) (d := i_) rfl) (se_iv (i := 9) (d := j_) rfl) hm (fun form_ q_form_ h_form_ G1 H1 ce ro rb hq hm => ?_)
          replace e := e.trans ce
          replace sg5 := sg5.trans ce.g
          replace r_terms_ := Rp.mono ce.g r_terms_
          replace r_number_ := Rp.mono ce.g r_number_
          replace r_half_ := Rp.mono ce.g r_half_
          replace e := e.put (o := h_form_) (rb.zs _ hq) (rb.gs _ hq) (rb.pn _ hq)
          clear r_form_ rb hq
          have r_form_ := ro
          clear ro
          cases hm
          exact hN _ _ _ ⟨_, _, _, _, _, _, _, _, _, _, _, rfl, e, sg5, r_terms_, r_form_⟩
        · clear hm
          refine st_if e.s (st_test (K := K) (se_nep (se_iv (i := 8) (d := i_) rfl) (se_iv (i := 9) (d := j_) rfl))) hA (fun G1 H1 ce hm => ?_) (fun G1 H1 ce hm => ?_)
          · replace e := e.trans ce
            replace sg5 := sg5.trans ce.g
            replace r_terms_ := Rp.mono ce.g r_terms_
            replace r_form_ := r_form_.mono ce
            replace r_number_ := Rp.mono ce.g r_number_
            replace r_half_ := Rp.mono ce.g r_half_
            try dsimp only
            try simp only [st0, List.set_cons_zero, List.set_cons_succ]
            refine st_seq ?_
            refine st_set (K := K) e.s (XE.se (xe_call2p rvm (se_c T.k_HALF_) (se_var (i := 6) (d := i5.a) rfl r_number_))) hm (fun half_ w_half_ G1 H1 ce r_half_ hm => ?_)
            replace e := e.trans ce
            replace sg5 := sg5.trans ce.g
            replace r_terms_ := Rp.mono ce.g r_terms_
            replace r_form_ := r_form_.mono ce
            replace r_number_ := Rp.mono ce.g r_number_
            try dsimp only
            try simp only [st0, List.set_cons_zero, List.set_cons_succ]
            refine st_put2 (K := K) e.s rfl r_form_ (XE.se (xe_call2 rvm (se_own2_ix (i := 5) rfl r_form_ (se_iv (i := 9) (d := j_) rfl) (se_iv (i := 8) (d := i_) rfl)) (se_var (i := 10) (d := half_) rfl r_half_))) (se_iv (i := 9) (d := j_) rfl) (se_iv (i := 8) (d := i_) rfl) hm (fun form_ q_form_ h_form_ G1 H1 ce ro rb hq hm => ?_)
            replace e := e.trans ce
            replace sg5 := sg5.trans ce.g
            replace r_terms_ := Rp.mono ce.g r_terms_
            replace r_number_ := Rp.mono ce.g r_number_
            replace r_half_ := Rp.mono ce.g r_half_
            replace e := e.put (o := h_form_) (rb.zs _ hq) (rb.gs _ hq) (rb.pn _ hq)
            clear r_form_ rb hq
            have r_form_ := ro
            clear ro
            cases hm
            exact hN _ _ ⟨_, _, _, _, _, _, _, _, rfl, e, sg5, r_terms_, r_form_, r_number_, r_half_⟩
          · replace e := e.trans ce
            replace sg5 := sg5.trans ce.g
            replace r_terms_ := Rp.mono ce.g r_terms_
            replace r_form_ := r_form_.mono ce
            replace r_number_ := Rp.mono ce.g r_number_
            replace r_half_ := Rp.mono ce.g r_half_
            refine st_next ?_
            cases hm
            exact hN _ _ ⟨_, _, _, _, _, _, _, _, rfl, e, sg5, r_terms_, r_form_, r_number_, r_half_⟩
      · clear hw it
        obtain ⟨w_terms_, j3, j4, p_form_, qs_form_, j6, j7, j8, j9, j10, j11, es, e, sg5, r_terms_, r_form_⟩ := h
        subst es
        clear sg5
        try dsimp only
        try simp only [st0, List.set_cons_zero, List.set_cons_succ]
        exact st_retVT (K := K) rfl e r_form_ (se_sv (i := 2) (d := z1) rfl) hm q
theorem ok_law_whole_ (T : Txt K mg) : FnOk P w K mg base CX0 1 T.a_law_whole_ T.d_law_whole_ ["_law_found"] (Sp1 K (RV K) Mir.law_whole_) := by
  refine T.F_law_whole_.ok sc_law_whole_ (Sp1.len rfl) (fun cdv A outer s He vs Q E hr h => ?_)
  obtain ⟨Ge, w_law_found_, law_found_, r, rfl, hs, r_law_found_, hm, q⟩ := h
  have e : Ext Ge He Ge He := Ext.refl hs
  have r2_law_found_ : w_law_found_ = V.int law_found_ := r_law_found_
  subst r2_law_found_
  clear r_law_found_
  unfold Mir.law_whole_ at hm
  refine ⟨_, (pss_one (ps_ret (pe_and (pe_callB call_isi (by rfl) T.n_isinstance (by decide +kernel) (pa_cons (pv 0) (pa_cons (pe_bltn (v := .ty "int") (by rfl) T.n_int (by decide +kernel) rfl) pa_nil))) (pe_one (pe_not (pe_callB call_isi (by rfl) T.n_isinstance (by decide +kernel) (pa_cons (pv 0) (pa_cons (pe_bltn (v := .ty "bool") (by rfl) T.n_bool (by decide +kernel) rfl) pa_nil)))))))), ?_⟩
  try dsimp only
  exact st_ret (RR := RV K) e rvm (SE.xe (se_andp (se_isip (se_iv (i := 0) (d := law_found_) rfl) (by first | decide +kernel | rfl)) (se_notp (se_isip (se_iv (i := 0) (d := law_found_) rfl) (by first | decide +kernel | rfl))))) hm q
theorem ok_law_is_ (T : Txt K mg) : FnOk P w K mg base CX0 2 T.a_law_is_ T.d_law_is_ ["_law_found", "_law_due_here"] (Sp2 K (RV K) Mir.law_is_) := by
  refine T.F_law_is_.ok sc_law_is_ (Sp2.len rfl) (fun cdv A outer s He vs Q E hr h => ?_)
  obtain ⟨Ge, w_law_found_, w_law_due_here_, law_found_, law_due_here_, r, rfl, hs, r_law_found_, r_law_due_here_, hm, q⟩ := h
  have e : Ext Ge He Ge He := Ext.refl hs
  unfold Mir.law_is_ at hm
  refine ⟨_, (pss_cons (ps_if (PW.pt (pw_or (pt_not (pt_val (pe_callB call_isi (by rfl) T.n_isinstance (by decide +kernel) (pa_cons (pv 0) (pa_cons (pe_bltn (v := .ty "tuple") (by rfl) T.n_tuple (by decide +kernel) rfl) pa_nil))))) (pw_or (pt_cmpR op_ne (pe_callB call_len_seq (by rfl) T.n_len (by decide +kernel) (pa_cons (pv 0) pa_nil)) pe_int (nomark _)) (pw_or (pt_not (pt_val (pe_callB call_isi (by rfl) T.n_isinstance (by decide +kernel) (pa_cons (pe_ix ix_tup (pv 0) pe_int (fun _ _ => rfl)) (pa_cons (pe_bltn (v := .ty "str") (by rfl) T.n_str (by decide +kernel) rfl) pa_nil))))) (pw_or1 (pt_cmpR (op_neD hr.units) (pv 0) (pv 1) (nomark _))))))) (pss_one (ps_ret pe_bl)) pss_nil) (pss_cons (ps_for PassesOwn.never rfl (pi_list (pe_ix ix_tup (pv 0) pe_int (fun _ _ => rfl))) (pg_name (i := 2) sc_law_is_.nd rfl (Or.inl rfl)) (pss_cons (ps_if (pt_not (pt_val (pe_callB call_isi (by rfl) T.n_isinstance (by decide +kernel) (pa_cons (pv 2) (pa_cons (pe_bltn (v := .ty "list") (by rfl) T.n_list (by decide +kernel) rfl) pa_nil))))) (pss_one (ps_ret pe_bl)) pss_nil) (pss_one (ps_for PassesOwn.never rfl (pi_list (pv 2)) (pg_name (i := 3) sc_law_is_.nd rfl (Or.inl rfl)) (pss_one (ps_if (PW.pt (pw_or (pt_not (pt_val (pe_callB call_isi (by rfl) T.n_isinstance (by decide +kernel) (pa_cons (pv 3) (pa_cons (pe_bltn (v := .ty "tuple") (by rfl) T.n_tuple (by decide +kernel) rfl) pa_nil))))) (pw_or (pt_not (pt_val (pe_call (ok_law_whole_ T) (hr.mono (by decide)) (by rfl) T.g_law_whole_ T.F_law_whole_.kp (bind_law_whole_ T) .nil pass0 (pa_cons (pe_ix ix_tup (pv 3) pe_int (fun _ _ => rfl)) pa_nil)))) (pw_or1 (pt_not (pt_val (pe_call (ok_law_whole_ T) (hr.mono (by decide)) (by rfl) T.g_law_whole_ T.F_law_whole_.kp (bind_law_whole_ T) .nil pass0 (pa_cons (pe_ix ix_tup (pv 3) pe_int (fun _ _ => rfl)) pa_nil)))))))) (pss_one (ps_ret pe_bl)) pss_nil)))))) (pss_one (ps_ret (pe_callB call_isi (by rfl) T.n_isinstance (by decide +kernel) (pa_cons (pe_ix ix_tup (pv 0) pe_int (fun _ _ => rfl)) (pa_cons (pe_bltn (v := .ty "list") (by rfl) T.n_list (by decide +kernel) rfl) pa_nil))))))), ?_⟩
  try dsimp only
  refine st_seq ?_
  refine st_if e.s (st_or (st_notp (st_val (K := K) (se_isip (se_var (i := 0) (d := law_found_) rfl r_law_found_) (by first | decide +kernel | rfl)))) (st_or (st_test (K := K) (se_nep (se_len2p (se_var (i := 0) (d := law_found_) rfl r_law_found_)) (se_int (n := 2)))) (st_or (st_notp (st_val (K := K) (se_isip (se_t2_0p (se_var (i := 0) (d := law_found_) rfl r_law_found_)) (by first | decide +kernel | rfl)))) (st_test (K := K) (se_neQp (se_var (i := 0) (d := law_found_) rfl r_law_found_) (se_var (i := 1) (d := law_due_here_) rfl r_law_due_here_)))))) hm (fun G1 H1 ce hm => ?_) (fun G1 H1 ce hm => ?_)
  · replace e := e.trans ce
    replace r_law_found_ := Rp.mono ce.g r_law_found_
    replace r_law_due_here_ := Rp.mono ce.g r_law_due_here_
    try dsimp only
    exact st_ret (RR := RV K) e rvm (SE.xe se_bl) hm q
  · replace e := e.trans ce
    replace r_law_found_ := Rp.mono ce.g r_law_found_
    replace r_law_due_here_ := Rp.mono ce.g r_law_due_here_
    refine st_next ?_
    try dsimp only
    refine st_seq ?_
    refine st_for (K := K) e.s (IB.ie (ib_list (se_t2_1p (se_var (i := 0) (d := law_found_) rfl r_law_found_)))) hm (fun xs J Gs1 Hs1 ce it hm => ?_)
    replace e := e.trans ce
    replace r_law_found_ := Rp.mono ce.g r_law_found_
    replace r_law_due_here_ := Rp.mono ce.g r_law_due_here_
    have sg1 : Same Gs1 Gs1 := Same.refl _
    obtain ⟨o1, hw, hm⟩ := bind_some hm
    have hq1 : ∀ x, o1 = .inr x → ∀ u G' H', Ext Ge He G' H' → RV K He G' H' u x → Q u H' := fun x ex => by
      subst ex
      replace hm := elim_inr hm
      cases hm
      exact q
    refine lg_R (K := K) (fun (s1 : Unit) σ G H => ∃ (w_law_found_ : V) (w_law_due_here_ : V) (j2 : Option V) (j3 : Option V), σ = [some w_law_found_, some w_law_due_here_, j2, j3] ∧ Ext Ge He G H ∧ Same Gs1 G ∧ rep K G w_law_found_ law_found_ ∧ rep K G w_law_due_here_ law_due_here_) it hw ⟨_, _, _, _, rfl, e, sg1, r_law_found_, r_law_due_here_⟩ (fun s1 σ G H h => ?_) (fun s1 i1 f w1 σ G H G1 H1 N hx h ce hv hm2 hN hX hR => ?_) (fun z1 σ G H eo h => ?_)
    · obtain ⟨w_law_found_, w_law_due_here_, j2, j3, es, e, sg1, r_law_found_, r_law_due_here_⟩ := h
      subst es
      exact ⟨sg1, e.s⟩
    · clear hw hm it
      have hm := hm2
      clear hm2
      have hF1 := fun x ex => hq1 x (hR x ex)
      obtain ⟨w_law_found_, w_law_due_here_, j2, j3, es, e, sg1, r_law_found_, r_law_due_here_⟩ := h
      subst es
      replace e := e.trans ce
      replace sg1 := sg1.trans ce.g
      replace r_law_found_ := Rp.mono ce.g r_law_found_
      replace r_law_due_here_ := Rp.mono ce.g r_law_due_here_
      refine g_name ?_
      have r_law_row_ := hv
      clear hv
      try dsimp only
      refine st_seq ?_
      refine st_if e.s (st_notp (st_val (K := K) (se_isip (se_var (i := 2) (d := i1) rfl r_law_row_) (by first | decide +kernel | rfl)))) hm (fun G1 H1 ce hm => ?_) (fun G1 H1 ce hm => ?_)
      · replace e := e.trans ce
        replace sg1 := sg1.trans ce.g
        replace r_law_found_ := Rp.mono ce.g r_law_found_
        replace r_law_due_here_ := Rp.mono ce.g r_law_due_here_
        replace r_law_row_ := Rp.mono ce.g r_law_row_
        try dsimp only
        exact st_retL (RR := RV K) e rvm (SE.xe se_bl) hm hF1
      · replace e := e.trans ce
        replace sg1 := sg1.trans ce.g
        replace r_law_found_ := Rp.mono ce.g r_law_found_
        replace r_law_due_here_ := Rp.mono ce.g r_law_due_here_
        replace r_law_row_ := Rp.mono ce.g r_law_row_
        refine st_next ?_
        try dsimp only
        refine st_for (K := K) e.s (IB.ie (ib_list (se_var (i := 2) (d := i1) rfl r_law_row_))) hm (fun xs J Gs2 Hs2 ce it hm => ?_)
        replace e := e.trans ce
        replace sg1 := sg1.trans ce.g
        replace r_law_found_ := Rp.mono ce.g r_law_found_
        replace r_law_due_here_ := Rp.mono ce.g r_law_due_here_
        replace r_law_row_ := Rp.mono ce.g r_law_row_
        have sg2 : Same Gs2 Gs2 := Same.refl _
        obtain ⟨o2, hw, hm⟩ := bind_some hm
        have hq2 : ∀ x, o2 = .inr x → ∀ u G' H', Ext Ge He G' H' → RV K He G' H' u x → Q u H' := fun x ex => by
          subst ex
          replace hm := elim_inr hm
          cases hm
          exact hF1 _ rfl
        refine lg_R (K := K) (fun (s2 : Unit) σ G H => ∃ (w_law_found_ : V) (w_law_due_here_ : V) (w_law_row_ : V) (j3 : Option V), σ = [some w_law_found_, some w_law_due_here_, some w_law_row_, j3] ∧ Ext Ge He G H ∧ Same Gs1 G ∧ Same Gs2 G ∧ rep K G w_law_found_ law_found_ ∧ rep K G w_law_due_here_ law_due_here_ ∧ rep K G w_law_row_ i1) it hw ⟨_, _, _, _, rfl, e, sg1, sg2, r_law_found_, r_law_due_here_, r_law_row_⟩ (fun s2 σ G H h => ?_) (fun s2 i2 f w2 σ G H G1 H1 N hx h ce hv hm2 hN hX hR => ?_) (fun z2 σ G H eo h => ?_)
        · obtain ⟨w_law_found_, w_law_due_here_, w_law_row_, j3, es, e, sg1, sg2, r_law_found_, r_law_due_here_, r_law_row_⟩ := h
          subst es
          exact ⟨sg2, e.s⟩
        · clear hw hm it
          have hm := hm2
          clear hm2
          have hF2 := fun x ex => hq2 x (hR x ex)
          obtain ⟨w_law_found_, w_law_due_here_, w_law_row_, j3, es, e, sg1, sg2, r_law_found_, r_law_due_here_, r_law_row_⟩ := h
          subst es
          replace e := e.trans ce
          replace sg1 := sg1.trans ce.g
          replace sg2 := sg2.trans ce.g
          replace r_law_found_ := Rp.mono ce.g r_law_found_
          replace r_law_due_here_ := Rp.mono ce.g r_law_due_here_
          replace r_law_row_ := Rp.mono ce.g r_law_row_
          refine g_name ?_
          have r_law_number_ := hv
          clear hv
          try dsimp only
          refine st_if e.s (st_or (st_notp (st_val (K := K) (se_isip (se_var (i := 3) (d := i2) rfl r_law_number_) (by first | decide +kernel | rfl)))) (st_or (st_not (st_val (K := K) (XE.se (xe_call1p rvm (se_t2_0p (se_var (i := 3) (d := i2) rfl r_law_number_)))))) (st_not (st_val (K := K) (XE.se (xe_call1p rvm (se_t2_1p (se_var (i := 3) (d := i2) rfl r_law_number_)))))))) hm (fun G1 H1 ce hm => ?_) (fun G1 H1 ce hm => ?_)
          · replace e := e.trans ce
            replace sg1 := sg1.trans ce.g
            replace sg2 := sg2.trans ce.g
            replace r_law_found_ := Rp.mono ce.g r_law_found_
            replace r_law_due_here_ := Rp.mono ce.g r_law_due_here_
            replace r_law_row_ := Rp.mono ce.g r_law_row_
            replace r_law_number_ := Rp.mono ce.g r_law_number_
            try dsimp only
            exact st_retL (RR := RV K) e rvm (SE.xe se_bl) hm hF2
          · replace e := e.trans ce
            replace sg1 := sg1.trans ce.g
            replace sg2 := sg2.trans ce.g
            replace r_law_found_ := Rp.mono ce.g r_law_found_
            replace r_law_due_here_ := Rp.mono ce.g r_law_due_here_
            replace r_law_row_ := Rp.mono ce.g r_law_row_
            replace r_law_number_ := Rp.mono ce.g r_law_number_
            refine st_next ?_
            cases hm
            exact hN _ _ _ _ rfl ⟨_, _, _, _, rfl, e, sg1, sg2, r_law_found_, r_law_due_here_, r_law_row_⟩
        · clear hw it
          subst eo
          replace hm := elim_inl hm
          obtain ⟨w_law_found_, w_law_due_here_, w_law_row_, j3, es, e, sg1, sg2, r_law_found_, r_law_due_here_, r_law_row_⟩ := h
          subst es
          clear sg2
          cases hm
          exact hN _ _ _ _ rfl ⟨_, _, _, _, rfl, e, sg1, r_law_found_, r_law_due_here_⟩
    · clear hw it
      subst eo
      replace hm := elim_inl hm
      obtain ⟨w_law_found_, w_law_due_here_, j2, j3, es, e, sg1, r_law_found_, r_law_due_here_⟩ := h
      subst es
      clear sg1
      try dsimp only
      exact st_ret (RR := RV K) e rvm (SE.xe (se_isip (se_t2_1p (se_var (i := 0) (d := law_found_) rfl r_law_found_)) (by first | decide +kernel | rfl))) hm q
theorem ok_law_ (T : Txt K mg) : FnOk P w K mg base CX0 8 T.a_law_ T.d_law_ ["_law_script"] (Sp1 K (RV K) Mir.law_) := by
  refine T.F_law_.ok sc_law_ (Sp1.len rfl) (fun cdv A outer s He vs Q E hr h => ?_)
  obtain ⟨Ge, w_law_script_, law_script_, r, rfl, hs, r_law_script_, hm, q⟩ := h
  have e : Ext Ge He Ge He := Ext.refl hs
  unfold Mir.law_ at hm
  have st0 : ∀ a0, L2.start N_law_ [a0] = [some a0, none, none, none, none, none, none, none, none] := fun _ => rfl
  refine ⟨_, (pss_cons (ps_for PassesOwn.never rfl (pi_range3 (by rfl) T.n_range (pa_cons pe_int (pa_cons (pe_op op_add (pe_callB (call_min2 rfl) (by rfl) T.n_min (by decide +kernel) (pa_cons pe_int (pa_cons (pe_callB call_len_seq (by rfl) T.n_len (by decide +kernel) (pa_cons (pv 0) pa_nil)) pa_nil))) pe_int) (pa_cons pe_int pa_nil)))) (pg_name (i := 1) sc_law_.nd rfl (Or.inl rfl)) (pss_cons (ps_set (i := 2) sc_law_.nd rfl (Or.inl rfl) (pe_call (ok_law_big_ T) (hr.mono (by decide)) (by rfl) T.g_law_big_ T.F_law_big_.kp (bind_law_big_ T) .nil pass0 (pa_cons (pv 0) (pa_cons (pv 1) pa_nil)))) (pss_cons (ps_set (i := 3) sc_law_.nd rfl (Or.inl rfl) (pe_op op_add pe_int (pe_op op_mod (pv 2) pe_int))) (pss_cons (ps_if (pt_cmpR op_eq (pe_op op_mod (pe_op op_fdivW (pv 2) pe_int) pe_int) pe_int (nomark _)) (pss_one (ps_set (i := 3) sc_law_.nd rfl (Or.inl rfl) (pe_op op_add pe_int (pe_op op_mod (pe_op op_fdivW (pv 2) pe_int) pe_int)))) pss_nil) (pss_cons (ps_set (i := 4) sc_law_.nd rfl (Or.inl rfl) (pe_call (ok_law_letters_ T) (hr.mono (by decide)) (by rfl) T.g_law_letters_ T.F_law_letters_.kp (bind_law_letters_ T) .nil pass0 (pa_cons (pe_op op_add pe_int (pe_op op_mod (pe_op op_fdivW (pv 2) pe_int) pe_int)) (pa_cons (pe_op op_fdivW (pv 2) pe_int) pa_nil)))) (pss_cons (ps_asg (pe_call (ok_law_terms_ T) (hr.mono (by decide)) (by rfl) T.g_law_terms_ T.F_law_terms_.kp (bind_law_terms_ T) .nil pass0 (pa_cons (pv 4) (pa_cons (pv 3) (pa_cons (pe_call (ok_law_big_ T) (hr.mono (by decide)) (by rfl) T.g_law_big_ T.F_law_big_.kp (bind_law_big_ T) .nil pass0 (pa_cons (pv 0) (pa_cons (pe_op op_add (pv 1) pe_int) pa_nil))) (pa_cons (pe_call (ok_law_big_ T) (hr.mono (by decide)) (by rfl) T.g_law_big_ T.F_law_big_.kp (bind_law_big_ T) .nil pass0 (pa_cons (pv 0) (pa_cons (pe_op op_add (pv 1) pe_int) pa_nil))) pa_nil))))) (pg_tup rfl (pgs_cons (pg_name (i := 5) sc_law_.nd rfl (Or.inl rfl)) (pgs_cons (pg_name (i := 6) sc_law_.nd rfl (Or.inl rfl)) pgs_nil)))) (pss_cons (ps_set (i := 7) sc_law_.nd rfl (Or.inl rfl) (pe_call (ok_law_due_ T) (hr.mono (by decide)) (by rfl) T.g_law_due_ T.F_law_due_.kp (bind_law_due_ T) .nil pass0 (pa_cons (pv 6) pa_nil))) (pss_cons (ps_set (i := 8) sc_law_.nd rfl (Or.inl rfl) (pe_call (ok_read_form_ T) (hr.mono (by decide)) (by rfl) T.g_read_form_ T.F_read_form_.kp (bind_read_form_ T) .nil pass0 (pa_cons (pv 5) pa_nil))) (pss_cons (ps_if (pt_not (pt_val (pe_call (ok_law_is_ T) (hr.mono (by decide)) (by rfl) T.g_law_is_ T.F_law_is_.kp (bind_law_is_ T) .nil pass0 (pa_cons (pv 8) (pa_cons (pv 7) pa_nil))))) (pss_one (ps_ret pe_bl)) pss_nil) (pss_cons (ps_expr (pe_bm0 PySem.F.plainAttrs_list PySem.F.slot_list_clear PySem.F.type_list_clear mt_clear (pe_ix ix_list (pe_ix ix_tup (pv 8) pe_int (fun _ _ => rfl)) pe_int (fun _ _ => rfl)))) (pss_cons (ps_expr (pe_bm PySem.F.plainAttrs_list PySem.F.slot_list_append PySem.F.type_list_append mt_append (pe_ix ix_tup (pv 8) pe_int (fun _ _ => rfl)) (pa_cons (pe_lst pa_nil) pa_nil))) (pss_one (ps_if (pt_not (pt_val (pe_call (ok_law_is_ T) (hr.mono (by decide)) (by rfl) T.g_law_is_ T.F_law_is_.kp (bind_law_is_ T) .nil pass0 (pa_cons (pe_call (ok_read_form_ T) (hr.mono (by decide)) (by rfl) T.g_read_form_ T.F_read_form_.kp (bind_read_form_ T) .nil pass0 (pa_cons (pv 5) pa_nil)) (pa_cons (pv 7) pa_nil))))) (pss_one (ps_ret pe_bl)) pss_nil))))))))))))) (pss_one (ps_ret pe_bl))), ?_⟩
  try dsimp only
  try simp only [st0, List.set_cons_zero, List.set_cons_succ]
  refine st_seq ?_
  refine st_for (K := K) e.s (ie_range3p (c := 3) (by decide) (se_int (n := 0)) (se_addp (se_min2p (se_int (n := 9)) (se_lenKp (se_var (i := 0) (d := law_script_) rfl r_law_script_))) (se_int (n := 1)))) hm (fun xs J Gs1 Hs1 ce it hm => ?_)
  replace e := e.trans ce
  replace r_law_script_ := Rp.mono ce.g r_law_script_
  have sg1 : Same Gs1 Gs1 := Same.refl _
  obtain ⟨o1, hw, hm⟩ := bind_some hm
  have hq1 : ∀ x, o1 = .inr x → ∀ u G' H', Ext Ge He G' H' → RV K He G' H' u x → Q u H' := fun x ex => by
    subst ex
    replace hm := elim_inr hm
    cases hm
    exact q
  refine lg_R (K := K) (fun (s1 : Unit) σ G H => ∃ (w_law_script_ : V) (j1 : Option V) (j2 : Option V) (j3 : Option V) (j4 : Option V) (j5 : Option V) (j6 : Option V) (j7 : Option V) (j8 : Option V), σ = [some w_law_script_, j1, j2, j3, j4, j5, j6, j7, j8] ∧ Ext Ge He G H ∧ Same Gs1 G ∧ rep K G w_law_script_ law_script_) it hw ⟨_, _, _, _, _, _, _, _, _, rfl, e, sg1, r_law_script_⟩ (fun s1 σ G H h => ?_) (fun s1 i1 f w1 σ G H G1 H1 N hx h ce hv hm2 hN hX hR => ?_) (fun z1 σ G H eo h => ?_)
  · obtain ⟨w_law_script_, j1, j2, j3, j4, j5, j6, j7, j8, es, e, sg1, r_law_script_⟩ := h
    subst es
    exact ⟨sg1, e.s⟩
  · clear hw hm it
    have hm := hm2
    clear hm2
    have hF1 := fun x ex => hq1 x (hR x ex)
    obtain ⟨w_law_script_, j1, j2, j3, j4, j5, j6, j7, j8, es, e, sg1, r_law_script_⟩ := h
    subst es
    replace e := e.trans ce
    replace sg1 := sg1.trans ce.g
    replace r_law_script_ := Rp.mono ce.g r_law_script_
    refine g_name ?_
    have hv2 : w1 = V.int i1 := hv
    subst hv2
    clear hv
    try dsimp only
    try simp only [st0, List.set_cons_zero, List.set_cons_succ]
    refine st_seq ?_
    refine st_set (K := K) e.s (XE.se (xe_call2p rvm (se_var (i := 0) (d := law_script_) rfl r_law_script_) (se_iv (i := 1) (d := i1) rfl))) hm (fun law_cell_ w_law_cell_ G1 H1 ce r_law_cell_ hm => ?_)
    replace e := e.trans ce
    replace sg1 := sg1.trans ce.g
    replace r_law_script_ := Rp.mono ce.g r_law_script_
    have r_law_cell_ : w_law_cell_ = V.int law_cell_ := r_law_cell_; subst r_law_cell_
    try dsimp only
    try simp only [st0, List.set_cons_zero, List.set_cons_succ]
    refine st_seq ?_
    refine st_set (K := K) e.s (se_addp (se_int (n := 1)) (se_modcp (se_iv (i := 2) (d := law_cell_) rfl) (by decide))) hm (fun law_many_ w_law_many_ G1 H1 ce r_law_many_ hm => ?_)
    replace e := e.trans ce
    replace sg1 := sg1.trans ce.g
    replace r_law_script_ := Rp.mono ce.g r_law_script_
    have r_law_many_ : w_law_many_ = V.int law_many_ := r_law_many_; subst r_law_many_
    try dsimp only
    try simp only [st0, List.set_cons_zero, List.set_cons_succ]
    refine st_seq ?_
    obtain ⟨s2, hA, hm⟩ := bind_some hm
    refine st_join (fun σ H => ∃ G, ∃ (w_law_script_ : V) (j4 : Option V) (j5 : Option V) (j6 : Option V) (j7 : Option V) (j8 : Option V), σ = [some w_law_script_, some (V.int i1), some (V.int law_cell_), some (V.int s2), j4, j5, j6, j7, j8] ∧ Ext Ge He G H ∧ Same Gs1 G ∧ rep K G w_law_script_ law_script_) (fun σ H h => ?_) (fun N hN => ?_)
    · obtain ⟨G, w_law_script_, j4, j5, j6, j7, j8, es, e, sg1, r_law_script_⟩ := h
      subst es
      try dsimp only
      try simp only [st0, List.set_cons_zero, List.set_cons_succ]
      refine st_seq ?_
      refine st_set (K := K) e.s (XE.se (xe_call2p rvm (se_addp (se_int (n := 1)) (se_modcp (se_divcp (se_iv (i := 2) (d := law_cell_) rfl) (by decide)) (by decide))) (se_divcp (se_iv (i := 2) (d := law_cell_) rfl) (by decide)))) hm (fun law_letters_here_ w_law_letters_here_ G1 H1 ce r_law_letters_here_ hm => ?_)
      replace e := e.trans ce
      replace sg1 := sg1.trans ce.g
      replace r_law_script_ := Rp.mono ce.g r_law_script_
      have r_law_letters_here_ : w_law_letters_here_ = V.str law_letters_here_ := r_law_letters_here_; subst r_law_letters_here_
      try dsimp only
      try simp only [st0, List.set_cons_zero, List.set_cons_succ]
      refine st_seq ?_
      refine st_un2 (K := K) e.s (XE.se (xe_call4 rvm (se_sv (i := 4) (d := law_letters_here_) rfl) (se_iv (i := 3) (d := s2) rfl) (XE.se (xe_call2p rvm (se_var (i := 0) (d := law_script_) rfl r_law_script_) (se_addp (se_iv (i := 1) (d := i1) rfl) (se_int (n := 1))))) (XE.se (xe_call2p rvm (se_var (i := 0) (d := law_script_) rfl r_law_script_) (se_addp (se_iv (i := 1) (d := i1) rfl) (se_int (n := 2))))))) hm (fun t3 w_law_text_ w_law_terms_here_ G1 H1 ce r_law_text_ r_law_terms_here_ hm => ?_)
      replace e := e.trans ce
      replace sg1 := sg1.trans ce.g
      replace r_law_script_ := Rp.mono ce.g r_law_script_
      have r_law_text_ : w_law_text_ = V.str t3.1 := r_law_text_; subst r_law_text_
      try dsimp only
      try simp only [st0, List.set_cons_zero, List.set_cons_succ]
      refine st_seq ?_
      refine st_set (K := K) e.s (XE.se (xe_call1p rvm (se_var (i := 6) (d := t3.2) rfl r_law_terms_here_))) hm (fun law_due_here_ w_law_due_here_ G1 H1 ce r_law_due_here_ hm => ?_)
      replace e := e.trans ce
      replace sg1 := sg1.trans ce.g
      replace r_law_script_ := Rp.mono ce.g r_law_script_
      replace r_law_terms_here_ := Rp.mono ce.g r_law_terms_here_
      try dsimp only
      try simp only [st0, List.set_cons_zero, List.set_cons_succ]
      refine st_seq ?_
      refine st_setS e.s (xe_call1p rvtm (se_sv (i := 5) (d := t3.1) rfl)) hm (fun law_found_ w_law_found_ G1 H1 ce r_law_found_ hm => ?_)
      replace r_law_found_ := r_law_found_.up e.h
      replace e := e.trans ce
      replace sg1 := sg1.trans ce.g
      replace r_law_script_ := Rp.mono ce.g r_law_script_
      replace r_law_terms_here_ := Rp.mono ce.g r_law_terms_here_
      replace r_law_due_here_ := Rp.mono ce.g r_law_due_here_
      try dsimp only
      try simp only [st0, List.set_cons_zero, List.set_cons_succ]
      refine st_seq ?_
      refine st_if e.s (st_tmpS r_law_found_ (fun tvs4_0 tsg4_0 thv4_0 => (st_not (st_val (K := K) (XE.se (xe_call2p rvm (se_var (i := 8) (d := law_found_) rfl thv4_0) (se_var (i := 7) (d := law_due_here_) rfl (Rp.mono tsg4_0 r_law_due_here_)))))))) hm (fun G1 H1 ce hm => ?_) (fun G1 H1 ce hm => ?_)
      · replace e := e.trans ce
        replace sg1 := sg1.trans ce.g
        replace r_law_script_ := Rp.mono ce.g r_law_script_
        replace r_law_terms_here_ := Rp.mono ce.g r_law_terms_here_
        replace r_law_due_here_ := Rp.mono ce.g r_law_due_here_
        replace r_law_found_ := r_law_found_.mono ce
        try dsimp only
        try simp only [st0, List.set_cons_zero, List.set_cons_succ]
        exact st_retL (RR := RV K) e rvm (SE.xe se_bl) hm hF1
      · replace e := e.trans ce
        replace sg1 := sg1.trans ce.g
        replace r_law_script_ := Rp.mono ce.g r_law_script_
        replace r_law_terms_here_ := Rp.mono ce.g r_law_terms_here_
        replace r_law_due_here_ := Rp.mono ce.g r_law_due_here_
        replace r_law_found_ := r_law_found_.mono ce
        refine st_next ?_
        try dsimp only
        try simp only [st0, List.set_cons_zero, List.set_cons_succ]
        refine st_seq ?_
        refine st_clrS0 e.s rfl r_law_found_ hm (fun law_found_ pq hq ro z0 g0 pn0 hm => ?_)
        replace e := e.put (o := hq) z0 g0 pn0
        clear r_law_found_ g0 z0 pn0
        have r_law_found_ := ro
        clear ro
        try dsimp only
        try simp only [st0, List.set_cons_zero, List.set_cons_succ]
        refine st_seq ?_
        refine st_appS e.s rfl r_law_found_ (fe_lst la_nil) hm (fun pq hq G1 H1 _ ce z0 g0 pn0 hm => ?_)
        replace e := e.trans ce
        replace sg1 := sg1.trans ce.g
        replace r_law_script_ := Rp.mono ce.g r_law_script_
        replace r_law_terms_here_ := Rp.mono ce.g r_law_terms_here_
        replace r_law_due_here_ := Rp.mono ce.g r_law_due_here_
        replace e := e.put (o := hq) z0 g0 pn0
        clear g0 z0 pn0
        try dsimp only
        try simp only [st0, List.set_cons_zero, List.set_cons_succ]
        refine st_if e.s (st_not (st_val (K := K) (XE.se (xe_call2 rvm (XE.vtse (xe_call1p rvtm (se_sv (i := 5) (d := t3.1) rfl))) (se_var (i := 7) (d := law_due_here_) rfl r_law_due_here_))))) hm (fun G1 H1 ce hm => ?_) (fun G1 H1 ce hm => ?_)
        · replace e := e.trans ce
          replace sg1 := sg1.trans ce.g
          replace r_law_script_ := Rp.mono ce.g r_law_script_
          replace r_law_terms_here_ := Rp.mono ce.g r_law_terms_here_
          replace r_law_due_here_ := Rp.mono ce.g r_law_due_here_
          try dsimp only
          try simp only [st0, List.set_cons_zero, List.set_cons_succ]
          exact st_retL (RR := RV K) e rvm (SE.xe se_bl) hm hF1
        · replace e := e.trans ce
          replace sg1 := sg1.trans ce.g
          replace r_law_script_ := Rp.mono ce.g r_law_script_
          replace r_law_terms_here_ := Rp.mono ce.g r_law_terms_here_
          replace r_law_due_here_ := Rp.mono ce.g r_law_due_here_
          refine st_next ?_
          cases hm
          exact hN _ _ _ _ rfl ⟨_, _, _, _, _, _, _, _, _, rfl, e, sg1, r_law_script_⟩
    · clear hm
      refine st_if e.s (st_test (K := K) (se_eqp (se_modcp (se_divcp (se_iv (i := 2) (d := law_cell_) rfl) (by decide)) (by decide)) (se_int (n := 1)))) hA (fun G1 H1 ce hm => ?_) (fun G1 H1 ce hm => ?_)
      · replace e := e.trans ce
        replace sg1 := sg1.trans ce.g
        replace r_law_script_ := Rp.mono ce.g r_law_script_
        try dsimp only
        try simp only [st0, List.set_cons_zero, List.set_cons_succ]
        refine st_set (K := K) e.s (se_addp (se_int (n := 1)) (se_modcp (se_divcp (se_iv (i := 2) (d := law_cell_) rfl) (by decide)) (by decide))) hm (fun law_many_ w_law_many_ G1 H1 ce r_law_many_ hm => ?_)
        replace e := e.trans ce
        replace sg1 := sg1.trans ce.g
        replace r_law_script_ := Rp.mono ce.g r_law_script_
        have r_law_many_ : w_law_many_ = V.int law_many_ := r_law_many_; subst r_law_many_
        cases hm
        exact hN _ _ ⟨_, _, _, _, _, _, _, rfl, e, sg1, r_law_script_⟩
      · replace e := e.trans ce
        replace sg1 := sg1.trans ce.g
        replace r_law_script_ := Rp.mono ce.g r_law_script_
        refine st_next ?_
        cases hm
        exact hN _ _ ⟨_, _, _, _, _, _, _, rfl, e, sg1, r_law_script_⟩
  · clear hw it
    subst eo
    replace hm := elim_inl hm
    obtain ⟨w_law_script_, j1, j2, j3, j4, j5, j6, j7, j8, es, e, sg1, r_law_script_⟩ := h
    subst es
    clear sg1
    try dsimp only
    try simp only [st0, List.set_cons_zero, List.set_cons_succ]
    exact st_ret (RR := RV K) e rvm (SE.xe se_bl) hm q
end
theorem kc_ONE_ {K : PySem.W.Frag} {b : Addr} {n : Nat} {od : Option Addr} {sl : Array (Option Value)} {u_ONE__0 : Tok} {u_ONE__1 : Tok} (h : K.lookup b = some ⟨.type "tuple", od, .seq ([Value.int 1 u_ONE__0, Value.int 1 u_ONE__1]).toArray n, sl⟩) (G : Hp) : rep K G (.ref b) Mir.c_ONE_ := ⟨b, .int (1), .int (1), rfl, .inr ⟨_, _, _, h, rfl, rfl, (show 2 ≤ sizeLine by decide), (.cons ⟨_, rfl⟩ (.cons ⟨_, rfl⟩ .nil))⟩, rfl, rfl⟩
theorem kc_NOUGHT_ {K : PySem.W.Frag} {b : Addr} {n : Nat} {od : Option Addr} {sl : Array (Option Value)} {u_NOUGHT__0 : Tok} {u_NOUGHT__1 : Tok} (h : K.lookup b = some ⟨.type "tuple", od, .seq ([Value.int 0 u_NOUGHT__0, Value.int 1 u_NOUGHT__1]).toArray n, sl⟩) (G : Hp) : rep K G (.ref b) Mir.c_NOUGHT_ := ⟨b, .int (0), .int (1), rfl, .inr ⟨_, _, _, h, rfl, rfl, (show 2 ≤ sizeLine by decide), (.cons ⟨_, rfl⟩ (.cons ⟨_, rfl⟩ .nil))⟩, rfl, rfl⟩
theorem kc_HALF_ {K : PySem.W.Frag} {b : Addr} {n : Nat} {od : Option Addr} {sl : Array (Option Value)} {u_HALF__0 : Tok} {u_HALF__1 : Tok} (h : K.lookup b = some ⟨.type "tuple", od, .seq ([Value.int 1 u_HALF__0, Value.int 2 u_HALF__1]).toArray n, sl⟩) (G : Hp) : rep K G (.ref b) Mir.c_HALF_ := ⟨b, .int (1), .int (2), rfl, .inr ⟨_, _, _, h, rfl, rfl, (show 2 ≤ sizeLine by decide), (.cons ⟨_, rfl⟩ (.cons ⟨_, rfl⟩ .nil))⟩, rfl, rfl⟩
/-- the law: it hands back True where its mirror does -/
def spLaw (K : PySem.W.Frag) : Sp := fun vs H Q _ => ∃ (a : Addr) (ns : List Int), vs = [.ref a] ∧ SqL K H a (ns.map V.int) ∧ ns.length ≤ 63 ∧ Mir.law_ ⟨ns⟩ = some true ∧ ∀ H', Q (.bl true) H'
theorem ok_sp {P : Program} {w : World} {K : PySem.W.Frag} {mg : Str → Option Value} {base : Heap} (T : Txt K mg) : FnOk P w K mg base CX0 8 T.a_law_ T.d_law_ ["_law_script"] (spLaw K) := (ok_law_ T).imp fun vs H Q E ⟨a, ns, ev, hS, hl, hm, q⟩ =>
  ⟨H, _, ⟨ns⟩, true, ev, ⟨Same.refl H, fun _ hx => nomatch hx⟩, ⟨a, ns.map V.int, rfl, hS, by rw [List.length_map]; exact Nat.le_trans hl (by decide), reps_ints ns⟩, hm, fun u G' H' _ hu => by rw [show u = V.bl true from hu]; exact q H'⟩
theorem all_mk {l : PySem.W.OpenLaw} {w : World} {K : PySem.W.Frag} {h : Heap} {mg : Str → Option Value} {fa : Addr} (X : K.In h) (G : h.Ns mainGlobals mg) (hfa : mg "law" = some (.ref fa)) {f0 : Addr} {f1 : Addr} {f2 : Addr} {f3 : Addr} {f4 : Addr} {f5 : Addr} {f6 : Addr} {f7 : Addr} {f8 : Addr} {f9 : Addr} {f10 : Addr} {f11 : Addr} {f12 : Addr} {f13 : Addr} {f14 : Addr} {f15 : Addr} {f16 : Addr} {f17 : Addr} {f18 : Addr} {f19 : Addr} {f20 : Addr} {f21 : Addr} {od0 an0 od1 an1 od2 an2 od3 an3 od4 an4 od5 an5 od6 an6 od7 an7 od8 an8 od9 an9 od10 an10 od11 an11 od12 an12 od13 an13 od14 an14 od15 an15 od16 an16 od17 an17 od18 an18 od19 an19 od20 an20 od21 an21 : Option Addr} {sl0 sl1 sl2 sl3 sl4 sl5 sl6 sl7 sl8 sl9 sl10 sl11 sl12 sl13 sl14 sl15 sl16 sl17 sl18 sl19 sl20 sl21 : Array (Option Value)} {oc0 kV0 dc0 pm0 cd0 ct0 oc1 kV1 dc1 pm1 cd1 ct1 oc2 kV2 dc2 pm2 cd2 ct2 oc3 kV3 dc3 pm3 cd3 ct3 oc4 kV4 dc4 pm4 cd4 ct4 oc5 kV5 dc5 pm5 cd5 ct5 oc6 kV6 dc6 pm6 cd6 ct6 oc7 kV7 dc7 pm7 cd7 ct7 oc8 kV8 dc8 pm8 cd8 ct8 oc9 kV9 dc9 pm9 cd9 ct9 oc10 kV10 dc10 pm10 cd10 ct10 oc11 kV11 dc11 pm11 cd11 ct11 oc12 kV12 dc12 pm12 cd12 ct12 oc13 kV13 dc13 pm13 cd13 ct13 oc14 kV14 dc14 pm14 cd14 ct14 oc15 kV15 dc15 pm15 cd15 ct15 oc16 kV16 dc16 pm16 cd16 ct16 oc17 kV17 dc17 pm17 cd17 ct17 oc18 kV18 dc18 pm18 cd18 ct18 oc19 kV19 dc19 pm19 cd19 ct19 oc20 kV20 dc20 pm20 cd20 ct20 oc21 kV21 dc21 pm21 cd21 ct21 : Value}
    (a0 : PySem.W.nsIn K mainGlobals "_law_big" = some (some (.ref f0))) (l0 : K.lookup f0 = some ⟨oc0, od0, .func (PySem.W.fnOf "_law_big" "_law_big" (defArgs s_law_big_) (defBody s_law_big_) (defScope s_law_big_) .none kV0 dc0 pm0 an0 cd0 ct0), sl0⟩) (c0 : PySem.W.codeIn K cd0 "_law_big" = true) (k0 : PySem.W.keepIn K (.ref f0) = true)
    (a1 : PySem.W.nsIn K mainGlobals "_law_letters" = some (some (.ref f1))) (l1 : K.lookup f1 = some ⟨oc1, od1, .func (PySem.W.fnOf "_law_letters" "_law_letters" (defArgs s_law_letters_) (defBody s_law_letters_) (defScope s_law_letters_) .none kV1 dc1 pm1 an1 cd1 ct1), sl1⟩) (c1 : PySem.W.codeIn K cd1 "_law_letters" = true) (k1 : PySem.W.keepIn K (.ref f1) = true)
    (a2 : PySem.W.nsIn K mainGlobals "_law_low" = some (some (.ref f2))) (l2 : K.lookup f2 = some ⟨oc2, od2, .func (PySem.W.fnOf "_law_low" "_law_low" (defArgs s_law_low_) (defBody s_law_low_) (defScope s_law_low_) .none kV2 dc2 pm2 an2 cd2 ct2), sl2⟩) (c2 : PySem.W.codeIn K cd2 "_law_low" = true) (k2 : PySem.W.keepIn K (.ref f2) = true)
    (a3 : PySem.W.nsIn K mainGlobals "_law_written" = some (some (.ref f3))) (l3 : K.lookup f3 = some ⟨oc3, od3, .func (PySem.W.fnOf "_law_written" "_law_written" (defArgs s_law_written_) (defBody s_law_written_) (defScope s_law_written_) .none kV3 dc3 pm3 an3 cd3 ct3), sl3⟩) (c3 : PySem.W.codeIn K cd3 "_law_written" = true) (k3 : PySem.W.keepIn K (.ref f3) = true)
    (a4 : PySem.W.nsIn K mainGlobals "_law_terms" = some (some (.ref f4))) (l4 : K.lookup f4 = some ⟨oc4, od4, .func (PySem.W.fnOf "_law_terms" "_law_terms" (defArgs s_law_terms_) (defBody s_law_terms_) (defScope s_law_terms_) .none kV4 dc4 pm4 an4 cd4 ct4), sl4⟩) (c4 : PySem.W.codeIn K cd4 "_law_terms" = true) (k4 : PySem.W.keepIn K (.ref f4) = true)
    (a5 : PySem.W.nsIn K mainGlobals "_law_times" = some (some (.ref f5))) (l5 : K.lookup f5 = some ⟨oc5, od5, .func (PySem.W.fnOf "_law_times" "_law_times" (defArgs s_law_times_) (defBody s_law_times_) (defScope s_law_times_) .none kV5 dc5 pm5 an5 cd5 ct5), sl5⟩) (c5 : PySem.W.codeIn K cd5 "_law_times" = true) (k5 : PySem.W.keepIn K (.ref f5) = true)
    (a6 : PySem.W.nsIn K mainGlobals "_law_plus" = some (some (.ref f6))) (l6 : K.lookup f6 = some ⟨oc6, od6, .func (PySem.W.fnOf "_law_plus" "_law_plus" (defArgs s_law_plus_) (defBody s_law_plus_) (defScope s_law_plus_) .none kV6 dc6 pm6 an6 cd6 ct6), sl6⟩) (c6 : PySem.W.codeIn K cd6 "_law_plus" = true) (k6 : PySem.W.keepIn K (.ref f6) = true)
    (a7 : PySem.W.nsIn K mainGlobals "_law_due" = some (some (.ref f7))) (l7 : K.lookup f7 = some ⟨oc7, od7, .func (PySem.W.fnOf "_law_due" "_law_due" (defArgs s_law_due_) (defBody s_law_due_) (defScope s_law_due_) .none kV7 dc7 pm7 an7 cd7 ct7), sl7⟩) (c7 : PySem.W.codeIn K cd7 "_law_due" = true) (k7 : PySem.W.keepIn K (.ref f7) = true)
    (a8 : PySem.W.nsIn K mainGlobals "read_number" = some (some (.ref f8))) (l8 : K.lookup f8 = some ⟨oc8, od8, .func (PySem.W.fnOf "read_number" "read_number" (defArgs s_read_number_) (defBody s_read_number_) (defScope s_read_number_) .none kV8 dc8 pm8 an8 cd8 ct8), sl8⟩) (c8 : PySem.W.codeIn K cd8 "read_number" = true) (k8 : PySem.W.keepIn K (.ref f8) = true)
    (a9 : PySem.W.nsIn K mainGlobals "common" = some (some (.ref f9))) (l9 : K.lookup f9 = some ⟨oc9, od9, .func (PySem.W.fnOf "common" "common" (defArgs s_common_) (defBody s_common_) (defScope s_common_) .none kV9 dc9 pm9 an9 cd9 ct9), sl9⟩) (c9 : PySem.W.codeIn K cd9 "common" = true) (k9 : PySem.W.keepIn K (.ref f9) = true)
    (a10 : PySem.W.nsIn K mainGlobals "fraction" = some (some (.ref f10))) (l10 : K.lookup f10 = some ⟨oc10, od10, .func (PySem.W.fnOf "fraction" "fraction" (defArgs s_fraction_) (defBody s_fraction_) (defScope s_fraction_) .none kV10 dc10 pm10 an10 cd10 ct10), sl10⟩) (c10 : PySem.W.codeIn K cd10 "fraction" = true) (k10 : PySem.W.keepIn K (.ref f10) = true)
    (a11 : PySem.W.nsIn K mainGlobals "read_fraction" = some (some (.ref f11))) (l11 : K.lookup f11 = some ⟨oc11, od11, .func (PySem.W.fnOf "read_fraction" "read_fraction" (defArgs s_read_fraction_) (defBody s_read_fraction_) (defScope s_read_fraction_) .none kV11 dc11 pm11 an11 cd11 ct11), sl11⟩) (c11 : PySem.W.codeIn K cd11 "read_fraction" = true) (k11 : PySem.W.keepIn K (.ref f11) = true)
    (a12 : PySem.W.nsIn K mainGlobals "read_term" = some (some (.ref f12))) (l12 : K.lookup f12 = some ⟨oc12, od12, .func (PySem.W.fnOf "read_term" "read_term" (defArgs s_read_term_) (defBody s_read_term_) (defScope s_read_term_) .none kV12 dc12 pm12 an12 cd12 ct12), sl12⟩) (c12 : PySem.W.codeIn K cd12 "read_term" = true) (k12 : PySem.W.keepIn K (.ref f12) = true)
    (a13 : PySem.W.nsIn K mainGlobals "minus" = some (some (.ref f13))) (l13 : K.lookup f13 = some ⟨oc13, od13, .func (PySem.W.fnOf "minus" "minus" (defArgs s_minus_) (defBody s_minus_) (defScope s_minus_) .none kV13 dc13 pm13 an13 cd13 ct13), sl13⟩) (c13 : PySem.W.codeIn K cd13 "minus" = true) (k13 : PySem.W.keepIn K (.ref f13) = true)
    (a14 : PySem.W.nsIn K mainGlobals "signed_term" = some (some (.ref f14))) (l14 : K.lookup f14 = some ⟨oc14, od14, .func (PySem.W.fnOf "signed_term" "signed_term" (defArgs s_signed_term_) (defBody s_signed_term_) (defScope s_signed_term_) .none kV14 dc14 pm14 an14 cd14 ct14), sl14⟩) (c14 : PySem.W.codeIn K cd14 "signed_term" = true) (k14 : PySem.W.keepIn K (.ref f14) = true)
    (a15 : PySem.W.nsIn K mainGlobals "read_terms" = some (some (.ref f15))) (l15 : K.lookup f15 = some ⟨oc15, od15, .func (PySem.W.fnOf "read_terms" "read_terms" (defArgs s_read_terms_) (defBody s_read_terms_) (defScope s_read_terms_) .none kV15 dc15 pm15 an15 cd15 ct15), sl15⟩) (c15 : PySem.W.codeIn K cd15 "read_terms" = true) (k15 : PySem.W.keepIn K (.ref f15) = true)
    (a16 : PySem.W.nsIn K mainGlobals "times" = some (some (.ref f16))) (l16 : K.lookup f16 = some ⟨oc16, od16, .func (PySem.W.fnOf "times" "times" (defArgs s_times_) (defBody s_times_) (defScope s_times_) .none kV16 dc16 pm16 an16 cd16 ct16), sl16⟩) (c16 : PySem.W.codeIn K cd16 "times" = true) (k16 : PySem.W.keepIn K (.ref f16) = true)
    (a17 : PySem.W.nsIn K mainGlobals "plus" = some (some (.ref f17))) (l17 : K.lookup f17 = some ⟨oc17, od17, .func (PySem.W.fnOf "plus" "plus" (defArgs s_plus_) (defBody s_plus_) (defScope s_plus_) .none kV17 dc17 pm17 an17 cd17 ct17), sl17⟩) (c17 : PySem.W.codeIn K cd17 "plus" = true) (k17 : PySem.W.keepIn K (.ref f17) = true)
    (a18 : PySem.W.nsIn K mainGlobals "read_form" = some (some (.ref f18))) (l18 : K.lookup f18 = some ⟨oc18, od18, .func (PySem.W.fnOf "read_form" "read_form" (defArgs s_read_form_) (defBody s_read_form_) (defScope s_read_form_) .none kV18 dc18 pm18 an18 cd18 ct18), sl18⟩) (c18 : PySem.W.codeIn K cd18 "read_form" = true) (k18 : PySem.W.keepIn K (.ref f18) = true)
    (a19 : PySem.W.nsIn K mainGlobals "_law_whole" = some (some (.ref f19))) (l19 : K.lookup f19 = some ⟨oc19, od19, .func (PySem.W.fnOf "_law_whole" "_law_whole" (defArgs s_law_whole_) (defBody s_law_whole_) (defScope s_law_whole_) .none kV19 dc19 pm19 an19 cd19 ct19), sl19⟩) (c19 : PySem.W.codeIn K cd19 "_law_whole" = true) (k19 : PySem.W.keepIn K (.ref f19) = true)
    (a20 : PySem.W.nsIn K mainGlobals "_law_is" = some (some (.ref f20))) (l20 : K.lookup f20 = some ⟨oc20, od20, .func (PySem.W.fnOf "_law_is" "_law_is" (defArgs s_law_is_) (defBody s_law_is_) (defScope s_law_is_) .none kV20 dc20 pm20 an20 cd20 ct20), sl20⟩) (c20 : PySem.W.codeIn K cd20 "_law_is" = true) (k20 : PySem.W.keepIn K (.ref f20) = true)
    (a21 : PySem.W.nsIn K mainGlobals "law" = some (some (.ref f21))) (l21 : K.lookup f21 = some ⟨oc21, od21, .func (PySem.W.fnOf "law" "law" (defArgs s_law_) (defBody s_law_) (defScope s_law_) .none kV21 dc21 pm21 an21 cd21 ct21), sl21⟩) (c21 : PySem.W.codeIn K cd21 "law" = true) (k21 : PySem.W.keepIn K (.ref f21) = true)
    (z_abs : PySem.W.nsIn K mainGlobals "abs" = some none)
    (z_bool : PySem.W.nsIn K mainGlobals "bool" = some none)
    (z_int : PySem.W.nsIn K mainGlobals "int" = some none)
    (z_isinstance : PySem.W.nsIn K mainGlobals "isinstance" = some none)
    (z_len : PySem.W.nsIn K mainGlobals "len" = some none)
    (z_list : PySem.W.nsIn K mainGlobals "list" = some none)
    (z_max : PySem.W.nsIn K mainGlobals "max" = some none)
    (z_min : PySem.W.nsIn K mainGlobals "min" = some none)
    (z_range : PySem.W.nsIn K mainGlobals "range" = some none)
    (z_str : PySem.W.nsIn K mainGlobals "str" = some none)
    (z_tuple : PySem.W.nsIn K mainGlobals "tuple" = some none)
    {t_FIGURES_ : Tok} (y_FIGURES_ : PySem.W.nsIn K mainGlobals "FIGURES" = some (some (.str Mir.c_FIGURES_ t_FIGURES_)))
    {t_MOST_FIGURES_ : Tok} (y_MOST_FIGURES_ : PySem.W.nsIn K mainGlobals "MOST_FIGURES" = some (some (.int 9 t_MOST_FIGURES_)))
    {t_LETTERS_ : Tok} (y_LETTERS_ : PySem.W.nsIn K mainGlobals "LETTERS" = some (some (.str Mir.c_LETTERS_ t_LETTERS_)))
    {b_ONE_ : Addr} {n_ONE_ : Nat} {od_ONE_ : Option Addr} {sl_ONE_ : Array (Option Value)} {u_ONE__0 : Tok} {u_ONE__1 : Tok} (y_ONE_ : PySem.W.nsIn K mainGlobals "ONE" = some (some (.ref b_ONE_))) (x_ONE_ : K.lookup b_ONE_ = some ⟨.type "tuple", od_ONE_, .seq ([Value.int 1 u_ONE__0, Value.int 1 u_ONE__1]).toArray n_ONE_, sl_ONE_⟩)
    {b_NOUGHT_ : Addr} {n_NOUGHT_ : Nat} {od_NOUGHT_ : Option Addr} {sl_NOUGHT_ : Array (Option Value)} {u_NOUGHT__0 : Tok} {u_NOUGHT__1 : Tok} (y_NOUGHT_ : PySem.W.nsIn K mainGlobals "NOUGHT" = some (some (.ref b_NOUGHT_))) (x_NOUGHT_ : K.lookup b_NOUGHT_ = some ⟨.type "tuple", od_NOUGHT_, .seq ([Value.int 0 u_NOUGHT__0, Value.int 1 u_NOUGHT__1]).toArray n_NOUGHT_, sl_NOUGHT_⟩)
    {b_HALF_ : Addr} {n_HALF_ : Nat} {od_HALF_ : Option Addr} {sl_HALF_ : Array (Option Value)} {u_HALF__0 : Tok} {u_HALF__1 : Tok} (y_HALF_ : PySem.W.nsIn K mainGlobals "HALF" = some (some (.ref b_HALF_))) (x_HALF_ : K.lookup b_HALF_ = some ⟨.type "tuple", od_HALF_, .seq ([Value.int 1 u_HALF__0, Value.int 2 u_HALF__1]).toArray n_HALF_, sl_HALF_⟩)
    {t_MOST_UNKNOWNS_ : Tok} (y_MOST_UNKNOWNS_ : PySem.W.nsIn K mainGlobals "MOST_UNKNOWNS" = some (some (.int 8 t_MOST_UNKNOWNS_))) :
    ∃ fd : FuncData, (∀ (s : Shared) (v : Value), BindsTo s fd ⟨[v], []⟩ [("_law_script", v)]) ∧ ∀ base : Heap, K.In base → base.Ns mainGlobals mg → FnOk l.prog w K mg base CX0 8 fa fd ["_law_script"] (spLaw K) := by
  have e := hfa.symm.trans (PySem.W.mg_of X G a21)
  cases e
  let T : Txt K mg := { a_law_big_ := f0, d_law_big_ := _, F_law_big_ := fun_mk (st := s_law_big_) l0 c0 k0, g_law_big_ := PySem.W.mg_of X G a0, a_law_letters_ := f1, d_law_letters_ := _, F_law_letters_ := fun_mk (st := s_law_letters_) l1 c1 k1, g_law_letters_ := PySem.W.mg_of X G a1, a_law_low_ := f2, d_law_low_ := _, F_law_low_ := fun_mk (st := s_law_low_) l2 c2 k2, g_law_low_ := PySem.W.mg_of X G a2, a_law_written_ := f3, d_law_written_ := _, F_law_written_ := fun_mk (st := s_law_written_) l3 c3 k3, g_law_written_ := PySem.W.mg_of X G a3, a_law_terms_ := f4, d_law_terms_ := _, F_law_terms_ := fun_mk (st := s_law_terms_) l4 c4 k4, g_law_terms_ := PySem.W.mg_of X G a4, a_law_times_ := f5, d_law_times_ := _, F_law_times_ := fun_mk (st := s_law_times_) l5 c5 k5, g_law_times_ := PySem.W.mg_of X G a5, a_law_plus_ := f6, d_law_plus_ := _, F_law_plus_ := fun_mk (st := s_law_plus_) l6 c6 k6, g_law_plus_ := PySem.W.mg_of X G a6, a_law_due_ := f7, d_law_due_ := _, F_law_due_ := fun_mk (st := s_law_due_) l7 c7 k7, g_law_due_ := PySem.W.mg_of X G a7, a_read_number_ := f8, d_read_number_ := _, F_read_number_ := fun_mk (st := s_read_number_) l8 c8 k8, g_read_number_ := PySem.W.mg_of X G a8, a_common_ := f9, d_common_ := _, F_common_ := fun_mk (st := s_common_) l9 c9 k9, g_common_ := PySem.W.mg_of X G a9, a_fraction_ := f10, d_fraction_ := _, F_fraction_ := fun_mk (st := s_fraction_) l10 c10 k10, g_fraction_ := PySem.W.mg_of X G a10, a_read_fraction_ := f11, d_read_fraction_ := _, F_read_fraction_ := fun_mk (st := s_read_fraction_) l11 c11 k11, g_read_fraction_ := PySem.W.mg_of X G a11, a_read_term_ := f12, d_read_term_ := _, F_read_term_ := fun_mk (st := s_read_term_) l12 c12 k12, g_read_term_ := PySem.W.mg_of X G a12, a_minus_ := f13, d_minus_ := _, F_minus_ := fun_mk (st := s_minus_) l13 c13 k13, g_minus_ := PySem.W.mg_of X G a13, a_signed_term_ := f14, d_signed_term_ := _, F_signed_term_ := fun_mk (st := s_signed_term_) l14 c14 k14, g_signed_term_ := PySem.W.mg_of X G a14, a_read_terms_ := f15, d_read_terms_ := _, F_read_terms_ := fun_mk (st := s_read_terms_) l15 c15 k15, g_read_terms_ := PySem.W.mg_of X G a15, a_times_ := f16, d_times_ := _, F_times_ := fun_mk (st := s_times_) l16 c16 k16, g_times_ := PySem.W.mg_of X G a16, a_plus_ := f17, d_plus_ := _, F_plus_ := fun_mk (st := s_plus_) l17 c17 k17, g_plus_ := PySem.W.mg_of X G a17, a_read_form_ := f18, d_read_form_ := _, F_read_form_ := fun_mk (st := s_read_form_) l18 c18 k18, g_read_form_ := PySem.W.mg_of X G a18, a_law_whole_ := f19, d_law_whole_ := _, F_law_whole_ := fun_mk (st := s_law_whole_) l19 c19 k19, g_law_whole_ := PySem.W.mg_of X G a19, a_law_is_ := f20, d_law_is_ := _, F_law_is_ := fun_mk (st := s_law_is_) l20 c20 k20, g_law_is_ := PySem.W.mg_of X G a20, a_law_ := fa, d_law_ := _, F_law_ := fun_mk (st := s_law_) l21 c21 k21, g_law_ := PySem.W.mg_of X G a21, n_abs := PySem.W.mg_none_of X G z_abs, n_bool := PySem.W.mg_none_of X G z_bool, n_int := PySem.W.mg_none_of X G z_int, n_isinstance := PySem.W.mg_none_of X G z_isinstance, n_len := PySem.W.mg_none_of X G z_len, n_list := PySem.W.mg_none_of X G z_list, n_max := PySem.W.mg_none_of X G z_max, n_min := PySem.W.mg_none_of X G z_min, n_range := PySem.W.mg_none_of X G z_range, n_str := PySem.W.mg_none_of X G z_str, n_tuple := PySem.W.mg_none_of X G z_tuple, t_FIGURES_ := t_FIGURES_, c_FIGURES_ := PySem.W.mg_of X G y_FIGURES_, t_MOST_FIGURES_ := t_MOST_FIGURES_, c_MOST_FIGURES_ := PySem.W.mg_of X G y_MOST_FIGURES_, t_LETTERS_ := t_LETTERS_, c_LETTERS_ := PySem.W.mg_of X G y_LETTERS_, b_ONE_ := b_ONE_, c_ONE_ := PySem.W.mg_of X G y_ONE_, k_ONE_ := kc_ONE_ x_ONE_, b_NOUGHT_ := b_NOUGHT_, c_NOUGHT_ := PySem.W.mg_of X G y_NOUGHT_, k_NOUGHT_ := kc_NOUGHT_ x_NOUGHT_, b_HALF_ := b_HALF_, c_HALF_ := PySem.W.mg_of X G y_HALF_, k_HALF_ := kc_HALF_ x_HALF_, t_MOST_UNKNOWNS_ := t_MOST_UNKNOWNS_, c_MOST_UNKNOWNS_ := PySem.W.mg_of X G y_MOST_UNKNOWNS_ }
  exact ⟨T.d_law_, fun s v => .of_eq rfl, fun base _ _ => ok_sp T⟩
end Mi
namespace Mi
theorem sz_bits {a : Int} {n : Nat} (h : PySem.Builtin.Int.intBits a ≤ n) : Sz n a := by
  unfold PySem.Builtin.Int.intBits at h
  unfold Sz
  by_cases h0 : a = 0
  · subst h0
    exact Nat.pow_pos (by decide)
  · rw [if_neg (by simpa using h0)] at h
    exact (Nat.log2_lt (by omega)).mp (Nat.lt_of_succ_le h)
open PySem L2
set_option maxHeartbeats 0 in
theorem hd_law {w : World} {K : PySem.W.Frag} {h : Heap} {mg : Str → Option Value} {fa : Addr} (X : K.In h) (G : h.Ns mainGlobals mg) (hfa : mg "law" = some (.ref fa)) (c : hd_Told hdX hdD hdT h K) : LamX.LawAtS PySem.Challenge.rw_everyplace_k73_forms_read w K CX0 8 63 "_law_script" mg fa h := by
  have a0 := hd_gloB_ok (c.fact 0 0 rfl rfl)
  have a1 := hd_gloB_ok (c.fact 0 1 rfl rfl)
  have a2 := hd_gloB_ok (c.fact 0 2 rfl rfl)
  have a3 := hd_gloB_ok (c.fact 0 3 rfl rfl)
  have a4 := hd_gloB_ok (c.fact 0 4 rfl rfl)
  have a5 := hd_gloB_ok (c.fact 0 5 rfl rfl)
  have a6 := hd_gloB_ok (c.fact 0 6 rfl rfl)
  have a7 := hd_gloB_ok (c.fact 0 7 rfl rfl)
  have a8 := hd_gloB_ok (c.fact 0 8 rfl rfl)
  have a9 := hd_gloB_ok (c.fact 0 9 rfl rfl)
  have a10 := hd_gloB_ok (c.fact 0 10 rfl rfl)
  have a11 := hd_gloB_ok (c.fact 0 11 rfl rfl)
  have a12 := hd_gloB_ok (c.fact 0 12 rfl rfl)
  have a13 := hd_gloB_ok (c.fact 0 13 rfl rfl)
  have a14 := hd_gloB_ok (c.fact 0 14 rfl rfl)
  have a15 := hd_gloB_ok (c.fact 0 15 rfl rfl)
  have a16 := hd_gloB_ok (c.fact 0 16 rfl rfl)
  have a17 := hd_gloB_ok (c.fact 0 17 rfl rfl)
  have a18 := hd_gloB_ok (c.fact 0 18 rfl rfl)
  have a19 := hd_gloB_ok (c.fact 0 19 rfl rfl)
  have a20 := hd_gloB_ok (c.fact 0 20 rfl rfl)
  have a21 := hd_gloB_ok (c.fact 0 21 rfl rfl)
  have z_abs := hd_freeB_ok (c.fact 0 22 rfl rfl)
  have z_bool := hd_freeB_ok (c.fact 0 23 rfl rfl)
  have z_int := hd_freeB_ok (c.fact 1 0 rfl rfl)
  have z_isinstance := hd_freeB_ok (c.fact 1 1 rfl rfl)
  have z_len := hd_freeB_ok (c.fact 1 2 rfl rfl)
  have z_list := hd_freeB_ok (c.fact 1 3 rfl rfl)
  have z_max := hd_freeB_ok (c.fact 1 4 rfl rfl)
  have z_min := hd_freeB_ok (c.fact 1 5 rfl rfl)
  have z_range := hd_freeB_ok (c.fact 1 6 rfl rfl)
  have z_str := hd_freeB_ok (c.fact 1 7 rfl rfl)
  have z_tuple := hd_freeB_ok (c.fact 1 8 rfl rfl)
  obtain ⟨t_FIGURES_, y_FIGURES_⟩ := hd_strB_ok (c.fact 1 9 rfl rfl)
  obtain ⟨t_MOST_FIGURES_, y_MOST_FIGURES_⟩ := hd_intB_ok (c.fact 1 10 rfl rfl)
  obtain ⟨t_LETTERS_, y_LETTERS_⟩ := hd_strB_ok (c.fact 1 11 rfl rfl)
  have y_ONE_ := hd_gloB_ok (c.fact 1 12 rfl rfl)
  obtain ⟨_, _, n_ONE_, od_ONE_, sl_ONE_, x_ONE_⟩ := hd_tupB_ok (c.fact 1 13 rfl rfl)
  have y_NOUGHT_ := hd_gloB_ok (c.fact 1 14 rfl rfl)
  obtain ⟨_, _, n_NOUGHT_, od_NOUGHT_, sl_NOUGHT_, x_NOUGHT_⟩ := hd_tupB_ok (c.fact 1 15 rfl rfl)
  have y_HALF_ := hd_gloB_ok (c.fact 1 16 rfl rfl)
  obtain ⟨_, _, n_HALF_, od_HALF_, sl_HALF_, x_HALF_⟩ := hd_tupB_ok (c.fact 1 17 rfl rfl)
  obtain ⟨t_MOST_UNKNOWNS_, y_MOST_UNKNOWNS_⟩ := hd_intB_ok (c.fact 1 18 rfl rfl)
  obtain ⟨oc0, od0, kV0, dc0, pm0, an0, cd0, ct0, sl0, l0, c0, k0⟩ := c.def_ 0 0 rfl rfl rfl
  obtain ⟨oc1, od1, kV1, dc1, pm1, an1, cd1, ct1, sl1, l1, c1, k1⟩ := c.def_ 0 1 rfl rfl rfl
  obtain ⟨oc2, od2, kV2, dc2, pm2, an2, cd2, ct2, sl2, l2, c2, k2⟩ := c.def_ 0 2 rfl rfl rfl
  obtain ⟨oc3, od3, kV3, dc3, pm3, an3, cd3, ct3, sl3, l3, c3, k3⟩ := c.def_ 0 3 rfl rfl rfl
  obtain ⟨oc4, od4, kV4, dc4, pm4, an4, cd4, ct4, sl4, l4, c4, k4⟩ := c.def_ 0 4 rfl rfl rfl
  obtain ⟨oc5, od5, kV5, dc5, pm5, an5, cd5, ct5, sl5, l5, c5, k5⟩ := c.def_ 0 5 rfl rfl rfl
  obtain ⟨oc6, od6, kV6, dc6, pm6, an6, cd6, ct6, sl6, l6, c6, k6⟩ := c.def_ 0 6 rfl rfl rfl
  obtain ⟨oc7, od7, kV7, dc7, pm7, an7, cd7, ct7, sl7, l7, c7, k7⟩ := c.def_ 0 7 rfl rfl rfl
  obtain ⟨oc8, od8, kV8, dc8, pm8, an8, cd8, ct8, sl8, l8, c8, k8⟩ := c.def_ 0 8 rfl rfl rfl
  obtain ⟨oc9, od9, kV9, dc9, pm9, an9, cd9, ct9, sl9, l9, c9, k9⟩ := c.def_ 0 9 rfl rfl rfl
  obtain ⟨oc10, od10, kV10, dc10, pm10, an10, cd10, ct10, sl10, l10, c10, k10⟩ := c.def_ 0 10 rfl rfl rfl
  obtain ⟨oc11, od11, kV11, dc11, pm11, an11, cd11, ct11, sl11, l11, c11, k11⟩ := c.def_ 0 11 rfl rfl rfl
  obtain ⟨oc12, od12, kV12, dc12, pm12, an12, cd12, ct12, sl12, l12, c12, k12⟩ := c.def_ 0 12 rfl rfl rfl
  obtain ⟨oc13, od13, kV13, dc13, pm13, an13, cd13, ct13, sl13, l13, c13, k13⟩ := c.def_ 0 13 rfl rfl rfl
  obtain ⟨oc14, od14, kV14, dc14, pm14, an14, cd14, ct14, sl14, l14, c14, k14⟩ := c.def_ 0 14 rfl rfl rfl
  obtain ⟨oc15, od15, kV15, dc15, pm15, an15, cd15, ct15, sl15, l15, c15, k15⟩ := c.def_ 0 15 rfl rfl rfl
  obtain ⟨oc16, od16, kV16, dc16, pm16, an16, cd16, ct16, sl16, l16, c16, k16⟩ := c.def_ 0 16 rfl rfl rfl
  obtain ⟨oc17, od17, kV17, dc17, pm17, an17, cd17, ct17, sl17, l17, c17, k17⟩ := c.def_ 0 17 rfl rfl rfl
  obtain ⟨oc18, od18, kV18, dc18, pm18, an18, cd18, ct18, sl18, l18, c18, k18⟩ := c.def_ 0 18 rfl rfl rfl
  obtain ⟨oc19, od19, kV19, dc19, pm19, an19, cd19, ct19, sl19, l19, c19, k19⟩ := c.def_ 0 19 rfl rfl rfl
  obtain ⟨oc20, od20, kV20, dc20, pm20, an20, cd20, ct20, sl20, l20, c20, k20⟩ := c.def_ 0 20 rfl rfl rfl
  obtain ⟨oc21, od21, kV21, dc21, pm21, an21, cd21, ct21, sl21, l21, c21, k21⟩ := c.def_ 0 21 rfl rfl rfl
  exact hd_lawAt_of (sp := spLaw K) (fun H a ns hl hb hS => ⟨a, ns, rfl, hS, hl, law_true ns hl (fun z hz => sz_bits (hb z hz)), fun _ => rfl⟩) (all_mk (l := PySem.Challenge.rw_everyplace_k73_forms_read) X G hfa a0 l0 c0 k0 a1 l1 c1 k1 a2 l2 c2 k2 a3 l3 c3 k3 a4 l4 c4 k4 a5 l5 c5 k5 a6 l6 c6 k6 a7 l7 c7 k7 a8 l8 c8 k8 a9 l9 c9 k9 a10 l10 c10 k10 a11 l11 c11 k11 a12 l12 c12 k12 a13 l13 c13 k13 a14 l14 c14 k14 a15 l15 c15 k15 a16 l16 c16 k16 a17 l17 c17 k17 a18 l18 c18 k18 a19 l19 c19 k19 a20 l20 c20 k20 a21 l21 c21 k21 z_abs z_bool z_int z_isinstance z_len z_list z_max z_min z_range z_str z_tuple y_FIGURES_ y_MOST_FIGURES_ y_LETTERS_ y_ONE_ x_ONE_ y_NOUGHT_ x_NOUGHT_ y_HALF_ x_HALF_ y_MOST_UNKNOWNS_)
end Mi
open PySem PySem.W PySem.Calls PyProof.Rows
set_option maxHeartbeats 0 in
theorem PySem.Challenge.cw_everyplace_k73_forms_read_holds : PySem.Challenge.rw_everyplace_k73_forms_read.Holds := by
  w_on; o_law
  refine HandSHeadRun.head_any (r := OpenLaw.row PySem.Challenge.rw_everyplace_k73_forms_read) (q := Mi.hdQ) (H := Mi.hd_hookM Mi.hdX Mi.hdD Mi.hdT) (ob := Mi.hd_obM Mi.hdX Mi.hdD Mi.hdT) (M := 30000) (loose := Mi.hdN) (kwd := []) (Mi.hd_obM_eq Mi.hdX Mi.hdD Mi.hdT) (by kernel_rfl) (fun s => by kernel_rfl) Mi.hd_run (by rfl) (by rfl) (by rfl) (by rfl) (by first | assumption | decide +kernel) (by decide +kernel) ⟨rfl, rfl, rfl, rfl, rfl, by decide +kernel⟩ ?hw ?hc
  case hw => w_witness2
  case hc =>
    refine LamX.walk_ofTsE (l := PySem.Challenge.rw_everyplace_k73_forms_read) (n := 63) (k := 8) (x := "_law_script") (CX := fun _ => L2.CX0) rfl (by decide) (by kernel_rfl) ⟨rfl, by decide, by decide⟩ ?F (fun _ _ _ _ _ z => z)
    intro w mg fa h Y G hm
    obtain ⟨K, X, c⟩ := Y
    have hm2 : mg ("law" : PySem.Str) = some (.ref fa) := by
      have e : (HandSHeadRun.topDef (OpenLaw.row PySem.Challenge.rw_everyplace_k73_forms_read).prog 34).name = ("law" : PySem.Str) := by kernel_rfl
      rw [← e]
      exact hm
    exact ⟨K, X, Mi.hd_law X G hm2 c⟩

