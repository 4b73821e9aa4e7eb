import PyProof.Rows.All
import Wide.All
import OpenK.AllK
import Wide.FinOn
import HandS.ForMost
import HandS.SortOrd
import HandS.Deep
import HandS.TupAny
import HandS.WordsDict
import HandS.RaiseMore
import PyProof.FitsInt
import HandS.WordsExc
import HandS.IsInst
import HandS.Flow
import HandS.DictComp
import HandS.Property
import HandS.HeadWalk
import HandS.Strs
import HandS.SortKw
import HandS.SortRule
import HandS.SortInts
import KE.DatumOrd
import HandS.Style
import HandS.Sort
import HandS.Finally
import HandS.Small
import HandS.Defaults
import HandS.HeadHook2
import HandS.Head2
import HandS.HeadEnd
import HandS.EndTab
import PySem.Challenge.RW_risingbars_k10_first_ways
set_option Elab.async false
set_option linter.all false
set_option maxRecDepth 100000
set_option maxHeartbeats 4000000
/-! Trees as values, and how they lie in the abstract heap. -/
namespace Rb
open PySem
open PySem.Spec
open PyProof.Rows
open L2
/-- what a node is -/
inductive Tag where
  | tup | lst | ext | dk (ks : List Key) | dt (ks : List (List Key)) | obj (C : String) (fs : List String)
  deriving DecidableEq
/-- a value as a tree; a node's mark: owned alone (true), or to be read only -/
inductive T where
  | non | bl (b : Bool) | int (i : Int) | str (x : Str) | nd (g : Tag) (o : Bool) (xs : List T)
/-- a text of the machine -/
def sOk (x : Str) : Prop := x.length ≤ sizeLine ∧ PyData.strOk x = true
/-- the classes' addresses by name -/
abbrev CA := String → Option Addr
section
variable (c : CA) (K : PySem.W.Frag)
/-- what is read at an address -/
def At (J : Hp) (a : Addr) : Tag → List V → Prop
  | .tup, vs => J a = some (.tup vs)
  | .lst, vs => J a = some (.lst vs)
  | .ext, vs => SqL K J a vs
  | .dk ks, vs => J a = some (.dK (ks.zip vs)) ∧ ks.length = vs.length
  | .dt ks, vs => J a = some (.dT (ks.zip vs)) ∧ ks.length = vs.length
  | .obj C fs, vs => ∃ (Ca dx : Addr), c C = some Ca ∧ J a = some (.ins Ca dx ((fs.map Str.ofString).zip vs)) ∧ fs.length = vs.length
/-- what stands there and may be changed -/
def AtO (H : Hp) (a : Addr) : Tag → List V → Prop
  | .ext, _ => False
  | g, vs => At c K H a g vs
mutual
/-- v shows the tree in J -/
def RS (J : Hp) : T → V → Prop
  | .non, v => v = .non
  | .bl b, v => v = .bl b
  | .int i, v => v = .int i
  | .str x, v => v = .str x ∧ sOk x
  | .nd g _ xs, v => ∃ (a : Addr) (vs : List V), v = .ref a ∧ At c K J a g vs ∧ RSs J xs vs
def RSs (J : Hp) : List T → List V → Prop
  | [], vs => vs = []
  | t :: ts, vs => ∃ (v : V) (r : List V), vs = v :: r ∧ RS J t v ∧ RSs J ts r
end
mutual
/-- v shows the tree: its owned nodes in H (at F, not in J), all else in J -/
def RO (J H : Hp) : T → V → List Addr → Prop
  | .nd g o xs, v, F => match o with
    | false => (∃ (a : Addr) (vs : List V), v = .ref a ∧ At c K J a g vs ∧ RSs c K J xs vs) ∧ F = []
    | true => match g with
      | .tup => ∃ (a : Addr) (vs : List V), v = .ref a ∧ At c K J a .tup vs ∧ ROs J H xs vs F
      | g => ∃ (a : Addr) (vs : List V) (F' : List Addr), v = .ref a ∧ AtO c K H a g vs ∧ J a = none ∧ F = a :: F' ∧ ROs J H xs vs F'
  | .non, v, F => v = .non ∧ F = []
  | .bl b, v, F => v = .bl b ∧ F = []
  | .int i, v, F => v = .int i ∧ F = []
  | .str x, v, F => (v = .str x ∧ sOk x) ∧ F = []
def ROs (J H : Hp) : List T → List V → List Addr → Prop
  | [], vs, F => vs = [] ∧ F = []
  | t :: ts, vs, F => ∃ (v : V) (r : List V) (F1 F2 : List Addr), vs = v :: r ∧ F = F1 ++ F2 ∧ RO J H t v F1 ∧ ROs J H ts r F2
end
end
mutual
def strip : T → T
  | .nd g _ xs => .nd g false (strips xs)
  | .non => .non
  | .bl b => .bl b
  | .int i => .int i
  | .str x => .str x
def strips : List T → List T
  | [] => []
  | t :: ts => strip t :: strips ts
end
theorem strips_map : ∀ xs : List T, strips xs = xs.map strip
  | [] => rfl
  | x :: xs => by rw [strips, strips_map xs]; rfl
mutual
/-- nothing but tuples of what has no address -/
def flat : T → Bool
  | .nd .tup _ xs => flats xs
  | .nd _ _ _ => false
  | _ => true
def flats : List T → Bool
  | [] => true
  | t :: ts => flat t && flats ts
end
mutual
/-- owned alone: whatever is only read is flat -/
def own : T → Bool
  | .nd .tup true xs => owns xs
  | .nd .tup false xs => flats xs
  | .nd .ext _ _ => false
  | .nd _ o xs => o && owns xs
  | _ => true
def owns : List T → Bool
  | [] => true
  | t :: ts => own t && owns ts
end
mutual
/-- nothing owned in it: all is read -/
def shr : T → Bool
  | .nd _ o xs => !o && shrs xs
  | _ => true
def shrs : List T → Bool
  | [] => true
  | t :: ts => shr t && shrs ts
end
section
variable {c : CA} {K : PySem.W.Frag} {J H J' H' : Hp}
theorem At.mono {a : Addr} {g : Tag} {vs : List V} (s : Same J J') (h : At c K J a g vs) : At c K J' a g vs := by
  cases g with
  | tup => exact s _ _ h
  | lst => exact s _ _ h
  | ext => exact s.seq h
  | dk ks => exact ⟨s _ _ h.1, h.2⟩
  | dt ks => exact ⟨s _ _ h.1, h.2⟩
  | obj C fs =>
    obtain ⟨Ca, dx, h1, h2, h3⟩ := h
    exact ⟨Ca, dx, h1, s _ _ h2, h3⟩
theorem AtO.at {a : Addr} {g : Tag} {vs : List V} (h : AtO c K H a g vs) : At c K H a g vs := by
  cases g with
  | ext => exact h.elim
  | _ => exact h
theorem AtO.at_of {a : Addr} {g : Tag} {vs : List V} (e : J a = H a) (h : AtO c K H a g vs) : At c K J a g vs := by
  cases g with
  | lst => exact e.trans h
  | ext => exact h.elim
  | tup => exact e.trans h
  | dk ks => exact ⟨e.trans h.1, h.2⟩
  | dt ks => exact ⟨e.trans h.1, h.2⟩
  | obj C fs =>
    obtain ⟨Ca, dx, h1, h2, h3⟩ := h
    exact ⟨Ca, dx, h1, e.trans h2, h3⟩
theorem AtO.stay {a : Addr} {g : Tag} {vs : List V} (e : H' a = H a) (h : AtO c K H a g vs) : AtO c K H' a g vs := by
  cases g with
  | lst => exact e.trans h
  | ext => exact h.elim
  | tup => exact e.trans h
  | dk ks => exact ⟨e.trans h.1, h.2⟩
  | dt ks => exact ⟨e.trans h.1, h.2⟩
  | obj C fs =>
    obtain ⟨Ca, dx, h1, h2, h3⟩ := h
    exact ⟨Ca, dx, h1, e.trans h2, h3⟩
mutual
theorem RS.mono (s : Same J J') : ∀ (t : T) (v : V), RS c K J t v → RS c K J' t v
  | .non, v, h => by simpa only [RS] using h
  | .bl b, v, h => by simpa only [RS] using h
  | .int i, v, h => by simpa only [RS] using h
  | .str x, v, h => by simpa only [RS] using h
  | .nd g o xs, v, h => by
    simp only [RS] at h ⊢
    obtain ⟨a, vs, e, h1, h2⟩ := h
    exact ⟨a, vs, e, h1.mono s, RSs.mono s xs vs h2⟩
theorem RSs.mono (s : Same J J') : ∀ (ts : List T) (vs : List V), RSs c K J ts vs → RSs c K J' ts vs
  | [], vs, h => by simpa only [RSs] using h
  | t :: ts, vs, h => by
    simp only [RSs] at h ⊢
    obtain ⟨v, r, e, h1, h2⟩ := h
    exact ⟨v, r, e, RS.mono s t v h1, RSs.mono s ts r h2⟩
end
mutual
theorem RS_strip : ∀ (t : T) (v : V), RS c K J (strip t) v ↔ RS c K J t v
  | .non, v => Iff.rfl
  | .bl b, v => Iff.rfl
  | .int i, v => Iff.rfl
  | .str x, v => Iff.rfl
  | .nd g o xs, v => by
    simp only [RS, strip]
    constructor
    · rintro ⟨a, vs, e, h1, h2⟩
      exact ⟨a, vs, e, h1, (RSs_strips xs vs).mp h2⟩
    · rintro ⟨a, vs, e, h1, h2⟩
      exact ⟨a, vs, e, h1, (RSs_strips xs vs).mpr h2⟩
theorem RSs_strips : ∀ (ts : List T) (vs : List V), RSs c K J (strips ts) vs ↔ RSs c K J ts vs
  | [], vs => Iff.rfl
  | t :: ts, vs => by
    simp only [RSs, strips]
    constructor
    · rintro ⟨v, r, e, h1, h2⟩
      exact ⟨v, r, e, (RS_strip t v).mp h1, (RSs_strips ts r).mp h2⟩
    · rintro ⟨v, r, e, h1, h2⟩
      exact ⟨v, r, e, (RS_strip t v).mpr h1, (RSs_strips ts r).mpr h2⟩
end
/-! what is owned, as what is read: J is wide enough -/
mutual
theorem RO.rs (s : Same J J') : ∀ (t : T) (v : V) (F : List Addr), (∀ a ∈ F, J' a = H a) → RO c K J H t v F → RS c K J' t v
  | .non, v, F, _, h => by simp only [RO] at h; simp only [RS]; exact h.1
  | .bl b, v, F, _, h => by simp only [RO] at h; simp only [RS]; exact h.1
  | .int i, v, F, _, h => by simp only [RO] at h; simp only [RS]; exact h.1
  | .str x, v, F, _, h => by simp only [RO] at h; simp only [RS]; exact h.1
  | .nd g o xs, v, F, hF, h => by
    simp only [RO] at h
    simp only [RS]
    cases o with
    | false =>
      obtain ⟨⟨a, vs, e, h1, h2⟩, _⟩ := h
      exact ⟨a, vs, e, h1.mono s, RSs.mono s xs vs h2⟩
    | true =>
      cases g with
      | tup =>
        obtain ⟨a, vs, e, h1, h2⟩ := h
        exact ⟨a, vs, e, h1.mono s, ROs.rs s xs vs F hF h2⟩
      | lst =>
        obtain ⟨a, vs, F', e, h1, h2, rfl, h4⟩ := h
        exact ⟨a, vs, e, h1.at_of (hF a List.mem_cons_self), ROs.rs s xs vs F' (fun b hb => hF b (List.mem_cons_of_mem _ hb)) h4⟩
      | ext =>
        obtain ⟨a, vs, F', e, h1, h2, rfl, h4⟩ := h
        exact h1.elim
      | dk ks =>
        obtain ⟨a, vs, F', e, h1, h2, rfl, h4⟩ := h
        exact ⟨a, vs, e, h1.at_of (hF a List.mem_cons_self), ROs.rs s xs vs F' (fun b hb => hF b (List.mem_cons_of_mem _ hb)) h4⟩
      | dt ks =>
        obtain ⟨a, vs, F', e, h1, h2, rfl, h4⟩ := h
        exact ⟨a, vs, e, h1.at_of (hF a List.mem_cons_self), ROs.rs s xs vs F' (fun b hb => hF b (List.mem_cons_of_mem _ hb)) h4⟩
      | obj C fs =>
        obtain ⟨a, vs, F', e, h1, h2, rfl, h4⟩ := h
        exact ⟨a, vs, e, h1.at_of (hF a List.mem_cons_self), ROs.rs s xs vs F' (fun b hb => hF b (List.mem_cons_of_mem _ hb)) h4⟩
theorem ROs.rs (s : Same J J') : ∀ (ts : List T) (vs : List V) (F : List Addr), (∀ a ∈ F, J' a = H a) → ROs c K J H ts vs F → RSs c K J' ts vs
  | [], vs, F, _, h => by simp only [ROs] at h; simp only [RSs]; exact h.1
  | t :: ts, vs, F, hF, h => by
    simp only [ROs] at h
    simp only [RSs]
    obtain ⟨v, r, F1, F2, e, rfl, h1, h2⟩ := h
    exact ⟨v, r, e, RO.rs s t v F1 (fun b hb => hF b (List.mem_append_left _ hb)) h1, ROs.rs s ts r F2 (fun b hb => hF b (List.mem_append_right _ hb)) h2⟩
end
/-! what is owned stays: J grows elsewhere, H stands at F -/
mutual
theorem RO.mono (s : Same J J') : ∀ (t : T) (v : V) (F : List Addr), (∀ a ∈ F, J' a = none ∧ H' a = H a) → RO c K J H t v F → RO c K J' H' t v F
  | .non, v, F, _, h => by simpa only [RO] using h
  | .bl b, v, F, _, h => by simpa only [RO] using h
  | .int i, v, F, _, h => by simpa only [RO] using h
  | .str x, v, F, _, h => by simpa only [RO] using h
  | .nd g o xs, v, F, hF, h => by
    simp only [RO] at h ⊢
    cases o with
    | false =>
      obtain ⟨⟨a, vs, e, h1, h2⟩, h3⟩ := h
      exact ⟨⟨a, vs, e, h1.mono s, RSs.mono s xs vs h2⟩, h3⟩
    | true =>
      cases g with
      | tup =>
        obtain ⟨a, vs, e, h1, h2⟩ := h
        exact ⟨a, vs, e, h1.mono s, ROs.mono s xs vs F hF h2⟩
      | lst =>
        obtain ⟨a, vs, F', e, h1, h2, rfl, h4⟩ := h
        exact ⟨a, vs, F', e, h1.stay (hF a List.mem_cons_self).2, (hF a List.mem_cons_self).1, rfl, ROs.mono s xs vs F' (fun b hb => hF b (List.mem_cons_of_mem _ hb)) h4⟩
      | ext =>
        obtain ⟨a, vs, F', e, h1, h2, rfl, h4⟩ := h
        exact h1.elim
      | dk ks =>
        obtain ⟨a, vs, F', e, h1, h2, rfl, h4⟩ := h
        exact ⟨a, vs, F', e, h1.stay (hF a List.mem_cons_self).2, (hF a List.mem_cons_self).1, rfl, ROs.mono s xs vs F' (fun b hb => hF b (List.mem_cons_of_mem _ hb)) h4⟩
      | dt ks =>
        obtain ⟨a, vs, F', e, h1, h2, rfl, h4⟩ := h
        exact ⟨a, vs, F', e, h1.stay (hF a List.mem_cons_self).2, (hF a List.mem_cons_self).1, rfl, ROs.mono s xs vs F' (fun b hb => hF b (List.mem_cons_of_mem _ hb)) h4⟩
      | obj C fs =>
        obtain ⟨a, vs, F', e, h1, h2, rfl, h4⟩ := h
        exact ⟨a, vs, F', e, h1.stay (hF a List.mem_cons_self).2, (hF a List.mem_cons_self).1, rfl, ROs.mono s xs vs F' (fun b hb => hF b (List.mem_cons_of_mem _ hb)) h4⟩
theorem ROs.mono (s : Same J J') : ∀ (ts : List T) (vs : List V) (F : List Addr), (∀ a ∈ F, J' a = none ∧ H' a = H a) → ROs c K J H ts vs F → ROs c K J' H' ts vs F
  | [], vs, F, _, h => by simpa only [ROs] using h
  | t :: ts, vs, F, hF, h => by
    simp only [ROs] at h ⊢
    obtain ⟨v, r, F1, F2, e, rfl, h1, h2⟩ := h
    exact ⟨v, r, F1, F2, e, rfl, RO.mono s t v F1 (fun b hb => hF b (List.mem_append_left _ hb)) h1, ROs.mono s ts r F2 (fun b hb => hF b (List.mem_append_right _ hb)) h2⟩
end
/-! a stripped tree is owned nowhere -/
mutual
theorem RO_strip : ∀ (t : T) (v : V), RS c K J t v → RO c K J H (strip t) v []
  | .non, v, h => by simp only [RS] at h; simp only [strip, RO]; exact ⟨h, trivial⟩
  | .bl b, v, h => by simp only [RS] at h; simp only [strip, RO]; exact ⟨h, trivial⟩
  | .int i, v, h => by simp only [RS] at h; simp only [strip, RO]; exact ⟨h, trivial⟩
  | .str x, v, h => by simp only [RS] at h; simp only [strip, RO]; exact ⟨h, trivial⟩
  | .nd g o xs, v, h => by
    simp only [RS] at h
    simp only [strip, RO]
    obtain ⟨a, vs, e, h1, h2⟩ := h
    exact ⟨⟨a, vs, e, h1, (RSs_strips xs vs).mpr h2⟩, trivial⟩
end
mutual
/-- a flat tree hangs on the tuples alone -/
theorem RS.flat (k : ∀ a xs, J a = some (.tup xs) → J' a = some (.tup xs)) : ∀ (t : T) (v : V), flat t = true → RS c K J t v → RS c K J' t v
  | .non, v, _, h => by simpa only [RS] using h
  | .bl b, v, _, h => by simpa only [RS] using h
  | .int i, v, _, h => by simpa only [RS] using h
  | .str x, v, _, h => by simpa only [RS] using h
  | .nd g o xs, v, f, h => by
    cases g with
    | tup =>
      simp only [Rb.flat] at f
      simp only [RS, At] at h ⊢
      obtain ⟨a, vs, e, h1, h2⟩ := h
      exact ⟨a, vs, e, k _ _ h1, RSs.flats k xs vs f h2⟩
    | _ => simp [Rb.flat] at f
theorem RSs.flats (k : ∀ a xs, J a = some (.tup xs) → J' a = some (.tup xs)) : ∀ (ts : List T) (vs : List V), flats ts = true → RSs c K J ts vs → RSs c K J' ts vs
  | [], vs, _, h => by simpa only [RSs] using h
  | t :: ts, vs, f, h => by
    simp only [Rb.flats, Bool.and_eq_true] at f
    simp only [RSs] at h ⊢
    obtain ⟨v, r, e, h1, h2⟩ := h
    exact ⟨v, r, e, RS.flat k t v f.1 h1, RSs.flats k ts r f.2 h2⟩
end
mutual
/-- a tree that is owned alone hangs on the tuples and on F -/
theorem RO.own (k : ∀ a xs, J a = some (.tup xs) → J' a = some (.tup xs)) : ∀ (t : T) (v : V) (F : List Addr), own t = true → (∀ a ∈ F, J' a = none) → RO c K J H t v F → RO c K J' H t v F
  | .non, v, F, _, _, h => by simpa only [RO] using h
  | .bl b, v, F, _, _, h => by simpa only [RO] using h
  | .int i, v, F, _, _, h => by simpa only [RO] using h
  | .str x, v, F, _, _, h => by simpa only [RO] using h
  | .nd g o xs, v, F, f, hF, h => by
    simp only [RO] at h ⊢
    cases o with
    | false =>
      cases g with
      | tup =>
        simp only [Rb.own] at f
        obtain ⟨⟨a, vs, e, h1, h2⟩, h3⟩ := h
        exact ⟨⟨a, vs, e, k _ _ h1, RSs.flats k xs vs f h2⟩, h3⟩
      | _ => simp [Rb.own] at f
    | true =>
      cases g with
      | tup =>
        simp only [Rb.own] at f
        obtain ⟨a, vs, e, h1, h2⟩ := h
        exact ⟨a, vs, e, k _ _ h1, ROs.owns k xs vs F f hF h2⟩
      | lst =>
        simp only [Rb.own, Bool.true_and] at f
        obtain ⟨a, vs, F', e, h1, h2, rfl, h4⟩ := h
        exact ⟨a, vs, F', e, h1, hF a List.mem_cons_self, rfl, ROs.owns k xs vs F' f (fun b hb => hF b (List.mem_cons_of_mem _ hb)) h4⟩
      | ext =>
        obtain ⟨a, vs, F', e, h1, h2, rfl, h4⟩ := h
        exact h1.elim
      | dk ks =>
        simp only [Rb.own, Bool.true_and] at f
        obtain ⟨a, vs, F', e, h1, h2, rfl, h4⟩ := h
        exact ⟨a, vs, F', e, h1, hF a List.mem_cons_self, rfl, ROs.owns k xs vs F' f (fun b hb => hF b (List.mem_cons_of_mem _ hb)) h4⟩
      | dt ks =>
        simp only [Rb.own, Bool.true_and] at f
        obtain ⟨a, vs, F', e, h1, h2, rfl, h4⟩ := h
        exact ⟨a, vs, F', e, h1, hF a List.mem_cons_self, rfl, ROs.owns k xs vs F' f (fun b hb => hF b (List.mem_cons_of_mem _ hb)) h4⟩
      | obj C fs =>
        simp only [Rb.own, Bool.true_and] at f
        obtain ⟨a, vs, F', e, h1, h2, rfl, h4⟩ := h
        exact ⟨a, vs, F', e, h1, hF a List.mem_cons_self, rfl, ROs.owns k xs vs F' f (fun b hb => hF b (List.mem_cons_of_mem _ hb)) h4⟩
theorem ROs.owns (k : ∀ a xs, J a = some (.tup xs) → J' a = some (.tup xs)) : ∀ (ts : List T) (vs : List V) (F : List Addr), owns ts = true → (∀ a ∈ F, J' a = none) → ROs c K J H ts vs F → ROs c K J' H ts vs F
  | [], vs, F, _, _, h => by simpa only [ROs] using h
  | t :: ts, vs, F, f, hF, h => by
    simp only [Rb.owns, Bool.and_eq_true] at f
    simp only [ROs] at h ⊢
    obtain ⟨v, r, F1, F2, e, rfl, h1, h2⟩ := h
    exact ⟨v, r, F1, F2, e, rfl, RO.own k t v F1 f.1 (fun b hb => hF b (List.mem_append_left _ hb)) h1, ROs.owns k ts r F2 f.2 (fun b hb => hF b (List.mem_append_right _ hb)) h2⟩
end
theorem RSs.length : ∀ {ts : List T} {vs : List V}, RSs c K J ts vs → ts.length = vs.length
  | [], vs, h => by simp only [RSs] at h; subst h; rfl
  | t :: ts, vs, h => by
    simp only [RSs] at h
    obtain ⟨v, r, rfl, h1, h2⟩ := h
    simp [RSs.length h2]
theorem ROs.length : ∀ {ts : List T} {vs : List V} {F : List Addr}, ROs c K J H ts vs F → ts.length = vs.length
  | [], vs, F, h => by simp only [ROs] at h; obtain ⟨rfl, _⟩ := h; rfl
  | t :: ts, vs, F, h => by
    simp only [ROs] at h
    obtain ⟨v, r, F1, F2, rfl, _, h1, h2⟩ := h
    simp [ROs.length h2]
theorem RSs.get : ∀ {ts : List T} {vs : List V} {i : Nat} {t : T}, RSs c K J ts vs → ts[i]? = some t → ∃ v, vs[i]? = some v ∧ RS c K J t v
  | [], _, _, _, _, e => by simp at e
  | t :: ts, vs, 0, t', h, e => by
    simp only [RSs] at h
    obtain ⟨v, r, rfl, h1, h2⟩ := h
    simp at e; subst e
    exact ⟨v, rfl, h1⟩
  | t :: ts, vs, i + 1, t', h, e => by
    simp only [RSs] at h
    obtain ⟨v, r, rfl, h1, h2⟩ := h
    obtain ⟨v', e1, e2⟩ := RSs.get (i := i) h2 (by simpa using e)
    exact ⟨v', by simpa using e1, e2⟩
theorem RSs.append : ∀ {ts us : List T} {vs ws : List V}, RSs c K J ts vs → RSs c K J us ws → RSs c K J (ts ++ us) (vs ++ ws)
  | [], us, vs, ws, h, h' => by simp only [RSs] at h; subst h; exact h'
  | t :: ts, us, vs, ws, h, h' => by
    simp only [RSs] at h
    obtain ⟨v, r, rfl, h1, h2⟩ := h
    simp only [List.cons_append, RSs]
    exact ⟨v, r ++ ws, rfl, h1, RSs.append h2 h'⟩
theorem ROs.append : ∀ {ts us : List T} {vs ws : List V} {F F' : List Addr}, ROs c K J H ts vs F → ROs c K J H us ws F' → ROs c K J H (ts ++ us) (vs ++ ws) (F ++ F')
  | [], us, vs, ws, F, F', h, h' => by simp only [ROs] at h; obtain ⟨rfl, rfl⟩ := h; exact h'
  | t :: ts, us, vs, ws, F, F', h, h' => by
    simp only [ROs] at h
    obtain ⟨v, r, F1, F2, rfl, rfl, h1, h2⟩ := h
    simp only [List.cons_append, ROs]
    exact ⟨v, r ++ ws, F1, F2 ++ F', rfl, by simp, h1, ROs.append h2 h'⟩
theorem RSs.ros : ∀ {ts : List T} {vs : List V}, RSs c K J ts vs → ROs c K J H (ts.map strip) vs []
  | [], vs, h => by simp only [RSs] at h; subst h; simp only [List.map, ROs]; exact ⟨trivial, trivial⟩
  | t :: ts, vs, h => by
    simp only [RSs] at h
    obtain ⟨v, r, rfl, h1, h2⟩ := h
    simp only [List.map, ROs]
    exact ⟨v, r, [], [], rfl, rfl, RO_strip t v h1, RSs.ros h2⟩
theorem RSs.mem_sub {ts : List T} {vs : List V} (h : RSs c K J ts vs) (i j : Nat) : RSs c K J ((ts.drop i).take j) ((vs.drop i).take j) := by
  induction ts generalizing vs i j with
  | nil =>
    simp only [RSs] at h
    subst h
    simp [RSs]
  | cons t ts ih =>
    simp only [RSs] at h
    obtain ⟨v, r, rfl, h1, h2⟩ := h
    cases i with
    | zero =>
      cases j with
      | zero => simp [RSs]
      | succ j =>
        have := ih h2 0 j
        simp only [List.drop_zero] at this
        simp only [List.drop_zero, List.take_succ_cons, RSs]
        exact ⟨v, _, rfl, h1, this⟩
    | succ i => simpa using ih h2 i j
end
end Rb
/-! The little language: its expressions and what they are worth. -/
namespace Rb
open PySem
open PySem.Spec
open PyProof.Rows
open L2
/-- an error in flight -/
structure Exn where
  cls : String
  fs : List (String × T)
inductive R (α : Type) where
  | ok (a : α) | err (e : Exn) | bad
def R.bnd {α β : Type} (r : R α) (f : α → R β) : R β := match r with
  | .ok a => f a
  | .err e => .err e
  | .bad => .bad
instance : Monad R where
  pure := .ok
  bind := R.bnd
@[simp] theorem R.ok_bind {α β : Type} (a : α) (f : α → R β) : (R.ok a >>= f) = f a := rfl
@[simp] theorem R.err_bind {α β : Type} (e : Exn) (f : α → R β) : ((R.err e : R α) >>= f) = .err e := rfl
@[simp] theorem R.bad_bind {α β : Type} (f : α → R β) : ((R.bad : R α) >>= f) = .bad := rfl
@[simp] theorem R.pure_eq {α : Type} (a : α) : (pure a : R α) = .ok a := rfl
/-- no error can leave from here -/
def R.calm {α : Type} : R α → R α
  | .ok a => .ok a
  | _ => .bad
@[simp] theorem R.calm_ok {α : Type} (a : α) : (R.ok a).calm = .ok a := rfl
@[simp] theorem R.calm_err {α : Type} (e : Exn) : (R.err e : R α).calm = .bad := rfl
@[simp] theorem R.calm_bad {α : Type} : (R.bad : R α).calm = .bad := rfl
abbrev Env := List (Option T)
/-- a tuple: marked as owned only where some item of it is no flat one -/
def mkTup (xs : List T) : T := .nd .tup (!flats xs) xs
def mulI (i : Int) : Bool := decide (-(2 ^ 64) < i) && decide (i < 2 ^ 64)
def truth : T → R Bool
  | .non => .ok false
  | .bl b => .ok b
  | .int i => .ok (i != 0)
  | .str x => .ok ((x.length : Int) != 0)
  | .nd .lst _ xs => .ok (!xs.isEmpty)
  | .nd .tup _ xs => .ok (!xs.isEmpty)
  | .nd (.dk ks) _ _ => .ok (!ks.isEmpty)
  | _ => .bad
def binT : Operator → T → T → R T
  | .Add, .int i, .int j => .ok (.int (i + j))
  | .Add, .str x, .str y => if x.length + y.length ≤ sizeLine then .ok (.str (x ++ y)) else .bad
  | .Add, .nd .lst _ xs, .nd .lst _ ys => if xs.length + ys.length ≤ sizeLine then .ok (.nd .lst true (strips xs ++ strips ys)) else .bad
  | .Add, .nd .tup _ xs, .nd .tup _ ys => if xs.length + ys.length ≤ sizeLine then .ok (mkTup (strips xs ++ strips ys)) else .bad
  | .Sub, .int i, .int j => .ok (.int (i - j))
  | .Mult, .int i, .int j => if mulI i || mulI j then .ok (.int (i * j)) else .bad
  | .Mult, .nd .lst _ xs, .int k => if -(2 ^ 63) ≤ k ∧ k < 2 ^ 63 ∧ xs.length * k.toNat ≤ sizeLine then .ok (.nd .lst true (List.replicate k.toNat (strips xs)).flatten) else .bad
  | .FloorDiv, .int i, .int j => if 0 < j ∧ j < 1073741824 then .ok (.int (i / j)) else .bad
  | .Mod, .int i, .int j => if 0 < j then .ok (.int (i % j)) else .bad
  | .Pow, .int i, .int j => if 0 ≤ j ∧ j ≤ 1000000 ∧ i.natAbs < 2 ^ 64 then .ok (.int (i ^ j.toNat)) else .bad
  | _, _, _ => .bad
/-- a key of a dict, of a dict of tuples -/
def keyT : T → Option Key
  | .int i => some (.inl i)
  | .str x => some (.inr x)
  | _ => none
def keysT : List T → Option (List Key)
  | [] => some []
  | t :: ts => match keyT t, keysT ts with
    | some k, some ks => some (k :: ks)
    | _, _ => none
def keyO : Key → T
  | .inl i => .int i
  | .inr x => .str x
def getK {κ : Type} [DecidableEq κ] : List κ → List T → κ → Option T
  | k :: ks, t :: ts, q => if k = q then some t else getK ks ts q
  | _, _, _ => none
/-- what a dict has at a key; none: no such key -/
def dgetT : T → T → R (Option T)
  | .nd (.dk ks) _ xs, k => match keyT k with
    | some q => .ok (getK ks xs q)
    | none => .bad
  | .nd (.dt ks) _ xs, .nd .tup _ ys => match keysT ys with
    | some q => .ok (getK ks xs q)
    | none => .bad
  | _, _ => .bad
mutual
/-- == of data (no instances) -/
def eqT : T → T → Bool
  | .non, .non => true
  | .bl a, .bl b => a == b
  | .int a, .int b => a == b
  | .bl a, .int b => (if a then 1 else 0) == b
  | .int a, .bl b => a == (if b then 1 else 0)
  | .str a, .str b => a == b
  | .nd .tup _ xs, .nd .tup _ ys => eqTs xs ys
  | .nd .lst _ xs, .nd .lst _ ys => eqTs xs ys
  | .nd (.dk ks) _ xs, .nd (.dk ls) _ ys => ks.length == ls.length && eqDs ks xs ls ys
  | .nd (.dt ks) _ xs, .nd (.dt ls) _ ys => ks.length == ls.length && eqDs ks xs ls ys
  | _, _ => false
def eqTs : List T → List T → Bool
  | [], [] => true
  | x :: xs, y :: ys => eqT x y && eqTs xs ys
  | _, _ => false
def eqDs {κ : Type} [DecidableEq κ] : List κ → List T → List κ → List T → Bool
  | k :: ks, x :: xs, ls, ys => (match getK ls ys k with
    | some y => eqT x y
    | none => false) && eqDs ks xs ls ys
  | _, _, _, _ => true
end
/-- lists and tuples of data alone, not deeper than n -/
def eqok : Nat → T → Bool
  | n + 1, .nd .tup _ xs => xs.all (eqok n)
  | n + 1, .nd .lst _ xs => xs.all (eqok n)
  | _, .nd _ _ _ => false
  | _, _ => true
/-- .. dicts too -/
def eqokD : Nat → T → Bool
  | n + 1, .nd .tup _ xs => xs.all (eqokD n)
  | n + 1, .nd .lst _ xs => xs.all (eqokD n)
  | n + 1, .nd (.dk _) _ xs => xs.all (eqokD n)
  | n + 1, .nd (.dt _) _ xs => xs.all (eqokD n)
  | _, .nd _ _ _ => false
  | _, _ => true
def atomT : T → Bool
  | .nd _ _ _ => false
  | _ => true
def dpth : Nat := 40
/-- x == y -/
def eqDi : T → T → R Bool
  | .nd (.dk ks) _ xs, .nd (.dk ls) _ ys => if xs.all (eqok dpth) && ys.all (eqok dpth) then .ok (ks.length == ls.length && eqDs ks xs ls ys) else .bad
  | _, _ => .bad
def eqR (a b : T) : R Bool := if eqok dpth a && eqok dpth b then .ok (eqT a b) else eqDi a b
def isIn (c : Nat) (z : Str) : Bool := decide (c ∈ z.cps.toList)
/-- a text of one sign -/
def signOf : T → Option Nat
  | .str x => (match x.cps.toList with
    | [c] => some c
    | _ => none)
  | _ => none
/-- x in y -/
def inR (a b : T) : R Bool := match b with
  | .nd .lst _ xs => if eqok dpth a && xs.all (eqok dpth) then .ok (xs.any fun z => eqT z a) else .bad
  | .nd .tup _ xs => if atomT a && xs.all atomT then .ok (xs.any fun z => eqT z a) else .bad
  | .str z => (match signOf a with
    | some c => .ok (isIn c z)
    | none => .bad)
  | _ => do let o ← dgetT b a; .ok o.isSome
def isNon : T → Bool
  | .non => true
  | _ => false
def cmpT : CmpOp → T → T → R T
  | .Eq, a, b => do let k ← eqR a b; .ok (.bl k)
  | .NotEq, a, b => do let k ← eqR a b; .ok (.bl (!k))
  | .Lt, .int i, .int j => .ok (.bl (decide (i < j)))
  | .LtE, .int i, .int j => .ok (.bl (decide (i ≤ j)))
  | .Gt, .int i, .int j => .ok (.bl (decide (j < i)))
  | .GtE, .int i, .int j => .ok (.bl (decide (j ≤ i)))
  | .In, a, b => do let k ← inR a b; .ok (.bl k)
  | .NotIn, a, b => do let k ← inR a b; .ok (.bl (!k))
  | .Is, a, .non => .ok (.bl (isNon a))
  | .IsNot, a, .non => .ok (.bl (!isNon a))
  | _, _, _ => .bad
/-- a[i] -/
def ixT : T → T → R T
  | .nd .lst _ xs, .int i => match atI xs i with
    | some t => .ok (strip t)
    | none => .bad
  | .nd .ext _ xs, .int i => match atI xs i with
    | some t => .ok (strip t)
    | none => .bad
  | .nd .tup _ xs, .int i => match atI xs i with
    | some t => .ok (strip t)
    | none => .bad
  | .str z, .int i => match atI z.cps.toList i with
    | some k => .ok (.str ⟨#[k]⟩)
    | none => .bad
  | d, k => do
    match ← dgetT d k with
    | some t => .ok (strip t)
    | none => .bad
/-- xs[lo:hi] -/
def cutT {α : Type} (xs : List α) (lo hi : Option Int) : List α := (xs.drop (HT.sIx xs.length 0 lo)).take (HT.sIx xs.length xs.length hi - HT.sIx xs.length 0 lo)
def slT : T → Option Int → Option Int → R T
  | .nd .lst _ xs, lo, hi => .ok (.nd .lst true (strips (cutT xs lo hi)))
  | .nd .ext _ xs, lo, hi => .ok (.nd .lst true (strips (cutT xs lo hi)))
  | .nd .tup _ xs, lo, hi => .ok (mkTup (strips (cutT xs lo hi)))
  | _, _, _ => .bad
/-- built-in functions of one argument -/
inductive B1 where
  | len | int | abs | list | all | any | sum | str | max | min | dict
  deriving DecidableEq
def boolsT : List T → Option (List Bool)
  | [] => some []
  | .bl b :: ts => (boolsT ts).map (b :: ·)
  | _ => none
def intsT : List T → Option (List Int)
  | [] => some []
  | .int i :: ts => (intsT ts).map (i :: ·)
  | _ => none
def maxI : List Int → Int
  | [] => 0
  | x :: xs => xs.foldl (fun m y => if m < y then y else m) x
def minI : List Int → Int
  | [] => 0
  | x :: xs => xs.foldl (fun m y => if y < m then y else m) x
def optR {α β : Type} (o : Option α) (f : α → R β) : R β := match o with
  | some a => f a
  | none => .bad
@[simp] theorem optR_some {α β : Type} (a : α) (f : α → R β) : optR (some a) f = f a := rfl
@[simp] theorem optR_none {α β : Type} (f : α → R β) : optR none f = .bad := rfl
def b1T : B1 → T → R T
  | .len, .nd .lst _ xs => .ok (.int xs.length)
  | .len, .nd .ext _ xs => .ok (.int xs.length)
  | .len, .nd .tup _ xs => .ok (.int xs.length)
  | .len, .nd (.dk ks) _ _ => .ok (.int ks.length)
  | .len, .str x => .ok (.int x.length)
  | .int, .int i => .ok (.int i)
  | .int, .bl b => .ok (.int (if b then 1 else 0))
  | .abs, .int i => .ok (.int (if i < 0 then -i else i))
  | .list, .nd .lst _ xs => .ok (.nd .lst true (strips xs))
  | .list, .nd .ext _ xs => .ok (.nd .lst true (strips xs))
  | .list, .nd .tup _ xs => .ok (.nd .lst true (strips xs))
  | .dict, .nd (.dk ks) _ xs => .ok (.nd (.dk ks) true (strips xs))
  | .all, .nd .lst _ xs => optR (boolsT xs) fun bs => .ok (.bl (bs.all id))
  | .any, .nd .lst _ xs => optR (boolsT xs) fun bs => .ok (.bl (bs.any id))
  | .sum, .nd .lst _ xs => optR (intsT xs) fun ns => .ok (.int ns.sum)
  | .max, .nd .lst _ xs => optR (intsT xs) fun ns => if ns.isEmpty then .bad else .ok (.int (maxI ns))
  | .min, .nd .lst _ xs => optR (intsT xs) fun ns => if ns.isEmpty then .bad else .ok (.int (minI ns))
  | .str, .int i => if i.natAbs.log2 < 1920 then .ok (.str (toString i)) else .bad
  | _, _ => .bad
def mxI (mx : Bool) (ns : List Int) (i : Int) : Int := if ns.isEmpty then i else if mx then maxI ns else minI ns
def mxdT (mx : Bool) : T → T → R T
  | .nd .lst _ xs, .int i => optR (intsT xs) fun ns => .ok (.int (mxI mx ns i))
  | .nd .lst _ xs, .non => optR (intsT xs) fun ns => .ok (if ns.isEmpty then .non else .int (mxI mx ns 0))
  | _, _ => .bad
def pairT : T → Option (Int × Int)
  | .nd .tup _ [.int a, .int b] => some (a, b)
  | _ => none
def pairsT : List T → Option (List (Int × Int))
  | [] => some []
  | t :: ts => match pairT t, pairsT ts with
    | some p, some ps => some (p :: ps)
    | _, _ => none
def leP (p q : Int × Int) : Bool := !SrtO.lexB q p
def pairO (p : Int × Int) : T := .nd .tup false [.int p.1, .int p.2]
/-- sorted, of ints, of pairs of ints -/
def srtT : T → R T
  | .nd .lst _ xs => match intsT xs with
    | some ns => .ok (.nd .lst true ((ns.mergeSort fun a b => decide (a ≤ b)).map .int))
    | none => match pairsT xs with
      | some ps => .ok (.nd .lst true ((ps.mergeSort leP).map pairO))
      | none => .bad
  | _ => .bad
def strsT : List T → Option (List Str)
  | [] => some []
  | .str x :: ts => (strsT ts).map (x :: ·)
  | _ => none
def lsetT : T → R T
  | .nd .lst _ xs => optR (strsT xs) fun zs => if decide zs.Nodup && decide (zs.length + 1 < scanBound) then .ok (.int zs.length) else .bad
  | _ => .bad
end Rb
/-! How heaps grow; the wish behind a value. -/
namespace Rb
open PySem
open PySem.Spec
open PyProof.Rows
open L2
/-- J: what is never changed; it lies in H, with all tuples -/
structure Good (J H : Hp) : Prop where
  sub : Same J H
  tup : ∀ a xs, H a = some (.tup xs) → J a = some (.tup xs)
structure Ext (J H J' H' : Hp) : Prop where
  jj : Same J J'
  hh : Same H H'
  good : Good J' H'
  new : ∀ a o, J' a = some o → J a = some o ∨ H a = none
/-- addresses that are new and not in J' -/
structure Fr (H J' H' : Hp) (F : List Addr) : Prop where
  new : ∀ a ∈ F, H a = none
  out : ∀ a ∈ F, J' a = none
  there : ∀ a ∈ F, H' a ≠ none
  nd : F.Nodup
theorem Fr.nil {H J' H' : Hp} : Fr H J' H' [] := ⟨fun _ h => (nomatch h), fun _ h => (nomatch h), fun _ h => (nomatch h), List.nodup_nil⟩
theorem Good.refl (H : Hp) : Good H H := ⟨Same.refl H, fun _ _ h => h⟩
theorem Ext.refl {J H : Hp} (g : Good J H) : Ext J H J H := ⟨Same.refl J, Same.refl H, g, fun _ _ h => .inl h⟩
theorem none_of {H : Hp} {a : Addr} (h : ¬ H a ≠ none) : H a = none := Classical.not_not.mp h
theorem Ext.out {J H J' H' : Hp} (e : Ext J H J' H') {a : Addr} (h1 : J a = none) (h2 : H a ≠ none) : J' a = none := by
  cases q : J' a with
  | none => rfl
  | some o =>
    rcases e.new a o q with z | z
    · rw [h1] at z; cases z
    · exact absurd z h2
theorem Ext.trans {J H J1 H1 J2 H2 : Hp} (a : Ext J H J1 H1) (b : Ext J1 H1 J2 H2) : Ext J H J2 H2 := by
  refine ⟨a.jj.trans b.jj, a.hh.trans b.hh, b.good, fun x o h => ?_⟩
  rcases b.new x o h with z | z
  · exact a.new x o z
  · exact .inr (a.hh.free z)
theorem Ext.there {J H J' H' : Hp} (e : Ext J H J' H') {a : Addr} (h : H a ≠ none) : H' a = H a := by
  cases q : H a with
  | none => exact absurd q h
  | some o => exact e.hh _ _ q
/-- J with what H has at F -/
def frz (J H : Hp) (F : List Addr) : Hp := fun a => if a ∈ F then H a else J a
theorem frz_in {J H : Hp} {F : List Addr} {a : Addr} (h : a ∈ F) : frz J H F a = H a := if_pos h
theorem frz_out {J H : Hp} {F : List Addr} {a : Addr} (h : a ∉ F) : frz J H F a = J a := if_neg h
/-- what is owned and new is read from now on -/
theorem Ext.frz {J H J' H' : Hp} {F : List Addr} (e : Ext J H J' H') (f : Fr H J' H' F) : Ext J H (frz J' H' F) H' := by
  refine ⟨fun a o h => ?_, e.hh, ⟨fun a o h => ?_, fun a xs h => ?_⟩, fun a o h => ?_⟩
  · by_cases m : a ∈ F
    · have q := e.jj a o h
      rw [f.out a m] at q; cases q
    · rw [frz_out m]; exact e.jj a o h
  · by_cases m : a ∈ F
    · rw [frz_in m] at h; exact h
    · rw [frz_out m] at h; exact e.good.sub a o h
  · by_cases m : a ∈ F
    · rw [frz_in m]; exact h
    · rw [frz_out m]; exact e.good.tup a xs h
  · by_cases m : a ∈ F
    · exact .inr (f.new a m)
    · rw [frz_out m] at h; exact e.new a o h
theorem same_frz {J' H' : Hp} {F : List Addr} (f : ∀ a ∈ F, J' a = none) : Same J' (frz J' H' F) := fun a o h => by
  by_cases m : a ∈ F
  · rw [f a m] at h; cases h
  · rw [frz_out m]; exact h
/-- a new object, read from now on (a tuple must be) -/
theorem Ext.newJ {J H : Hp} (g : Good J H) {p : Addr} (h : H p = none) (o : HO) : Ext J H (upd J p o) (upd H p o) := by
  have hj : J p = none := g.sub.free h
  refine ⟨fun a z e => ?_, fun a z e => ?_, ⟨fun a z e => ?_, fun a xs e => ?_⟩, fun a z e => ?_⟩
  · rw [upd_ne (ne_of_none e hj)]; exact e
  · rw [upd_ne (ne_of_none e h)]; exact e
  · by_cases m : a = p
    · subst m; rw [upd_same] at e ⊢; exact e
    · rw [upd_ne m] at e ⊢; exact g.sub a z e
  · by_cases m : a = p
    · subst m; rw [upd_same] at e ⊢; exact e
    · rw [upd_ne m] at e ⊢; exact g.tup a xs e
  · by_cases m : a = p
    · subst m; exact .inr h
    · rw [upd_ne m] at e; exact .inl e
/-- a new object of one's own -/
theorem Ext.newH {J H : Hp} (g : Good J H) {p : Addr} (h : H p = none) {o : HO} (nt : ∀ xs, o ≠ .tup xs) : Ext J H J (upd H p o) := by
  refine ⟨Same.refl J, fun a z e => ?_, ⟨fun a z e => ?_, fun a xs e => ?_⟩, fun a z e => .inl e⟩
  · rw [upd_ne (ne_of_none e h)]; exact e
  · rw [upd_ne (ne_of_none (g.sub a z e) h)]; exact g.sub a z e
  · by_cases m : a = p
    · subst m; rw [upd_same] at e; exact absurd (Option.some.inj e) (nt xs)
    · rw [upd_ne m] at e; exact g.tup a xs e
section
variable (c : CA) (K : PySem.W.Frag)
/-- what is wanted of a value behind an expression -/
def Post (J H : Hp) (t : T) (Q : VK) : Prop := ∀ (v : V) (J' H' : Hp) (F : List Addr), Ext J H J' H' → Fr H J' H' F → RO c K J' H' t v F → Q v H'
end
section
variable {c : CA} {K : PySem.W.Frag} {J H J' H' : Hp} {Q : VK}
theorem Post.non (g : Good J H) (p : Post c K J H .non Q) : Q .non H := p .non J H [] (.refl g) .nil (by simp [RO])
theorem Post.bl (g : Good J H) {b : Bool} (p : Post c K J H (.bl b) Q) : Q (.bl b) H := p _ J H [] (.refl g) .nil (by simp [RO])
theorem Post.int (g : Good J H) {i : Int} (p : Post c K J H (.int i) Q) : Q (.int i) H := p _ J H [] (.refl g) .nil (by simp [RO])
theorem Post.str (g : Good J H) {x : Str} (h : sOk x) (p : Post c K J H (.str x) Q) : Q (.str x) H := p _ J H [] (.refl g) .nil (by simp [RO, h])
/-- a value that is read as it stands -/
theorem Post.same (g : Good J H) {t : T} {v : V} (r : RS c K J t v) (p : Post c K J H (strip t) Q) : Q v H := p v J H [] (.refl g) .nil (RO_strip t v r)
/-- the same behind some steps -/
theorem Post.ext {t : T} (e : Ext J H J' H') (p : Post c K J H t Q) : Post c K J' H' t Q := fun v J2 H2 F e2 f r => p v J2 H2 F (e.trans e2) ⟨fun a m => e.hh.free (f.new a m), f.out, f.there, f.nd⟩ r
theorem Post.imp {t : T} {Q' : VK} (p : Post c K J H t Q) (h : ∀ v H', Same H H' → Q v H' → Q' v H') : Post c K J H t Q' := fun v J' H' F e f r => h v H' e.hh (p v J' H' F e f r)
/-- a new list of things that are read -/
theorem Post.lst (g : Good J H) {ts : List T} {vs : List V} (r : RSs c K J ts vs) (p : Post c K J H (.nd .lst true (strips ts)) Q) : ∀ a, H a = none → Q (.ref a) (upd H a (.lst vs)) := fun a h => by
  refine p (.ref a) J (upd H a (.lst vs)) [a] (Ext.newH g h fun xs z => by cases z) ⟨?_, ?_, ?_, ?_⟩ ?_
  · intro b m; rw [List.mem_singleton.mp m]; exact h
  · intro b m; rw [List.mem_singleton.mp m]; exact g.sub.free h
  · intro b m; rw [List.mem_singleton.mp m, upd_same]; exact fun z => by cases z
  · simp
  · simp only [RO]
    refine ⟨a, vs, [], rfl, (show AtO c K (upd H a (.lst vs)) a .lst vs from upd_same), g.sub.free h, rfl, ?_⟩
    rw [strips_map]
    exact RSs.ros r
theorem Post.dk (g : Good J H) {ks : List Key} {ts : List T} {vs : List V} (hl : ks.length = vs.length) (r : RSs c K J ts vs) (p : Post c K J H (.nd (.dk ks) true (strips ts)) Q) : ∀ a, H a = none → Q (.ref a) (upd H a (.dK (ks.zip vs))) := fun a h => by
  refine p (.ref a) J (upd H a (.dK (ks.zip vs))) [a] (Ext.newH g h fun xs z => by cases z) ⟨?_, ?_, ?_, ?_⟩ ?_
  · intro b m; rw [List.mem_singleton.mp m]; exact h
  · intro b m; rw [List.mem_singleton.mp m]; exact g.sub.free h
  · intro b m; rw [List.mem_singleton.mp m, upd_same]; exact fun z => by cases z
  · simp
  · simp only [RO]
    refine ⟨a, vs, [], rfl, (show AtO c K (upd H a (.dK (ks.zip vs))) a (.dk ks) vs from ⟨upd_same, hl⟩), g.sub.free h, rfl, ?_⟩
    rw [strips_map]
    exact RSs.ros r
theorem ros_strips {ts : List T} {vs : List V} (r : RSs c K J ts vs) : ROs c K J H (strips ts) vs [] := by
  rw [strips_map]; exact RSs.ros r
/-- a new tuple of things that are read -/
theorem Post.tup (g : Good J H) {ts : List T} {vs : List V} (r : RSs c K J ts vs) (p : Post c K J H (mkTup (strips ts)) Q) : ∀ a, H a = none → Q (.ref a) (upd H a (.tup vs)) := fun a h => by
  have e := Ext.newJ g h (.tup vs)
  refine p (.ref a) _ _ [] e .nil ?_
  unfold mkTup
  simp only [RO]
  cases q : flats (strips ts) with
  | true =>
    refine ⟨⟨a, vs, rfl, upd_same, ?_⟩, trivial⟩
    exact (RSs_strips ts vs).mpr (RSs.mono e.jj ts vs r)
  | false => exact ⟨a, vs, rfl, upd_same, ros_strips (RSs.mono e.jj ts vs r)⟩
end
end Rb
/-! The operations on trees are those of the machine. -/
namespace Rb
open PySem
open PySem.Spec
open PyProof.Rows
open L2
section
variable {c : CA} {X : Cx}
/-- an operation of two trees, as a rule's reading -/
def r2T (c : CA) (K : PySem.W.Frag) (f : T → T → R T) : R2 := fun x y H Q => ∃ (J : Hp) (a b t : T), Good J H ∧ RS c K J a x ∧ RS c K J b y ∧ f a b = .ok t ∧ Post c K J H t Q
theorem rs_lst {K : PySem.W.Frag} {J H : Hp} (g : Good J H) {o : Bool} {xs : List T} {v : V} (h : RS c K J (.nd .lst o xs) v) : ∃ (a : Addr) (vs : List V), v = .ref a ∧ J a = some (.lst vs) ∧ H a = some (.lst vs) ∧ RSs c K J xs vs := by
  simp only [RS, At] at h
  obtain ⟨a, vs, e, h1, h2⟩ := h
  exact ⟨a, vs, e, h1, g.sub _ _ h1, h2⟩
theorem rs_ext {K : PySem.W.Frag} {J H : Hp} (g : Good J H) {o : Bool} {xs : List T} {v : V} (h : RS c K J (.nd .ext o xs) v) : ∃ (a : Addr) (vs : List V), v = .ref a ∧ SqL K H a vs ∧ RSs c K J xs vs := by
  simp only [RS, At] at h
  obtain ⟨a, vs, e, h1, h2⟩ := h
  exact ⟨a, vs, e, g.sub.seq h1, h2⟩
theorem rs_tup {K : PySem.W.Frag} {J H : Hp} (g : Good J H) {o : Bool} {xs : List T} {v : V} (h : RS c K J (.nd .tup o xs) v) : ∃ (a : Addr) (vs : List V), v = .ref a ∧ J a = some (.tup vs) ∧ H a = some (.tup vs) ∧ RSs c K J xs vs := by
  simp only [RS, At] at h
  obtain ⟨a, vs, e, h1, h2⟩ := h
  exact ⟨a, vs, e, h1, g.sub _ _ h1, h2⟩
theorem rs_dk {K : PySem.W.Frag} {J H : Hp} (g : Good J H) {o : Bool} {ks : List Key} {xs : List T} {v : V} (h : RS c K J (.nd (.dk ks) o xs) v) :
    ∃ (a : Addr) (vs : List V), v = .ref a ∧ J a = some (.dK (ks.zip vs)) ∧ H a = some (.dK (ks.zip vs)) ∧ ks.length = vs.length ∧ RSs c K J xs vs := by
  simp only [RS, At] at h
  obtain ⟨a, vs, e, ⟨h1, h3⟩, h2⟩ := h
  exact ⟨a, vs, e, h1, g.sub _ _ h1, h3, h2⟩
theorem rs_dt {K : PySem.W.Frag} {J H : Hp} (g : Good J H) {o : Bool} {ks : List (List Key)} {xs : List T} {v : V} (h : RS c K J (.nd (.dt ks) o xs) v) :
    ∃ (a : Addr) (vs : List V), v = .ref a ∧ J a = some (.dT (ks.zip vs)) ∧ H a = some (.dT (ks.zip vs)) ∧ ks.length = vs.length ∧ RSs c K J xs vs := by
  simp only [RS, At] at h
  obtain ⟨a, vs, e, ⟨h1, h3⟩, h2⟩ := h
  exact ⟨a, vs, e, h1, g.sub _ _ h1, h3, h2⟩
theorem strips_append {xs ys : List T} : strips xs ++ strips ys = strips (xs ++ ys) := by
  rw [strips_map, strips_map, strips_map, List.map_append]
theorem strips_length (xs : List T) : (strips xs).length = xs.length := by rw [strips_map, List.length_map]
theorem flat_rep {K : PySem.W.Frag} {J : Hp} {xs : List T} {vs : List V} (h : RSs c K J xs vs) : ∀ n : Nat, RSs c K J (List.replicate n xs).flatten (List.replicate n vs).flatten
  | 0 => by simp [RSs]
  | n + 1 => by
    rw [List.replicate_succ, List.replicate_succ, List.flatten_cons, List.flatten_cons]
    exact RSs.append h (flat_rep h n)
theorem strips_rep (xs : List T) (n : Nat) : (List.replicate n (strips xs)).flatten = strips (List.replicate n xs).flatten := by
  rw [strips_map, strips_map, List.map_flatten, List.map_replicate]
theorem str_len_append (x y : Str) : (x ++ y).length = x.length + y.length := by
  show (x ++ y).cps.size = x.cps.size + y.cps.size
  exact Array.size_append
theorem sOk_append {x y : Str} (h1 : sOk x) (h2 : sOk y) (h : x.length + y.length ≤ sizeLine) : sOk (x ++ y) := by
  refine ⟨by rw [str_len_append]; exact h, ?_⟩
  have e1 := h1.2
  have e2 := h2.2
  unfold PyData.strOk at e1 e2 ⊢
  show (x.cps ++ y.cps).all _ = true
  rw [Array.all_append, e1, e2]
  rfl
theorem op_bin (op : Operator) : OpR X (binaryOp op) (r2T c X.K (binT op)) := by
  intro pins s σ H x y v u Q I rx ry h
  obtain ⟨J, a, b, t, g, ra, rb, e, p⟩ := h
  unfold binT at e
  split at e
  · simp only [RS] at ra rb; subst ra rb; cases e
    exact op_add pins s σ H _ _ v u Q I rx ry ⟨_, _, rfl, rfl, Post.int g p⟩
  · simp only [RS] at ra rb
    obtain ⟨rfl, la⟩ := ra; obtain ⟨rfl, lb⟩ := rb
    split at e
    · rename_i hz
      cases e
      refine op_add_str pins s σ H _ _ v u Q I rx ry ⟨_, _, rfl, rfl, hz, Post.str g ?_ p⟩
      exact sOk_append la lb hz
    · cases e
  · obtain ⟨a1, vs1, rfl, j1, h1, q1⟩ := rs_lst g ra
    obtain ⟨a2, vs2, rfl, j2, h2, q2⟩ := rs_lst g rb
    split at e
    · rename_i hz
      cases e
      rw [strips_append] at p
      exact op_cat pins s σ H _ _ v u Q I rx ry ⟨a1, a2, vs1, vs2, rfl, rfl, h1, h2, by rw [← q1.length, ← q2.length]; exact hz, Post.lst g (RSs.append q1 q2) p⟩
    · cases e
  · obtain ⟨a1, vs1, rfl, j1, h1, q1⟩ := rs_tup g ra
    obtain ⟨a2, vs2, rfl, j2, h2, q2⟩ := rs_tup g rb
    split at e
    · rename_i hz
      cases e
      rw [strips_append] at p
      have qq := RSs.append q1 q2
      have rsame : ∀ {z : Addr} {zs : List V}, J z = some (.tup zs) → zs = vs1 ++ vs2 → Q (.ref z) H := by
        intro z zs jz ez
        subst ez
        refine p (.ref z) J H [] (.refl g) .nil ?_
        unfold mkTup
        simp only [RO]
        cases q : flats (strips _) with
        | true => exact ⟨⟨z, _, rfl, jz, (RSs_strips _ _).mpr qq⟩, trivial⟩
        | false => exact ⟨z, _, rfl, jz, ros_strips qq⟩
      refine op_catA pins s σ H _ _ v u Q I rx ry ⟨a1, a2, vs1, vs2, rfl, rfl, SqT.of h1, SqT.of h2, by rw [← q1.length, ← q2.length]; exact hz, fun z => ?_, fun _ z => ?_, fun _ _ => Post.tup g qq p⟩
      · subst z; exact rsame j2 (by simp)
      · subst z; exact rsame j1 (by simp)
    · cases e
  · simp only [RS] at ra rb; subst ra rb; cases e
    exact op_sub pins s σ H _ _ v u Q I rx ry ⟨_, _, rfl, rfl, Post.int g p⟩
  · simp only [RS] at ra rb; subst ra rb
    split at e
    · rename_i hz
      cases e
      refine op_mul pins s σ H _ _ v u Q I rx ry ⟨_, _, rfl, rfl, ?_, Post.int g p⟩
      simp only [mulI, Bool.or_eq_true, Bool.and_eq_true, decide_eq_true_eq] at hz
      exact hz
    · cases e
  · simp only [RS] at rb; subst rb
    obtain ⟨a1, vs1, rfl, j1, h1, q1⟩ := rs_lst g ra
    split at e
    · rename_i hz
      obtain ⟨z1, z2, z3⟩ := hz
      cases e
      rw [strips_rep] at p
      exact op_rep pins s σ H _ _ v u Q I rx ry ⟨a1, _, vs1, rfl, rfl, h1, z1, z2, by rw [← q1.length]; exact z3, Post.lst g (flat_rep q1 _) p⟩
    · cases e
  · simp only [RS] at ra rb; subst ra rb
    split at e
    · rename_i hz
      cases e
      exact op_fdiv pins s σ H _ _ v u Q I rx ry ⟨_, _, rfl, rfl, hz, Post.int g p⟩
    · cases e
  · simp only [RS] at ra rb; subst ra rb
    split at e
    · rename_i hz
      cases e
      exact op_mod pins s σ H _ _ v u Q I rx ry ⟨_, _, rfl, rfl, hz, Post.int g p⟩
    · cases e
  · simp only [RS] at ra rb; subst ra rb
    split at e
    · rename_i hz
      cases e
      exact op_pow pins s σ H _ _ v u Q I rx ry ⟨_, _, rfl, rfl, hz, Post.int g p⟩
    · cases e
  · cases e
theorem emp_len {α β : Type} {xs : List α} {ys : List β} (h : xs.length = ys.length) : xs.isEmpty = ys.isEmpty := by
  cases xs <;> cases ys <;> first | rfl | (simp at h)
/-! ### truth -/
theorem tru_T {K : PySem.W.Frag} {J H : Hp} (g : Good J H) {a : T} {x : V} {k : Bool} (ra : RS c K J a x) (e : truth a = .ok k) : TruV K x H k := by
  unfold truth at e
  split at e
  · simp only [RS] at ra; subst ra; cases e; rfl
  · simp only [RS] at ra; subst ra; cases e; rfl
  · simp only [RS] at ra; subst ra; cases e; rfl
  · simp only [RS] at ra; obtain ⟨rfl, la⟩ := ra; cases e; exact ⟨la.1, rfl⟩
  · obtain ⟨a1, vs1, rfl, j1, h1, q1⟩ := rs_lst g ra
    cases e
    refine .inl ⟨vs1, SqL.of h1, ?_⟩
    rw [emp_len q1.length]
  · obtain ⟨a1, vs1, rfl, j1, h1, q1⟩ := rs_tup g ra
    cases e
    refine .inr (.inl ⟨vs1, SqT.of h1, ?_⟩)
    rw [emp_len q1.length]
  · obtain ⟨a1, vs1, rfl, j1, h1, l1, q1⟩ := rs_dk g ra
    cases e
    refine .inr (.inr ⟨_, h1, ?_⟩)
    rw [emp_len (show _ = List.length (List.zip _ vs1) by rw [List.length_zip, l1, Nat.min_self])]
  · cases e
end
end Rb
/-! Comparisons, items, slices, built-in functions. -/
namespace Rb
open PySem
open PySem.Spec
open PyProof.Rows
open L2
mutual
def toD : T → PyData
  | .non => .none
  | .bl b => .bool b
  | .int i => .int i
  | .str x => .str x
  | .nd .tup _ xs => .tuple (toDs xs)
  | .nd _ _ xs => .list (toDs xs)
def toDs : List T → List PyData
  | [] => []
  | t :: ts => toD t :: toDs ts
end
mutual
theorem eqT_D : ∀ (n m : Nat) (a b : T), eqok n a = true → eqok m b = true → eqT a b = PyData.eqv (toD a) (toD b)
  | n, m, .nd .tup _ xs, .nd .tup _ ys, h, k => by
    cases n with
    | zero => simp [eqok] at h
    | succ n =>
      cases m with
      | zero => simp [eqok] at k
      | succ m =>
        simp only [eqok] at h k
        simp only [eqT, toD, PyData.eqv]
        exact eqTs_D n m xs ys h k
  | n, m, .nd .lst _ xs, .nd .lst _ ys, h, k => by
    cases n with
    | zero => simp [eqok] at h
    | succ n =>
      cases m with
      | zero => simp [eqok] at k
      | succ m =>
        simp only [eqok] at h k
        simp only [eqT, toD, PyData.eqv]
        exact eqTs_D n m xs ys h k
  | n, m, .nd (.dk _) _ _, _, h, k => by cases n <;> simp [eqok] at h
  | n, m, .nd (.dt _) _ _, _, h, k => by cases n <;> simp [eqok] at h
  | n, m, .nd (.obj _ _) _ _, _, h, k => by cases n <;> simp [eqok] at h
  | n, m, .nd .ext _ _, _, h, k => by cases n <;> simp [eqok] at h
  | n, m, _, .nd (.dk _) _ _, h, k => by cases m <;> simp [eqok] at k
  | n, m, _, .nd (.dt _) _ _, h, k => by cases m <;> simp [eqok] at k
  | n, m, _, .nd (.obj _ _) _ _, h, k => by cases m <;> simp [eqok] at k
  | n, m, _, .nd .ext _ _, h, k => by cases m <;> simp [eqok] at k
  | n, m, .nd .tup _ xs, .nd .lst _ ys, h, k => by simp [eqT, toD, PyData.eqv]
  | n, m, .nd .lst _ xs, .nd .tup _ ys, h, k => by simp [eqT, toD, PyData.eqv]
  | n, m, .nd .tup _ xs, .non, h, k => by simp [eqT, toD, PyData.eqv]
  | n, m, .nd .tup _ xs, .bl _, h, k => by simp [eqT, toD, PyData.eqv]
  | n, m, .nd .tup _ xs, .int _, h, k => by simp [eqT, toD, PyData.eqv]
  | n, m, .nd .tup _ xs, .str _, h, k => by simp [eqT, toD, PyData.eqv]
  | n, m, .nd .lst _ xs, .non, h, k => by simp [eqT, toD, PyData.eqv]
  | n, m, .nd .lst _ xs, .bl _, h, k => by simp [eqT, toD, PyData.eqv]
  | n, m, .nd .lst _ xs, .int _, h, k => by simp [eqT, toD, PyData.eqv]
  | n, m, .nd .lst _ xs, .str _, h, k => by simp [eqT, toD, PyData.eqv]
  | n, m, .non, .nd .tup _ xs, h, k => by simp [eqT, toD, PyData.eqv]
  | n, m, .bl _, .nd .tup _ xs, h, k => by simp [eqT, toD, PyData.eqv]
  | n, m, .int _, .nd .tup _ xs, h, k => by simp [eqT, toD, PyData.eqv]
  | n, m, .str _, .nd .tup _ xs, h, k => by simp [eqT, toD, PyData.eqv]
  | n, m, .non, .nd .lst _ xs, h, k => by simp [eqT, toD, PyData.eqv]
  | n, m, .bl _, .nd .lst _ xs, h, k => by simp [eqT, toD, PyData.eqv]
  | n, m, .int _, .nd .lst _ xs, h, k => by simp [eqT, toD, PyData.eqv]
  | n, m, .str _, .nd .lst _ xs, h, k => by simp [eqT, toD, PyData.eqv]
  | n, m, .non, .non, h, k => by simp [eqT, toD, PyData.eqv]
  | n, m, .non, .bl _, h, k => by simp [eqT, toD, PyData.eqv]
  | n, m, .non, .int _, h, k => by simp [eqT, toD, PyData.eqv]
  | n, m, .non, .str _, h, k => by simp [eqT, toD, PyData.eqv]
  | n, m, .bl _, .non, h, k => by simp [eqT, toD, PyData.eqv]
  | n, m, .bl _, .bl _, h, k => by simp [eqT, toD, PyData.eqv]
  | n, m, .bl _, .int _, h, k => by simp [eqT, toD, PyData.eqv]
  | n, m, .bl _, .str _, h, k => by simp [eqT, toD, PyData.eqv]
  | n, m, .int _, .non, h, k => by simp [eqT, toD, PyData.eqv]
  | n, m, .int _, .bl _, h, k => by simp [eqT, toD, PyData.eqv]
  | n, m, .int _, .int _, h, k => by simp [eqT, toD, PyData.eqv]
  | n, m, .int _, .str _, h, k => by simp [eqT, toD, PyData.eqv]
  | n, m, .str _, .non, h, k => by simp [eqT, toD, PyData.eqv]
  | n, m, .str _, .bl _, h, k => by simp [eqT, toD, PyData.eqv]
  | n, m, .str _, .int _, h, k => by simp [eqT, toD, PyData.eqv]
  | n, m, .str _, .str _, h, k => by simp [eqT, toD, PyData.eqv]
theorem eqTs_D : ∀ (n m : Nat) (xs ys : List T), xs.all (eqok n) = true → ys.all (eqok m) = true → eqTs xs ys = PyData.eqvAll (toDs xs) (toDs ys)
  | n, m, [], [], h, k => by simp [eqTs, toDs, PyData.eqvAll]
  | n, m, x :: xs, y :: ys, h, k => by
    simp only [List.all_cons, Bool.and_eq_true] at h k
    simp only [eqTs, toDs, PyData.eqvAll]
    rw [eqT_D n m x y h.1 k.1, eqTs_D n m xs ys h.2 k.2]
  | n, m, [], y :: ys, h, k => by simp [eqTs, toDs, PyData.eqvAll]
  | n, m, x :: xs, [], h, k => by simp [eqTs, toDs, PyData.eqvAll]
end
section
variable {c : CA} {K : PySem.W.Frag} {J H : Hp}
mutual
theorem dp_of (g : Good J H) : ∀ (n : Nat) (a : T) (v : V), eqok n a = true → RS c K J a v → Dp K H v (toD a) ∧ (toD a).canLay0 = true ∧ (toD a).depth ≤ n
  | n, .non, v, h, r => by simp only [RS] at r; subst r; exact ⟨.non, by simp [toD, PyData.canLay0], by simp [toD, PyData.depth]⟩
  | n, .bl b, v, h, r => by simp only [RS] at r; subst r; exact ⟨.bl b, by simp [toD, PyData.canLay0], by simp [toD, PyData.depth]⟩
  | n, .int b, v, h, r => by simp only [RS] at r; subst r; exact ⟨.int b, by simp [toD, PyData.canLay0], by simp [toD, PyData.depth]⟩
  | n, .str b, v, h, r => by
    simp only [RS] at r; obtain ⟨rfl, l⟩ := r
    exact ⟨.str b, by simp only [toD, PyData.canLay0]; exact l.2, by simp [toD, PyData.depth]⟩
  | n, .nd .tup o xs, v, h, r => by
    cases n with
    | zero => simp [eqok] at h
    | succ n =>
      simp only [eqok] at h
      obtain ⟨a, vs, rfl, j1, h1, q1⟩ := rs_tup g r
      obtain ⟨d1, d2, d3⟩ := dps_of g n xs vs h q1
      simp only [toD, PyData.canLay0, PyData.depth]
      exact ⟨.tup (SqT.of h1) d1, d2, by omega⟩
  | n, .nd .lst o xs, v, h, r => by
    cases n with
    | zero => simp [eqok] at h
    | succ n =>
      simp only [eqok] at h
      obtain ⟨a, vs, rfl, j1, h1, q1⟩ := rs_lst g r
      obtain ⟨d1, d2, d3⟩ := dps_of g n xs vs h q1
      simp only [toD, PyData.canLay0, PyData.depth]
      exact ⟨.lst (SqL.of h1) d1, d2, by omega⟩
  | n, .nd (.dk _) _ _, _, h, _ => by cases n <;> simp [eqok] at h
  | n, .nd (.dt _) _ _, _, h, _ => by cases n <;> simp [eqok] at h
  | n, .nd (.obj _ _) _ _, _, h, _ => by cases n <;> simp [eqok] at h
  | n, .nd .ext _ _, _, h, _ => by cases n <;> simp [eqok] at h
theorem dps_of (g : Good J H) : ∀ (n : Nat) (ts : List T) (vs : List V), ts.all (eqok n) = true → RSs c K J ts vs → DpAll K H vs (toDs ts) ∧ PyData.canLayAll0 (toDs ts) = true ∧ PyData.depthAll (toDs ts) ≤ n
  | n, [], vs, h, r => by simp only [RSs] at r; subst r; exact ⟨.nil, by simp [toDs, PyData.canLayAll0], by simp [toDs, PyData.depthAll]⟩
  | n, t :: ts, vs, h, r => by
    simp only [List.all_cons, Bool.and_eq_true] at h
    simp only [RSs] at r
    obtain ⟨v, r', rfl, r1, r2⟩ := r
    obtain ⟨a1, a2, a3⟩ := dp_of g n t v h.1 r1
    obtain ⟨b1, b2, b3⟩ := dps_of g n ts r' h.2 r2
    simp only [toDs, PyData.canLayAll0, PyData.depthAll, a2, b2, Bool.and_self]
    exact ⟨.cons a1 b1, trivial, by omega⟩
end
theorem shaped_of (g : Good J H) {a : T} {v : V} (h : eqok dpth a = true) (r : RS c K J a v) : Dp K H v (toD a) ∧ SeqAt.shaped (toD a) = true := by
  obtain ⟨d1, d2, d3⟩ := dp_of g dpth a v h r
  refine ⟨d1, ?_⟩
  unfold SeqAt.shaped
  rw [d2, Bool.true_and, decide_eq_true_eq]
  exact Nat.le_trans d3 (by decide)
theorem shaped_list (g : Good J H) {o : Bool} {xs : List T} {v : V} (h : xs.all (eqok dpth) = true) (r : RS c K J (.nd .lst o xs) v) : Dp K H v (.list (toDs xs)) ∧ SeqAt.shaped (.list (toDs xs)) = true := by
  obtain ⟨d1, d2, d3⟩ := dp_of g (dpth + 1) (.nd .lst o xs) v (by simp only [eqok]; exact h) r
  simp only [toD] at d1 d2 d3
  refine ⟨d1, ?_⟩
  unfold SeqAt.shaped
  rw [d2, Bool.true_and, decide_eq_true_eq]
  exact Nat.le_trans d3 (by decide)
theorem any_D : ∀ (xs : List T) (a : T), xs.all (eqok dpth) = true → eqok dpth a = true → ((toDs xs).any fun z => PyData.eqv z (toD a)) = xs.any fun z => eqT z a
  | [], a, _, _ => by simp [toDs]
  | x :: xs, a, h, k => by
    simp only [List.all_cons, Bool.and_eq_true] at h
    simp only [toDs, List.any_cons]
    rw [any_D xs a h.2 k, eqT_D dpth dpth x a h.1 k]
end
section
variable {c : CA} {X : Cx}
theorem keyT_rs {K : PySem.W.Frag} {J : Hp} {t : T} {v : V} {k : Key} (r : RS c K J t v) (e : keyT t = some k) : v = kV k := by
  cases t with
  | int i => simp only [keyT] at e; cases e; simp only [RS] at r; exact r
  | str x => simp only [keyT] at e; cases e; simp only [RS] at r; exact r.1
  | _ => simp [keyT] at e
theorem keysT_rs {K : PySem.W.Frag} {J : Hp} : ∀ {ts : List T} {vs : List V} {ks : List Key}, RSs c K J ts vs → keysT ts = some ks → vs = ks.map kV
  | [], vs, ks, r, e => by
    simp only [keysT] at e; cases e
    simp only [RSs] at r; subst r; rfl
  | t :: ts, vs, ks, r, e => by
    simp only [keysT] at e
    split at e
    · rename_i k ks' h1 h2
      cases e
      simp only [RSs] at r
      obtain ⟨v, r', rfl, r1, r2⟩ := r
      rw [keyT_rs r1 h1, keysT_rs r2 h2]; rfl
    · cases e
def OptRS (c : CA) (K : PySem.W.Frag) (J : Hp) : Option T → Option V → Prop
  | some t, ov => ∃ v, ov = some v ∧ RS c K J t v
  | none, ov => ov = none
theorem getK_rs {κ : Type} [DecidableEq κ] {K : PySem.W.Frag} {J : Hp} (q : κ) : ∀ {ks : List κ} {ts : List T} {vs : List V}, RSs c K J ts vs → ks.length = vs.length →
    OptRS c K J (getK ks ts q) (valV (ks.zip vs) q)
  | [], ts, vs, r, e => by
    cases vs with
    | nil => cases ts <;> simp [getK, valV, OptRS]
    | cons v vs => simp at e
  | k :: ks, [], vs, r, e => by simp only [RSs] at r; subst r; simp at e
  | k :: ks, t :: ts, vs, r, e => by
    simp only [RSs] at r
    obtain ⟨v, r', rfl, r1, r2⟩ := r
    simp only [getK, List.zip_cons_cons]
    by_cases h : k = q
    · rw [if_pos h]
      exact ⟨v, valV_pos h, r1⟩
    · rw [if_neg h]
      have ih := getK_rs (K := K) (J := J) q (ks := ks) r2 (by simpa using e)
      rw [valV_neg (p := (k, v)) h]
      exact ih
theorem dget_rs {K : PySem.W.Frag} {J H : Hp} (g : Good J H) {d k : T} {x y : V} {o : Option T} (rd : RS c K J d x) (rk : RS c K J k y) (e : dgetT d k = .ok o) :
    ∃ (a : Addr) (ov : Option V), x = .ref a ∧ DGet H a y ov ∧ OptRS c K J o ov := by
  unfold dgetT at e
  split at e
  · obtain ⟨a, vs, rfl, j1, h1, l1, q1⟩ := rs_dk g rd
    split at e
    · rename_i q hq
      cases e
      exact ⟨a, _, rfl, by rw [keyT_rs rk hq]; exact DGet.k h1, getK_rs (K := K) (J := J) q q1 l1⟩
    · cases e
  · obtain ⟨a, vs, rfl, j1, h1, l1, q1⟩ := rs_dt g rd
    obtain ⟨b, ws, rfl, j2, h2, q2⟩ := rs_tup g rk
    split at e
    · rename_i q hq
      cases e
      exact ⟨a, _, rfl, DGet.t h1 (by rw [h2, keysT_rs q2 hq]), getK_rs (K := K) (J := J) q q1 l1⟩
    · cases e
  · cases e
theorem R.bind_ok {α β : Type} {r : R α} {f : α → R β} {b : β} (h : (r >>= f) = .ok b) : ∃ a, r = .ok a ∧ f a = .ok b := by
  cases r with
  | ok a => exact ⟨a, rfl, h⟩
  | err e => cases h
  | bad => cases h
theorem flatV_atom {K : PySem.W.Frag} {J : Hp} {t : T} {v : V} (h : atomT t = true) (r : RS c K J t v) : flatV v = true := by
  cases t with
  | nd g o xs => simp [atomT] at h
  | non => simp only [RS] at r; subst r; rfl
  | bl b => simp only [RS] at r; subst r; rfl
  | int b => simp only [RS] at r; subst r; rfl
  | str b => simp only [RS] at r; obtain ⟨rfl, _⟩ := r; rfl
theorem eqV_atom {K : PySem.W.Frag} {J : Hp} {t u : T} {v w : V} (h : atomT t = true) (k : atomT u = true) (r : RS c K J t v) (q : RS c K J u w) : eqV v w = eqT t u := by
  cases t with
  | nd g o xs => simp [atomT] at h
  | non =>
    simp only [RS] at r; subst r
    cases u with
    | nd g o xs => simp [atomT] at k
    | non => simp only [RS] at q; subst q; simp [eqV, eqT]
    | bl b => simp only [RS] at q; subst q; simp [eqV, eqT]
    | int b => simp only [RS] at q; subst q; simp [eqV, eqT]
    | str b => simp only [RS] at q; obtain ⟨rfl, _⟩ := q; simp [eqV, eqT]
  | bl b =>
    simp only [RS] at r; subst r
    cases u with
    | nd g o xs => simp [atomT] at k
    | non => simp only [RS] at q; subst q; simp [eqV, eqT]
    | bl b => simp only [RS] at q; subst q; simp [eqV, eqT]
    | int b => simp only [RS] at q; subst q; simp [eqV, eqT]
    | str b => simp only [RS] at q; obtain ⟨rfl, _⟩ := q; simp [eqV, eqT]
  | int b =>
    simp only [RS] at r; subst r
    cases u with
    | nd g o xs => simp [atomT] at k
    | non => simp only [RS] at q; subst q; simp [eqV, eqT]
    | bl b => simp only [RS] at q; subst q; simp [eqV, eqT]
    | int b => simp only [RS] at q; subst q; simp [eqV, eqT]
    | str b => simp only [RS] at q; obtain ⟨rfl, _⟩ := q; simp [eqV, eqT]
  | str b =>
    simp only [RS] at r; obtain ⟨rfl, _⟩ := r
    cases u with
    | nd g o xs => simp [atomT] at k
    | non => simp only [RS] at q; subst q; simp [eqV, eqT]
    | bl b => simp only [RS] at q; subst q; simp [eqV, eqT]
    | int b => simp only [RS] at q; subst q; simp [eqV, eqT]
    | str b => simp only [RS] at q; obtain ⟨rfl, _⟩ := q; simp [eqV, eqT]
theorem inV_atoms {K : PySem.W.Frag} {J : Hp} {t : T} {v : V} (h : atomT t = true) (r : RS c K J t v) : ∀ {ts : List T} {vs : List V}, ts.all atomT = true → RSs c K J ts vs → vs.all flatV = true ∧ inV v vs = ts.any fun z => eqT z t
  | [], vs, _, q => by simp only [RSs] at q; subst q; exact ⟨rfl, rfl⟩
  | u :: ts, vs, k, q => by
    simp only [List.all_cons, Bool.and_eq_true] at k
    simp only [RSs] at q
    obtain ⟨w, r', rfl, q1, q2⟩ := q
    obtain ⟨i1, i2⟩ := inV_atoms h r k.2 q2
    refine ⟨by simp [flatV_atom k.1 q1, i1], ?_⟩
    unfold inV at i2 ⊢
    rw [List.any_cons, List.any_cons, i2, eqV_atom k.1 h q1 r]
theorem signOf_eq {a : T} {k : Nat} (h : signOf a = some k) : a = .str ⟨#[k]⟩ := by
  cases a with
  | str x =>
    cases x with
    | mk cps =>
      unfold signOf at h
      simp only at h
      split at h
      · rename_i cc hcc
        cases h
        have : cps = #[k] := Array.toList_inj.mp hcc
        rw [this]
      · cases h
  | _ => simp [signOf] at h
/-- x in y, its answer -/
theorem in_ok {pins : List (Addr × Obj)} {s : Shared} {σ : L2.St} {H J : Hp} {x y : V} {v u : Value} {a b : T} {k : Bool} (hu : X.A.units + 66 < cLine) (I : Inv X pins σ H s) (rx : RelV x v) (ry : RelV y u) (g : Good J H) (ra : RS c X.K J a x) (rb : RS c X.K J b y) (e : inR a b = .ok k) (Q : VK) :
    (Q (.bl k) H → wpAny (model X.prog X.w) X.A (compareOp .In v u) (EP X pins σ Q) X.xe s) ∧ (Q (.bl (!k)) H → wpAny (model X.prog X.w) X.A (compareOp .NotIn v u) (EP X pins σ Q) X.xe s) := by
  unfold inR at e
  split at e
  · split at e
    · rename_i hz
      rw [Bool.and_eq_true] at hz
      cases e
      obtain ⟨d1, d2⟩ := shaped_of g hz.1 ra
      obtain ⟨e1, e2⟩ := shaped_list g hz.2 rb
      refine ⟨fun q => op_inD (by omega) pins s σ H x y v u Q I rx ry ⟨_, _, d1, e1, d2, e2, ?_⟩, fun q => op_notInD (by omega) pins s σ H x y v u Q I rx ry ⟨_, _, d1, e1, d2, e2, ?_⟩⟩
      · rw [any_D _ _ hz.2 hz.1]; exact q
      · rw [any_D _ _ hz.2 hz.1]; exact q
    · cases e
  · split at e
    · rename_i hz
      rw [Bool.and_eq_true] at hz
      cases e
      obtain ⟨p, vs, rfl, j1, h1, q1⟩ := rs_tup g rb
      obtain ⟨i1, i2⟩ := inV_atoms hz.1 ra hz.2 q1
      refine ⟨fun q => op_in_seq pins s σ H _ _ v u Q I rx ry ⟨p, vs, rfl, .inr (SqT.of h1), flatV_atom hz.1 ra, i1, ?_⟩, fun q => op_notIn_seq pins s σ H _ _ v u Q I rx ry ⟨p, vs, rfl, .inr (SqT.of h1), flatV_atom hz.1 ra, i1, ?_⟩⟩
      · rw [i2, if_neg Bool.false_ne_true]; exact q
      · rw [i2, if_pos rfl]; exact q
    · cases e
  · split at e
    · rename_i cc hcc
      cases e
      have ea := signOf_eq hcc
      subst ea
      simp only [RS] at ra rb
      obtain ⟨rfl, _⟩ := ra
      obtain ⟨rfl, _⟩ := rb
      exact ⟨fun q => op_in_sign pins s σ H _ _ v u Q I rx ry ⟨cc, _, rfl, rfl, q⟩, fun q => op_notIn_sign pins s σ H _ _ v u Q I rx ry ⟨cc, _, rfl, rfl, q⟩⟩
    · cases e
  · obtain ⟨o, e1, e2⟩ := R.bind_ok e
    cases e2
    obtain ⟨p, ov, rfl, dg, m⟩ := dget_rs g rb ra e1
    have eo : ov.isSome = o.isSome := by
      cases o with
      | none => rw [show ov = Option.none from m]; rfl
      | some t => obtain ⟨w, rfl, _⟩ := m; rfl
    obtain rfl : u = Value.ref p := ry
    exact ⟨fun q => d_in (by omega) I dg rx fun s3 I3 => ⟨.bl ov.isSome, H, I3, rfl, by rw [eo]; exact q⟩, fun q => d_notIn (by omega) I dg rx fun s3 I3 => ⟨.bl (!ov.isSome), H, I3, rfl, by rw [eo]; exact q⟩⟩
theorem kv_nil {xs : List (Key × V)} {va : List (Key × Value)} (r : KV xs va) (h : xs = []) : va = [] := by
  subst h
  unfold KV at r
  cases r
  rfl
theorem kv_cons {k : Key} {v : V} {xs : List (Key × V)} {va : List (Key × Value)} (r : KV ((k, v) :: xs) va) : ∃ u vb, va = (k, u) :: vb ∧ RelV v u ∧ KV xs vb := by
  unfold KV at r ⊢
  cases r with
  | @cons _ q _ qs h t =>
    obtain ⟨k2, u⟩ := q
    obtain ⟨h1, h2⟩ := h
    simp only at h1 h2
    subst h1
    exact ⟨u, qs, rfl, h2, t⟩
theorem hits_tree {pins : List (Addr × Obj)} {s : Shared} {σ : L2.St} {H J : Hp} (I : L2.Inv X pins σ H s) (g : Good J H) {A : Around} (hu : A.units + 64 < cLine) {ls : List Key} {ys : List T} {ws : List V} {vb : List (Key × Value)} (hl : ls.length = ws.length) (ry : RSs c X.K J ys ws) (oy : ys.all (eqok dpth) = true) (kb : KV (ls.zip ws) vb) :
    ∀ {ks : List Key} {xs : List T} {vs : List V} {va : List (Key × Value)}, ks.length = vs.length → RSs c X.K J xs vs → xs.all (eqok dpth) = true → KV (ks.zip vs) va → PySem.W.KeqHits A s vb va (eqDs ks xs ls ys)
  | [], xs, vs, va, h, r, o, k => by
    obtain rfl := kv_nil k rfl
    have : eqDs ([] : List Key) xs ls ys = true := by cases xs <;> simp [eqDs]
    rw [this]
    exact .nil
  | q :: ks, [], vs, va, h, r, o, k => by
    simp only [RSs] at r; subst r; simp at h
  | q :: ks, x :: xs, vs, va, h, r, o, k => by
    simp only [RSs] at r
    obtain ⟨v, r', rfl, r1, r2⟩ := r
    rw [List.zip_cons_cons] at k
    obtain ⟨u, va', rfl, ru, k2⟩ := kv_cons k
    rw [List.all_cons, Bool.and_eq_true] at o
    have ih := hits_tree I g hu hl ry oy kb (ks := ks) (by simpa using h) r2 o.2 k2
    have rel := kb.val q
    have gk := getK_rs (K := X.K) (J := J) (c := c) q ry hl
    simp only [eqDs]
    cases hg : getK ls ys q with
    | none =>
      rw [hg] at gk
      have e0 : valV (ls.zip ws) q = none := gk
      rw [e0] at rel
      have e1 : valueAt vb q = none := by
        cases q2 : valueAt vb q with
        | none => rfl
        | some z => rw [q2] at rel; exact rel.elim
      exact .miss e1
    | some y =>
      rw [hg] at gk
      obtain ⟨w, e0, rw'⟩ := gk
      rw [e0] at rel
      obtain ⟨z, e1, rz⟩ := rel.some_of
      have oy1 : eqok dpth y = true := by
        have key : ∀ {ls : List Key} {ys : List T}, getK ls ys q = some y → y ∈ ys := by
          intro ls
          induction ls with
          | nil => intro ys h; cases ys <;> cases h
          | cons l ls ih =>
            intro ys h
            cases ys with
            | nil => cases h
            | cons a ys =>
              simp only [getK] at h
              split at h
              · cases h; exact List.mem_cons_self
              · exact List.mem_cons_of_mem _ (ih h)
        exact List.all_eq_true.mp oy y (key hg)
      obtain ⟨d1, d2⟩ := shaped_of g o.1 r1
      obtain ⟨f1, f2⟩ := shaped_of g oy1 rw'
      obtain ⟨as, q1⟩ := Dp.reads I _ _ _ d1 ru
      obtain ⟨bs, q3⟩ := Dp.reads I _ _ _ f1 rz
      refine .hit e1 ?_ ih
      show SeqAt.EqAt A s u z (eqT x y)
      rw [eqT_D dpth dpth x y o.1 oy1]
      exact SeqAt.eqAt_reads _ _ _ _ _ _ as bs q1 q3 (SeqAt.canLay_of_shaped d2) (SeqAt.canLay_of_shaped f2) (SeqAt.room_of_shaped d2 hu)
theorem eqDi_ok {pins : List (Addr × Obj)} {s : Shared} {σ : L2.St} {H J : Hp} {x y : V} {v u : Value} {a b : T} {k : Bool} (hu : X.A.units + 66 < cLine) (I : L2.Inv X pins σ H s) (rx : RelV x v) (ry : RelV y u) (g : Good J H) (ra : RS c X.K J a x) (rb : RS c X.K J b y) (e : eqDi a b = .ok k) (Q : VK) :
    (Q (.bl k) H → wpAny (model X.prog X.w) X.A (compareOp .Eq v u) (EP X pins σ Q) X.xe s) ∧ (Q (.bl (!k)) H → wpAny (model X.prog X.w) X.A (compareOp .NotEq v u) (EP X pins σ Q) X.xe s) := by
  unfold eqDi at e
  split at e
  · rename_i ks _ xs ls _ ys
    split at e
    · rename_i hz
      rw [Bool.and_eq_true] at hz
      cases e
      obtain ⟨p, vs, rfl, j1, h1, l1, q1⟩ := rs_dk g ra
      obtain ⟨p2, ws, rfl, j2, h2, l2, q2⟩ := rs_dk g rb
      obtain rfl : v = Value.ref p := rx
      obtain rfl : u = Value.ref p2 := ry
      obtain ⟨_, ya, va, ka, da⟩ := (show ObjOk X.prog X.w H s.heap p (.dK (ks.zip vs)) from I.hok p _ h1)
      obtain ⟨_, yb, vb, kb, db⟩ := (show ObjOk X.prog X.w H s.heap p2 (.dK (ls.zip ws)) from I.hok p2 _ h2)
      have n1 : va.length = ks.length := by rw [← ka.length, List.length_zip, ← l1, Nat.min_self]
      have n2 : vb.length = ls.length := by rw [← kb.length, List.length_zip, ← l2, Nat.min_self]
      have hh := hits_tree I g (A := X.A.in1) (by show X.A.units + 1 + 64 < cLine; omega) l2 q2 hz.2 kb l1 q1 hz.1 ka
      have en : (va.length == vb.length) = (ks.length == ls.length) := by rw [n1, n2]
      exact ⟨fun q => PySem.W.keq_eq (knd := mixKind X.prog X.w) ya yb da db (by omega) (fun _ => hh) (by rw [en]; exact ⟨.bl _, H, I, rfl, q⟩), fun q => PySem.W.keq_ne (knd := mixKind X.prog X.w) ya yb da db (by omega) (fun _ => hh) (by rw [en]; exact ⟨.bl _, H, I, rfl, q⟩)⟩
    · cases e
  · cases e
theorem eq_ok {pins : List (Addr × Obj)} {s : Shared} {σ : L2.St} {H J : Hp} {x y : V} {v u : Value} {a b : T} {k : Bool} (hu : X.A.units + 66 < cLine) (I : Inv X pins σ H s) (rx : RelV x v) (ry : RelV y u) (g : Good J H) (ra : RS c X.K J a x) (rb : RS c X.K J b y) (e : eqR a b = .ok k) (Q : VK) :
    (Q (.bl k) H → wpAny (model X.prog X.w) X.A (compareOp .Eq v u) (EP X pins σ Q) X.xe s) ∧ (Q (.bl (!k)) H → wpAny (model X.prog X.w) X.A (compareOp .NotEq v u) (EP X pins σ Q) X.xe s) := by
  unfold eqR at e
  split at e
  · rename_i hz
    rw [Bool.and_eq_true] at hz
    cases e
    obtain ⟨d1, d2⟩ := shaped_of g hz.1 ra
    obtain ⟨e1, e2⟩ := shaped_of g hz.2 rb
    have eq := eqT_D dpth dpth a b hz.1 hz.2
    exact ⟨fun q => op_eqD (by omega) pins s σ H x y v u Q I rx ry ⟨_, _, d1, e1, d2, e2, by rw [← eq]; exact q⟩, fun q => op_neD (by omega) pins s σ H x y v u Q I rx ry ⟨_, _, d1, e1, d2, e2, by rw [← eq]; exact q⟩⟩
  · exact eqDi_ok hu I rx ry g ra rb e Q
theorem non_iff {K : PySem.W.Frag} {J : Hp} {a : T} {x : V} (r : RS c K J a x) : decide (x = .non) = isNon a := by
  cases a with
  | non => simp only [RS] at r; subst r; rfl
  | bl b => simp only [RS] at r; subst r; rfl
  | int b => simp only [RS] at r; subst r; rfl
  | str b => simp only [RS] at r; obtain ⟨rfl, _⟩ := r; rfl
  | nd g o xs => simp only [RS] at r; obtain ⟨a, vs, rfl, _⟩ := r; rfl
theorem op_cmp (hu : X.A.units + 66 < cLine) (op : CmpOp) : OpR X (compareOp op) (r2T c X.K (cmpT op)) := by
  intro pins s σ H x y v u Q I rx ry h
  obtain ⟨J, a, b, t, g, ra, rb, e, p⟩ := h
  unfold cmpT at e
  split at e
  · obtain ⟨k, e1, e2⟩ := R.bind_ok e
    cases e2
    exact (eq_ok hu I rx ry g ra rb e1 Q).1 (Post.bl g p)
  · obtain ⟨k, e1, e2⟩ := R.bind_ok e
    cases e2
    exact (eq_ok hu I rx ry g ra rb e1 Q).2 (Post.bl g p)
  · simp only [RS] at ra rb; subst ra rb; cases e
    exact op_lt pins s σ H _ _ v u Q I rx ry ⟨_, _, rfl, rfl, Post.bl g p⟩
  · simp only [RS] at ra rb; subst ra rb; cases e
    exact op_le pins s σ H _ _ v u Q I rx ry ⟨_, _, rfl, rfl, Post.bl g p⟩
  · simp only [RS] at ra rb; subst ra rb; cases e
    exact op_gt pins s σ H _ _ v u Q I rx ry ⟨_, _, rfl, rfl, Post.bl g p⟩
  · simp only [RS] at ra rb; subst ra rb; cases e
    exact op_ge pins s σ H _ _ v u Q I rx ry ⟨_, _, rfl, rfl, Post.bl g p⟩
  · obtain ⟨k, e1, e2⟩ := R.bind_ok e
    cases e2
    exact (in_ok hu I rx ry g ra rb e1 Q).1 (Post.bl g p)
  · obtain ⟨k, e1, e2⟩ := R.bind_ok e
    cases e2
    exact (in_ok hu I rx ry g ra rb e1 Q).2 (Post.bl g p)
  · simp only [RS] at rb; subst rb; cases e
    exact op_isN pins s σ H _ _ v u Q I rx ry ⟨rfl, by rw [non_iff ra]; exact Post.bl g p⟩
  · simp only [RS] at rb; subst rb; cases e
    refine op_notN pins s σ H _ _ v u Q I rx ry ⟨rfl, ?_⟩
    rw [non_iff ra]
    exact Post.bl g p
  · cases e
end
end Rb
/-! Items, slices, built-in functions of one argument. -/
namespace Rb
open PySem
open PySem.Spec
open PyProof.Rows
open L2
section
variable {c : CA} {X : Cx}
theorem RSs.atI {K : PySem.W.Frag} {J : Hp} {ts : List T} {vs : List V} {i : Int} {t : T} (h : RSs c K J ts vs) (e : L2.atI ts i = some t) : ∃ v, L2.atI vs i = some v ∧ RS c K J t v := by
  unfold L2.atI at e ⊢
  rw [← h.length]
  cases q : ixN ts.length i with
  | none => rw [q] at e; cases e
  | some j =>
    rw [q] at e
    exact h.get e
/-- a[i] of a dict -/
theorem ix_dict (hu : X.A.units + 1 < cLine) : IxR X (fun x y H Q => ∃ a v, x = .ref a ∧ DGet H a y (some v) ∧ Q v H) := by
  intro value slice pins s σ H x y v u Q I rx ry h hs
  obtain ⟨a, z, rfl, g, q⟩ := h
  obtain rfl : v = Value.ref a := rx
  have hT := dict_typeIs I g
  unfold subscriptTail
  refine wpAny_bind ?_
  rw [getitemInPython_of_ne hT.not_modules]
  refine wpAny_bind (wpAny_specialOf hT PySem.F.slot_dict_getitem.lookup ?_)
  have h₂ : wpAny (model X.prog X.w) X.A (getItem (.ref a) u) (EP X pins σ Q) X.xe s := d_getItem hu I g ry fun w' s3 I3 rw' => ⟨z, H, I3, rw', q⟩
  have fin : wpAny (model X.prog X.w) X.A (subscripted slice false (.ref a) u) (fun r s₃ => wpAny (model X.prog X.w) X.A (letTemporaryGo value (.ref a) r >>= fun _ => pure r) (EP X pins σ Q) X.xe s₃) X.xe s := by
    rw [hs]
    exact wpAny_operating (wpAny_mono h₂ (fun r s₃ h₃ => wpAny_bind (wpAny_letTemporaryGo (wpAny_pure h₃))) fun _ _ x => x)
  first
    | exact wpAny_pure (wpAny_bind fin)
    | exact wpAny_bind (wpAny_pure (wpAny_bind fin))
    | exact wpAny_bind fin
theorem mem_atI {α : Type} {xs : List α} {i : Int} {x : α} (h : L2.atI xs i = some x) : x ∈ xs := by
  obtain ⟨j, _, e, _⟩ := atI_get h
  exact List.mem_of_getElem? e
theorem sOk_one {z : Str} (h : sOk z) {i : Int} {k : Nat} (e : L2.atI z.cps.toList i = some k) : sOk ⟨#[k]⟩ := by
  refine ⟨(by show 1 ≤ sizeLine; decide), ?_⟩
  have h2 := h.2
  unfold PyData.strOk at h2 ⊢
  have m : k ∈ z.cps := by
    have := mem_atI e
    simpa using this
  have := (Array.all_eq_true_iff_forall_mem.mp h2) k m
  simpa using this
theorem ix_T (hu : X.A.units + 1 < cLine) : IxR X (r2T c X.K ixT) := by
  intro value slice pins s σ H x y v u Q I rx ry h hs
  obtain ⟨J, a, b, t, g, ra, rb, e, p⟩ := h
  unfold ixT at e
  split at e
  · simp only [RS] at rb; subst rb
    obtain ⟨d, vs, rfl, j1, h1, q1⟩ := rs_lst g ra
    split at e
    · rename_i t' ht
      cases e
      obtain ⟨z, e1, e2⟩ := q1.atI ht
      exact ix_list value slice pins s σ H _ _ v u Q I rx ry ⟨d, vs, _, z, rfl, rfl, SqL.of h1, e1, Post.same g e2 p⟩ hs
    · cases e
  · simp only [RS] at rb; subst rb
    obtain ⟨d, vs, rfl, h1, q1⟩ := rs_ext g ra
    split at e
    · rename_i t' ht
      cases e
      obtain ⟨z, e1, e2⟩ := q1.atI ht
      exact ix_list value slice pins s σ H _ _ v u Q I rx ry ⟨d, vs, _, z, rfl, rfl, h1, e1, Post.same g e2 p⟩ hs
    · cases e
  · simp only [RS] at rb; subst rb
    obtain ⟨d, vs, rfl, j1, h1, q1⟩ := rs_tup g ra
    split at e
    · rename_i t' ht
      cases e
      obtain ⟨z, e1, e2⟩ := q1.atI ht
      exact ix_tup value slice pins s σ H _ _ v u Q I rx ry ⟨d, vs, _, z, rfl, rfl, SqT.of h1, e1, Post.same g e2 p⟩ hs
    · cases e
  · simp only [RS] at ra rb; subst rb
    obtain ⟨rfl, la⟩ := ra
    split at e
    · rename_i k hk
      cases e
      exact ix_str value slice pins s σ H _ _ v u Q I rx ry ⟨_, _, k, rfl, rfl, la.1, hk, Post.str g (sOk_one la hk) p⟩ hs
    · cases e
  · obtain ⟨o, e1, e2⟩ := R.bind_ok e
    obtain ⟨d, ov, rfl, dg, m⟩ := dget_rs g ra rb e1
    cases o with
    | none => cases e2
    | some t' =>
      cases e2
      obtain ⟨z, rfl, rz⟩ := m
      exact ix_dict hu value slice pins s σ H _ _ v u Q I rx ry ⟨d, z, rfl, dg, Post.same g rz p⟩ hs
/-- a slice -/
def rSlTr (c : CA) (K : PySem.W.Frag) : V → Option Int → Option Int → Hp → VK → Prop := fun x lo hi H Q => ∃ (J : Hp) (a t : T), Good J H ∧ RS c K J a x ∧ slT a lo hi = .ok t ∧ Post c K J H t Q
theorem sl_T : SlR X (rSlTr c X.K) := by
  intro pins s σ H x v vl vu lo hi sl Q I rx hs pl pu h
  obtain ⟨J, a, t, g, ra, e, p⟩ := h
  unfold slT at e
  split at e
  · cases e
    obtain ⟨d, vs, rfl, j1, h1, q1⟩ := rs_lst g ra
    refine sl_list pins s σ H _ v vl vu lo hi sl Q I rx hs pl pu ⟨d, vs, rfl, SqL.of h1, ?_⟩
    unfold cutT at p
    rw [q1.length] at p
    exact Post.lst g (q1.mem_sub _ _) p
  · cases e
    obtain ⟨d, vs, rfl, h1, q1⟩ := rs_ext g ra
    refine sl_list pins s σ H _ v vl vu lo hi sl Q I rx hs pl pu ⟨d, vs, rfl, h1, ?_⟩
    unfold cutT at p
    rw [q1.length] at p
    exact Post.lst g (q1.mem_sub _ _) p
  · cases e
    obtain ⟨d, vs, rfl, j1, h1, q1⟩ := rs_tup g ra
    refine sl_tupA pins s σ H _ v vl vu lo hi sl Q I rx hs pl pu ⟨d, vs, rfl, SqT.of h1, fun hw => ?_, fun hw => ?_⟩
    · obtain ⟨w1, w2⟩ := hw
      unfold cutT at p
      rw [q1.length, w1, w2, List.drop_zero, Nat.sub_zero, ← q1.length, List.take_length] at p
      refine p (.ref d) J H [] (.refl g) .nil ?_
      unfold mkTup
      simp only [RO]
      cases q : flats (strips _) with
      | true => exact ⟨⟨d, _, rfl, j1, (RSs_strips _ _).mpr q1⟩, trivial⟩
      | false => exact ⟨d, _, rfl, j1, ros_strips q1⟩
    · unfold cutT at p
      rw [q1.length] at p
      exact Post.tup g (q1.mem_sub _ _) p
  · cases e
/-! ### built-in functions -/
def r1T (c : CA) (K : PySem.W.Frag) (f : T → R T) : List V → Hp → VK → Prop := fun xs H Q => ∃ (J : Hp) (a t : T) (x : V), xs = [x] ∧ Good J H ∧ RS c K J a x ∧ f a = .ok t ∧ Post c K J H t Q
theorem boolsT_rs {K : PySem.W.Frag} {J : Hp} : ∀ {ts : List T} {vs : List V} {bs : List Bool}, RSs c K J ts vs → boolsT ts = some bs → vs = bs.map V.bl
  | [], vs, bs, r, e => by simp only [boolsT] at e; cases e; simp only [RSs] at r; subst r; rfl
  | .bl b :: ts, vs, bs, r, e => by
    simp only [boolsT, Option.map_eq_some_iff] at e
    obtain ⟨bs', e1, rfl⟩ := e
    simp only [RSs, RS] at r
    obtain ⟨v, r', rfl, rfl, r2⟩ := r
    rw [boolsT_rs r2 e1]; rfl
  | .non :: ts, vs, bs, r, e => by simp [boolsT] at e
  | .int _ :: ts, vs, bs, r, e => by simp [boolsT] at e
  | .str _ :: ts, vs, bs, r, e => by simp [boolsT] at e
  | .nd _ _ _ :: ts, vs, bs, r, e => by simp [boolsT] at e
theorem intsT_rs {K : PySem.W.Frag} {J : Hp} : ∀ {ts : List T} {vs : List V} {bs : List Int}, RSs c K J ts vs → intsT ts = some bs → vs = bs.map V.int
  | [], vs, bs, r, e => by simp only [intsT] at e; cases e; simp only [RSs] at r; subst r; rfl
  | .int b :: ts, vs, bs, r, e => by
    simp only [intsT, Option.map_eq_some_iff] at e
    obtain ⟨bs', e1, rfl⟩ := e
    simp only [RSs, RS] at r
    obtain ⟨v, r', rfl, rfl, r2⟩ := r
    rw [intsT_rs r2 e1]; rfl
  | .non :: ts, vs, bs, r, e => by simp [intsT] at e
  | .bl _ :: ts, vs, bs, r, e => by simp [intsT] at e
  | .str _ :: ts, vs, bs, r, e => by simp [intsT] at e
  | .nd _ _ _ :: ts, vs, bs, r, e => by simp [intsT] at e
theorem optR_ok {α β : Type} {o : Option α} {f : α → R β} {b : β} (h : optR o f = .ok b) : ∃ a, o = some a ∧ f a = .ok b := by
  cases o with
  | none => cases h
  | some a => exact ⟨a, rfl, h⟩
theorem maxI_go : ∀ (xs : List Int) (x : Int), (xs.foldl (fun m y => if m < y then y else m) x = x ∨ xs.foldl (fun m y => if m < y then y else m) x ∈ xs) ∧ x ≤ xs.foldl (fun m y => if m < y then y else m) x ∧ ∀ y ∈ xs, y ≤ xs.foldl (fun m y => if m < y then y else m) x
  | [], x => ⟨.inl rfl, Int.le_refl _, fun _ h => (nomatch h)⟩
  | z :: xs, x => by
    rw [List.foldl_cons]
    obtain ⟨h1, h2, h3⟩ := maxI_go xs (if x < z then z else x)
    have k1 : x ≤ (if x < z then z else x) := by split <;> omega
    have k2 : z ≤ (if x < z then z else x) := by split <;> omega
    refine ⟨?_, Int.le_trans k1 h2, fun y hy => ?_⟩
    · rcases h1 with h1 | h1
      · rw [h1]
        by_cases hh : x < z
        · rw [if_pos hh]; exact .inr List.mem_cons_self
        · rw [if_neg hh]; exact .inl rfl
      · exact .inr (List.mem_cons_of_mem _ h1)
    · rcases List.mem_cons.mp hy with rfl | hy
      · exact Int.le_trans k2 h2
      · exact h3 y hy
theorem maxI_ok {ns : List Int} (h : ns ≠ []) : maxI ns ∈ ns ∧ ∀ y ∈ ns, y ≤ maxI ns := by
  cases ns with
  | nil => exact absurd rfl h
  | cons x xs =>
    obtain ⟨h1, h2, h3⟩ := maxI_go xs x
    refine ⟨?_, fun y hy => ?_⟩
    · rcases h1 with h1 | h1
      · exact List.mem_cons.mpr (.inl h1)
      · exact List.mem_cons_of_mem _ h1
    · rcases List.mem_cons.mp hy with rfl | hy
      · exact h2
      · exact h3 y hy
theorem minI_go : ∀ (xs : List Int) (x : Int), (xs.foldl (fun m y => if y < m then y else m) x = x ∨ xs.foldl (fun m y => if y < m then y else m) x ∈ xs) ∧ xs.foldl (fun m y => if y < m then y else m) x ≤ x ∧ ∀ y ∈ xs, xs.foldl (fun m y => if y < m then y else m) x ≤ y
  | [], x => ⟨.inl rfl, Int.le_refl _, fun _ h => (nomatch h)⟩
  | z :: xs, x => by
    rw [List.foldl_cons]
    obtain ⟨h1, h2, h3⟩ := minI_go xs (if z < x then z else x)
    have k1 : (if z < x then z else x) ≤ x := by split <;> omega
    have k2 : (if z < x then z else x) ≤ z := by split <;> omega
    refine ⟨?_, Int.le_trans h2 k1, fun y hy => ?_⟩
    · rcases h1 with h1 | h1
      · rw [h1]
        by_cases hh : z < x
        · rw [if_pos hh]; exact .inr List.mem_cons_self
        · rw [if_neg hh]; exact .inl rfl
      · exact .inr (List.mem_cons_of_mem _ h1)
    · rcases List.mem_cons.mp hy with rfl | hy
      · exact Int.le_trans h2 k2
      · exact h3 y hy
theorem minI_ok {ns : List Int} (h : ns ≠ []) : minI ns ∈ ns ∧ ∀ y ∈ ns, minI ns ≤ y := by
  cases ns with
  | nil => exact absurd rfl h
  | cons x xs =>
    obtain ⟨h1, h2, h3⟩ := minI_go xs x
    refine ⟨?_, fun y hy => ?_⟩
    · rcases h1 with h1 | h1
      · exact List.mem_cons.mpr (.inl h1)
      · exact List.mem_cons_of_mem _ h1
    · rcases List.mem_cons.mp hy with rfl | hy
      · exact h2
      · exact h3 y hy
theorem cr_len : CallR X (.builtin "len") (r1T c X.K (b1T .len)) := by
  intro pins s σ H xs us Q I r h
  obtain ⟨J, a, t, x, rfl, g, ra, e, p⟩ := h
  cases a with
  | nd gg o ts =>
    cases gg with
    | lst =>
      simp only [b1T] at e; cases e
      obtain ⟨d, vs, rfl, j1, h1, q1⟩ := rs_lst g ra
      exact call_len pins s σ H _ us Q I r ⟨_, ts.length, rfl, .inl ⟨vs, SqL.of h1, q1.length⟩, Post.int g p⟩
    | ext =>
      simp only [b1T] at e; cases e
      obtain ⟨d, vs, rfl, h1, q1⟩ := rs_ext g ra
      exact call_len pins s σ H _ us Q I r ⟨_, ts.length, rfl, .inl ⟨vs, h1, q1.length⟩, Post.int g p⟩
    | tup =>
      simp only [b1T] at e; cases e
      obtain ⟨d, vs, rfl, j1, h1, q1⟩ := rs_tup g ra
      exact call_len pins s σ H _ us Q I r ⟨_, ts.length, rfl, .inr ⟨vs, SqT.of h1, q1.length⟩, Post.int g p⟩
    | dk ks =>
      simp only [b1T] at e; cases e
      obtain ⟨d, vs, rfl, j1, h1, l1, q1⟩ := rs_dk g ra
      refine call_lenD pins s σ H _ us Q I r ⟨d, _, rfl, h1, ?_⟩
      rw [List.length_zip, l1, Nat.min_self, ← l1]
      exact Post.int g p
    | dt ks => simp [b1T] at e
    | obj C fs => simp [b1T] at e
  | str z =>
    simp only [b1T] at e; cases e
    simp only [RS] at ra
    obtain ⟨rfl, la⟩ := ra
    exact call_len pins s σ H _ us Q I r ⟨_, z.length, rfl, ⟨la.1, rfl⟩, Post.int g p⟩
  | non => simp [b1T] at e
  | bl b => simp [b1T] at e
  | int b => simp [b1T] at e
theorem cr_int : CallR X (.type "int") (r1T c X.K (b1T .int)) := by
  intro pins s σ H xs us Q I r h
  obtain ⟨J, a, t, x, rfl, g, ra, e, p⟩ := h
  cases a with
  | int i => simp only [b1T] at e; cases e; simp only [RS] at ra; subst ra; exact call_int1 pins s σ H _ us Q I r (.inl ⟨_, rfl, Post.int g p⟩)
  | bl i => simp only [b1T] at e; cases e; simp only [RS] at ra; subst ra; exact call_int1 pins s σ H _ us Q I r (.inr ⟨_, rfl, Post.int g p⟩)
  | nd gg o ts => cases gg <;> simp [b1T] at e
  | _ => simp [b1T] at e
theorem cr_abs : CallR X (.builtin "abs") (r1T c X.K (b1T .abs)) := by
  intro pins s σ H xs us Q I r h
  obtain ⟨J, a, t, x, rfl, g, ra, e, p⟩ := h
  cases a with
  | int i => simp only [b1T] at e; cases e; simp only [RS] at ra; subst ra; exact call_abs pins s σ H _ us Q I r ⟨_, rfl, Post.int g p⟩
  | nd gg o ts => cases gg <;> simp [b1T] at e
  | _ => simp [b1T] at e
theorem sOk_ofString (s : String) (h : (Str.ofString s).length ≤ sizeLine) : sOk (Str.ofString s) := by
  refine ⟨h, ?_⟩
  unfold PyData.strOk
  rw [Str.ofString_eq_toList]
  simp only [List.all_toArray, List.all_map, List.all_eq_true, Function.comp, decide_eq_true_eq]
  intro ch _
  have h2 := ch.valid
  simp only [UInt32.isValidChar, Nat.isValidChar] at h2
  show ch.val.toNat < 1114112
  omega
theorem sOk_num {i : Int} (h : i.natAbs.log2 < 1920) : sOk (toString i : String) := sOk_ofString _ (PySem.int_text_fits h)
theorem cr_strT : CallR X (.type "str") (r1T c X.K (b1T .str)) := by
  intro pins s σ H xs us Q I r h
  obtain ⟨J, a, t, x, rfl, g, ra, e, p⟩ := h
  cases a with
  | int i =>
    simp only [b1T] at e
    split at e
    · rename_i hz
      cases e; simp only [RS] at ra; subst ra; exact call_str_int pins s σ H _ us Q I r ⟨_, rfl, hz, Post.str g (sOk_num hz) p⟩
    · cases e
  | nd gg o ts => cases gg <;> simp [b1T] at e
  | _ => simp [b1T] at e
theorem cr_listT : CallR X (.type "list") (r1T c X.K (b1T .list)) := by
  intro pins s σ H xs us Q I r h
  obtain ⟨J, a, t, x, rfl, g, ra, e, p⟩ := h
  cases a with
  | nd gg o ts =>
    cases gg with
    | lst =>
      simp only [b1T] at e; cases e
      obtain ⟨d, vs, rfl, j1, h1, q1⟩ := rs_lst g ra
      exact call_list_of pins s σ H _ us Q I r ⟨d, vs, rfl, .inl (SqL.of h1), Post.lst g q1 p⟩
    | ext =>
      simp only [b1T] at e; cases e
      obtain ⟨d, vs, rfl, h1, q1⟩ := rs_ext g ra
      exact call_list_of pins s σ H _ us Q I r ⟨d, vs, rfl, .inl h1, Post.lst g q1 p⟩
    | tup =>
      simp only [b1T] at e; cases e
      obtain ⟨d, vs, rfl, j1, h1, q1⟩ := rs_tup g ra
      exact call_list_of pins s σ H _ us Q I r ⟨d, vs, rfl, .inr (SqT.of h1), Post.lst g q1 p⟩
    | _ => simp [b1T] at e
  | _ => simp [b1T] at e
theorem cr_dictT : CallR X (.type "dict") (r1T c X.K (b1T .dict)) := by
  intro pins s σ H xs us Q I r h
  obtain ⟨J, a, t, x, rfl, g, ra, e, p⟩ := h
  cases a with
  | nd gg o ts =>
    cases gg with
    | dk ks =>
      simp only [b1T] at e; cases e
      obtain ⟨d, vs, rfl, j1, h1, l1, q1⟩ := rs_dk g ra
      cases r with
      | cons r0 r1 =>
        cases r1
        cases (show _ = Value.ref d from r0)
        refine d_copyOf I (.inl h1) fun q s' hq I' => ?_
        exact ⟨V.ref q, _, I', rfl, Post.dk g l1 q1 p _ hq⟩
    | _ => simp [b1T] at e
  | _ => simp [b1T] at e
theorem cr_allT (hc : X.calm = true) : CallR X (.builtin "all") (r1T c X.K (b1T .all)) := by
  intro pins s σ H xs us Q I r h
  obtain ⟨J, a, t, x, rfl, g, ra, e, p⟩ := h
  cases a with
  | nd gg o ts =>
    cases gg with
    | lst =>
      simp only [b1T] at e
      obtain ⟨bs, e1, e2⟩ := optR_ok e
      cases e2
      obtain ⟨d, vs, rfl, j1, h1, q1⟩ := rs_lst g ra
      have := boolsT_rs q1 e1
      subst this
      exact cr_all hc pins s σ H _ us Q I r ⟨d, bs, rfl, SqL.of h1, Post.bl g p⟩
    | _ => simp [b1T] at e
  | _ => simp [b1T] at e
theorem cr_anyT (hc : X.calm = true) : CallR X (.builtin "any") (r1T c X.K (b1T .any)) := by
  intro pins s σ H xs us Q I r h
  obtain ⟨J, a, t, x, rfl, g, ra, e, p⟩ := h
  cases a with
  | nd gg o ts =>
    cases gg with
    | lst =>
      simp only [b1T] at e
      obtain ⟨bs, e1, e2⟩ := optR_ok e
      cases e2
      obtain ⟨d, vs, rfl, j1, h1, q1⟩ := rs_lst g ra
      have := boolsT_rs q1 e1
      subst this
      exact cr_any hc pins s σ H _ us Q I r ⟨d, bs, rfl, SqL.of h1, Post.bl g p⟩
    | _ => simp [b1T] at e
  | _ => simp [b1T] at e
theorem cr_sumT (hc : X.calm = true) : CallR X (.builtin "sum") (r1T c X.K (b1T .sum)) := by
  intro pins s σ H xs us Q I r h
  obtain ⟨J, a, t, x, rfl, g, ra, e, p⟩ := h
  cases a with
  | nd gg o ts =>
    cases gg with
    | lst =>
      simp only [b1T] at e
      obtain ⟨bs, e1, e2⟩ := optR_ok e
      cases e2
      obtain ⟨d, vs, rfl, j1, h1, q1⟩ := rs_lst g ra
      have := intsT_rs q1 e1
      subst this
      exact cr_sum hc pins s σ H _ us Q I r ⟨d, bs, rfl, SqL.of h1, Post.int g p⟩
    | _ => simp [b1T] at e
  | _ => simp [b1T] at e
theorem cr_maxT (hc : X.calm = true) : CallR X (.builtin "max") (r1T c X.K (b1T .max)) := by
  intro pins s σ H xs us Q I r h
  obtain ⟨J, a, t, x, rfl, g, ra, e, p⟩ := h
  cases a with
  | nd gg o ts =>
    cases gg with
    | lst =>
      simp only [b1T] at e
      obtain ⟨bs, e1, e2⟩ := optR_ok e
      split at e2
      · cases e2
      · rename_i hz
        cases e2
        obtain ⟨d, vs, rfl, j1, h1, q1⟩ := rs_lst g ra
        have := intsT_rs q1 e1
        subst this
        have hn : bs ≠ [] := fun z => by subst z; simp at hz
        obtain ⟨m1, m2⟩ := maxI_ok hn
        refine cr_max hc pins s σ H _ us Q I r ⟨d, bs, rfl, SqL.of h1, List.length_pos_iff.mpr hn, fun m hm hm2 => ?_⟩
        have : m = maxI bs := Int.le_antisymm (m2 m hm) (hm2 _ m1)
        rw [this]
        exact Post.int g p
    | _ => simp [b1T] at e
  | _ => simp [b1T] at e
theorem cr_minT (hc : X.calm = true) : CallR X (.builtin "min") (r1T c X.K (b1T .min)) := by
  intro pins s σ H xs us Q I r h
  obtain ⟨J, a, t, x, rfl, g, ra, e, p⟩ := h
  cases a with
  | nd gg o ts =>
    cases gg with
    | lst =>
      simp only [b1T] at e
      obtain ⟨bs, e1, e2⟩ := optR_ok e
      split at e2
      · cases e2
      · rename_i hz
        cases e2
        obtain ⟨d, vs, rfl, j1, h1, q1⟩ := rs_lst g ra
        have := intsT_rs q1 e1
        subst this
        have hn : bs ≠ [] := fun z => by subst z; simp at hz
        obtain ⟨m1, m2⟩ := minI_ok hn
        refine cr_min hc pins s σ H _ us Q I r ⟨d, bs, rfl, SqL.of h1, List.length_pos_iff.mpr hn, fun m hm hm2 => ?_⟩
        have : m = minI bs := Int.le_antisymm (hm2 _ m1) (m2 m hm)
        rw [this]
        exact Post.int g p
    | _ => simp [b1T] at e
  | _ => simp [b1T] at e
end
end Rb
/-! The little language: expressions and their worth. -/
namespace Rb
open PySem
open PySem.Spec
open PyProof.Rows
open L2
/-- what a target is: a slot, a tuple of targets -/
inductive Pat where
  | nm (i : Nat) | tp (ps : List Pat)
mutual
inductive IE where
  | var (i : Nat)
  | lit (v : T)
  | glb (x : String) (v : Key)
  | bin (op : Operator) (a b : IE)
  | neg (a : IE)
  | no (a : IE)
  | cmp (op : CmpOp) (a b : IE)
  | chain (op op' : CmpOp) (a b d : IE)
  | bo (op : BoolOp) (es : List IE)
  | ifx (a b d : IE)
  | tup (es : List IE)
  | lst (es : List IE)
  | sub (a i : IE)
  | slc (a : IE) (lo hi : List IE)
  | att (e : IE) (f : String)
  | call (f : String) (es : List IE)
  | mth (e : IE) (m : String) (es : List IE)
  | new (C : String) (es : List IE)
  | b1 (f : B1) (a : IE)
  | b2 (mx : Bool) (a b : IE)
  | isi (a : IE) (ty : String)
  | lc (elt : IE) (tg : Pat) (it : It') (ifs : List IE)
  | dc (k v : IE) (tg : Pat) (it : It') (ifs : List IE)
  | dk0
  | dt0
  | srt (a : IE)
  | lset (a : IE)
  | mxd (mx : Bool) (a b : IE)
  | gt (d k : IE)
  | rv (a : IE)
  | d1 (i : Nat) (n : Int)
inductive It' where
  | seq (e : IE)
  | rng1 (a : IE)
  | rng2 (a b : IE)
  | enm (a : IE)
  | zp (a b : IE)
end
/-- what the defs are worth -/
structure Calls where
  fn : String → List T → R T
  me : String → String → List T → R T
  pr : String → String → T → R T
  nw : String → List T → R T
  fld : String → String → Bool
  hm : String → String → Bool
mutual
def asgP : Pat → T → Env → Option Env
  | .nm i, t, env => some (env.set i (some t))
  | .tp ps, t, env => match t with
    | .nd .tup _ xs => asgPs ps xs env
    | _ => none
def asgPs : List Pat → List T → Env → Option Env
  | [], [], env => some env
  | p :: ps, x :: xs, env => match asgP p x env with
    | some e => asgPs ps xs e
    | none => none
  | _, _, _ => none
end
mutual
def slots : Pat → List Nat
  | .nm i => [i]
  | .tp ps => slotss ps
def slotss : List Pat → List Nat
  | [] => []
  | p :: ps => slots p ++ slotss ps
end
/-- those slots are no more known -/
def kill : List Nat → Env → Env
  | [], env => env
  | i :: is, env => kill is (env.set i none)
def getS (env : Env) (i : Nat) : Option T := match env[i]? with
  | some (some t) => some t
  | _ => none
/-- the items that a step keeps -/
def lcGo (stp : T → R (Option T)) : List T → R (List T)
  | [] => .ok []
  | x :: xs => do
    let o ← stp x
    let ys ← lcGo stp xs
    match o with
    | some y => .ok (y :: ys)
    | none => .ok ys
/-- a dict filled step by step -/
def putV {κ : Type} [DecidableEq κ] : List κ → List T → κ → T → List T
  | k :: ks, x :: xs, q, t => (if k = q then t else x) :: putV ks xs q t
  | _, xs, _, _ => xs
def memK {κ : Type} [DecidableEq κ] (q : κ) (ks : List κ) : Bool := decide (q ∈ ks)
def putT {κ : Type} [DecidableEq κ] (ks : List κ) (xs : List T) (q : κ) (t : T) : List κ × List T :=
  if memK q ks then (ks, putV ks xs q t) else (ks ++ [q], xs ++ [t])
def dcGo (stp : T → R (Option (Key × T))) : List T → List Key → List T → R (List Key × List T)
  | [], ks, vs => .ok (ks, vs)
  | x :: xs, ks, vs => do
    match ← stp x with
    | some (k, y) => if decide (ks.length < sizeLine) && (!memK k ks || (flats vs && flat y)) then dcGo stp xs (putT ks vs k y).1 (putT ks vs k y).2 else .bad
    | none => dcGo stp xs ks vs
def childs : T → R (List T)
  | .nd .lst _ xs => .ok xs
  | .nd .ext _ xs => .ok xs
  | .nd .tup _ xs => .ok xs
  | .str z => .ok (z.cps.toList.map fun k => .str ⟨#[k]⟩)
  | _ => .bad
def rngT (lo hi : Int) : R (List T) := if -(2 ^ 62) ≤ lo ∧ lo < 2 ^ 62 ∧ -(2 ^ 62) ≤ hi ∧ hi < 2 ^ 62 then .ok ((List.range (hi - lo).toNat).map fun k => .int (lo + (k : Nat))) else .bad
def enmT : T → R (List T)
  | .nd .lst _ xs => .ok (xs.zipIdx.map fun p => mkTup [.int (p.2 : Nat), strip p.1])
  | _ => .bad
def zpT : T → T → R (List T)
  | .nd .lst _ xs, .nd .lst _ ys => .ok ((xs.zip ys).map fun p => mkTup [strip p.1, strip p.2])
  | _, _ => .bad
def intT : T → R Int
  | .int i => .ok i
  | _ => .bad
/-- isinstance, a built-in class -/
def isiT : T → String → R T
  | .non, _ => .ok (.bl false)
  | .bl _, ty => if ty = "bool" ∨ ty = "int" then .ok (.bl true) else .ok (.bl false)
  | .int _, ty => .ok (.bl (ty == "int"))
  | .str _, ty => .ok (.bl (ty == "str"))
  | .nd .lst _ _, ty => .ok (.bl (ty == "list"))
  | .nd .tup _ _, ty => .ok (.bl (ty == "tuple"))
  | .nd (.dk _) _ _, ty => .ok (.bl (ty == "dict"))
  | .nd (.dt _) _ _, ty => .ok (.bl (ty == "dict"))
  | _, _ => .bad
def b2T (mx : Bool) : T → T → R T
  | .int i, .int j => .ok (.int (if mx then (if j > i then j else i) else (if j < i then j else i)))
  | _, _ => .bad
def negT : T → R T
  | .int i => .ok (.int (-i))
  | _ => .bad
def attT (C : Calls) (f : String) : T → R T
  | .nd (.obj cn fs) o xs => match getK fs xs f with
    | some t => if C.fld cn f then .ok (strip t) else .bad
    | none => (C.pr cn f (.nd (.obj cn fs) false (strips xs))).calm
  | _ => .bad
/-- the class of an instance that has the method -/
def clsT (C : Calls) (m : String) : T → R String
  | .nd (.obj cn fs) _ _ => if C.hm cn m && !fs.contains m then .ok cn else .bad
  | _ => .bad
/-- a dict, for a method of it -/
def isDk : T → R Unit
  | .nd (.dk _) _ _ => .ok ()
  | .nd (.dt _) _ _ => .ok ()
  | _ => .bad
def gtT (d k : T) : R T := do
  let o ← dgetT d k
  .ok (match o with
    | some t => strip t
    | none => .non)
def rvT : T → R T
  | .nd .lst _ xs => .ok (.nd .lst true (strips xs.reverse))
  | _ => .bad
def d1T (n : Int) (t : T) : R T := match keyT t with
  | some q => .ok (.nd (.dk [q]) true [.int n])
  | none => .bad
def boPick {α : Type} (op : BoolOp) (b : Bool) (x y : α) : α := match op with
  | .And => if b then y else x
  | .Or => if b then x else y
section
variable (C : Calls)
mutual
def ev (env : Env) : IE → R T
  | .var i => optR (getS env i) fun t => .ok (strip t)
  | .lit v => .ok v
  | .glb _ v => .ok (keyO v)
  | .bin op a b => do
    let x ← ev env a
    let y ← ev env b
    binT op x y
  | .neg a => do
    let x ← ev env a
    negT x
  | .no a => do
    let x ← ev env a
    let k ← truth x
    .ok (.bl (!k))
  | .cmp op a b => do
    let x ← ev env a
    let y ← ev env b
    cmpT op x y
  | .chain op op' a b d => do
    let x ← ev env a
    let y ← ev env b
    let z ← cmpT op x y
    match z with
    | .bl true => do
      let w ← ev env d
      cmpT op' y w
    | .bl false => .ok (.bl false)
    | _ => .bad
  | .bo op es => evb env op es
  | .ifx a b d => do
    let x ← ev env a
    let k ← truth x
    if k then ev env b else ev env d
  | .tup es => do
    let ts ← evs env es
    if ts.length ≤ sizeLine then .ok (mkTup ts) else .bad
  | .lst es => do
    let ts ← evs env es
    if ts.length ≤ sizeLine then .ok (.nd .lst true ts) else .bad
  | .sub a i => do
    let x ← ev env a
    let y ← ev env i
    ixT x y
  | .slc a lo hi => do
    let x ← ev env a
    let l ← evo env lo
    let h ← evo env hi
    slT x l h
  | .att e f => do
    let x ← ev env e
    attT C f x
  | .call f es => do
    let ts ← evs env es
    C.fn f (strips ts)
  | .mth e m es => do
    let x ← ev env e
    let cn ← clsT C m x
    let ts ← evs env es
    C.me cn m (strip x :: strips ts)
  | .new f es => do
    let ts ← evs env es
    C.nw f (strips ts)
  | .b1 f a => do
    let x ← ev env a
    b1T f x
  | .b2 mx a b => do
    let x ← ev env a
    let y ← ev env b
    b2T mx x y
  | .isi a ty => do
    let x ← ev env a
    isiT x ty
  | .lc elt tg it ifs => do
    let xs ← evi env it
    let ys ← (lcGo (fun x => optR (asgP tg x (kill (slots tg) env)) fun env' => do
      let k ← evc env' ifs
      if k then (do
        let y ← ev env' elt
        .ok (some y)) else .ok none) xs).calm
    if ys.length ≤ sizeLine then .ok (.nd .lst true ys) else .bad
  | .dc k v tg it ifs => do
    let xs ← evi env it
    let p ← (dcGo (fun x => optR (asgP tg x (kill (slots tg) env)) fun env' => do
      let b ← evc env' ifs
      if b then (do
        let q ← ev env' k
        let y ← ev env' v
        optR (keyT q) fun q => .ok (some (q, y))) else .ok none) xs [] []).calm
    .ok (.nd (.dk p.1) true p.2)
  | .dk0 => .ok (.nd (.dk []) true [])
  | .dt0 => .ok (.nd (.dt []) true [])
  | .srt a => do
    let x ← ev env a
    srtT x
  | .lset a => do
    let x ← ev env a
    lsetT x
  | .mxd mx a b => do
    let x ← ev env a
    let y ← ev env b
    mxdT mx x y
  | .gt d k => do
    let x ← ev env d
    let _ ← isDk x
    let y ← ev env k
    gtT x y
  | .rv a => do
    let x ← ev env a
    rvT x
  | .d1 i n => optR (getS env i) fun t => d1T n t
def evb (env : Env) (op : BoolOp) : List IE → R T
  | [] => .bad
  | [e] => ev env e
  | e :: es => do
    let x ← ev env e
    let k ← truth x
    boPick op k (.ok x) (evb env op es)
def evs (env : Env) : List IE → R (List T)
  | [] => .ok []
  | e :: es => do
    let x ← ev env e
    let xs ← evs env es
    .ok (x :: xs)
def evo (env : Env) : List IE → R (Option Int)
  | [] => .ok none
  | [e] => do
    let x ← ev env e
    let i ← intT x
    .ok (some i)
  | _ => .bad
def evc (env : Env) : List IE → R Bool
  | [] => .ok true
  | [e] => do
    let x ← ev env e
    truth x
  | _ => .bad
def evi (env : Env) : It' → R (List T)
  | .seq e => do
    let x ← ev env e
    childs x
  | .rng1 a => do
    let x ← ev env a
    let i ← intT x
    rngT 0 i
  | .rng2 a b => do
    let x ← ev env a
    let y ← ev env b
    let i ← intT x
    let j ← intT y
    rngT i j
  | .enm a => do
    let x ← ev env a
    enmT x
  | .zp a b => do
    let x ← ev env a
    let y ← ev env b
    zpT x y
end
end
end Rb
/-! What stands in a program; the checker; the context. -/
namespace Rb
open PySem
open PySem.Spec
open PyProof.Rows
open L2
/-! ### the checker: the row's own syntax against the little language -/
structure Gc where
  N : List Str
  osc : Scope
  sc : Scope
  consts : List (String × Key)
  fns : List String
  cls : List String
  self : Bool := false
def Gc.vis (G : Gc) (x : Str) : Bool := match G.sc.names.lookup x with
  | some .local => true
  | some .cell => true
  | some .free => true
  | _ => false
def Gc.loc (G : Gc) (x : Str) : Bool := match G.osc.names.lookup x with
  | some .local => true
  | some .cell => true
  | _ => false
def Gc.gl (G : Gc) (x : Str) : Bool := match G.sc.names.lookup x with
  | some .globalImplicit => true
  | _ => false
def nodbg (x : Str) : Bool := !(x == ("__debug__" : Str)) && !(x == ("__classdict__" : Str)) && decide (x ≠ "__name__")
def plainX : Expr → Bool
  | .Starred _ _ => false
  | .Set _ _ _ => false
  | .Slice _ _ _ _ => false
  | .Call (.Name id _) [] [] _ => id != "super"
  | _ => true
/-- its truth is that of its value -/
def valX : Expr → Bool
  | .UnaryOp .Not _ _ => false
  | .BoolOp _ _ _ => false
  | .IfExp _ _ _ _ => false
  | .Compare _ _ _ _ => false
  | _ => true
def bltNames : List String := ["len", "int", "abs", "list", "all", "any", "sum", "str", "max", "min", "range", "enumerate", "zip", "isinstance", "bool", "tuple", "dict", "sorted", "set", "repr"]
def B1.name : B1 → String
  | .len => "len"
  | .int => "int"
  | .abs => "abs"
  | .list => "list"
  | .all => "all"
  | .any => "any"
  | .sum => "sum"
  | .str => "str"
  | .max => "max"
  | .min => "min"
  | .dict => "dict"
def sOkB (x : Str) : Bool := decide (x.length ≤ sizeLine) && PyData.strOk x
def keyOkB : Key → Bool
  | .inr s => sOkB s
  | _ => true
mutual
def chkP (G : Gc) : Pat → Expr → Bool
  | .nm i, e => match e with
    | .Name x _ => decide (G.N[i]? = some x) && G.loc x
    | _ => false
  | .tp ps, e => match e with
    | .Tuple es _ _ => chkPs G ps es
    | _ => false
def chkPs (G : Gc) : List Pat → List Expr → Bool
  | [], [] => true
  | p :: ps, e :: es => chkP G p e && chkPs G ps es
  | _, _ => false
end
def Gc.inn (G : Gc) (scope : Scope) : Gc := { G with osc := scope, sc := relS scope G.sc }
def ownOf (G : Gc) (is : List Nat) : List (Str × Nat) := is.map fun i => (G.N.getD i "", i)
def isTupE : Expr → Bool
  | .Tuple (_ :: _ :: _) _ _ => true
  | _ => false
mutual
def chkE (G : Gc) : IE → Expr → Bool
  | .var i, e => match e with
    | .Name x _ => decide (G.N[i]? = some x) && G.vis x && nodbg x
    | _ => false
  | .lit v, e => match v, e with
    | .non, .Constant .none _ _ => true
    | .bl b, .Constant (.bool b') _ _ => b == b'
    | .int i, .Constant (.int j) _ _ => i == j
    | .str s, .Constant (.str s') _ _ => decide (s = s') && sOkB s
    | _, _ => false
  | .glb x k, e => match e with
    | .Name y _ => decide (y = Str.ofString x) && G.gl y && nodbg y && decide (G.consts.lookup x = some k) && keyOkB k
    | _ => false
  | .bin op a b, e => match e with
    | .BinOp x op' y _ => decide (op = op') && chkE G a x && chkE G b y
    | _ => false
  | .neg a, e => match e with
    | .UnaryOp .USub x _ => chkE G a x
    | _ => false
  | .no a, e => match e with
    | .UnaryOp .Not x _ => chkE G a x
    | _ => false
  | .cmp op a b, e => match e with
    | .Compare x [op'] [y] _ => decide (op = op') && plainX y && chkE G a x && chkE G b y
    | _ => false
  | .chain o1 o2 a b d, e => match e with
    | .Compare x [p1, p2] [y, z] _ => decide (o1 = p1) && decide (o2 = p2) && plainX y && plainX z && chkE G a x && chkE G b y && chkE G d z
    | _ => false
  | .bo op es, e => match e with
    | .BoolOp op' xs _ => decide (op = op') && chkEs G es xs
    | _ => false
  | .ifx a b d, e => match e with
    | .IfExp x y z _ => tst x && chkE G a x && chkE G b y && chkE G d z
    | _ => false
  | .tup es, e => match e with
    | .Tuple xs _ _ => chkEs G es xs
    | _ => false
  | .lst es, e => match e with
    | .List xs _ => chkEs G es xs
    | _ => false
  | .sub a i, e => match e with
    | .Subscript x y _ => plainX y && chkE G a x && chkE G i y
    | _ => false
  | .slc a lo hi, e => match e with
    | .Subscript x (.Slice l h none _) _ => chkE G a x && chkO G lo l && chkO G hi h
    | _ => false
  | .att a f, e => match e with
    | .Attribute x f' _ => decide (f' = Str.ofString f) && plainX x && chkE G a x
    | _ => false
  | .call f es, e => match e with
    | .Call (.Name x _) xs [] _ => decide (x = Str.ofString f) && G.gl x && nodbg x && G.fns.contains f && chkEs G es xs
    | _ => false
  | .mth a m es, e => match e with
    | .Call (.Attribute x m' apos) xs [] pos => decide (m' = Str.ofString m) && (apos.endLine == pos.line) && decide (xs.length < 30) && plainX x && chkE G a x && chkEs G es xs
    | _ => false
  | .new f es, e => match e with
    | .Call (.Name x _) xs [] _ => decide (x = Str.ofString f) && G.gl x && nodbg x && G.cls.contains f && chkEs G es xs
    | _ => false
  | .b1 f a, e => match e with
    | .Call (.Name x _) [y] [] _ => decide (x = Str.ofString f.name) && G.gl x && plainX y && chkE G a y
    | _ => false
  | .b2 mx a b, e => match e with
    | .Call (.Name x _) [y, z] [] _ => decide (x = Str.ofString (if mx then "max" else "min")) && G.gl x && plainX y && plainX z && chkE G a y && chkE G b z
    | _ => false
  | .isi a ty, e => match e with
    | .Call (.Name x _) [y, .Name z _] [] _ => decide (x = "isinstance") && G.gl x && decide (z = Str.ofString ty) && G.gl z && plainX y && chkE G a y && ["bool", "int", "str", "list", "tuple", "dict"].contains ty
    | _ => false
  | .lc elt tg it ifs, e => match e with
    | .ListComp x [⟨t, i, cs, 0⟩] scope _ => blkC G.N G.sc scope (ownOf G (slots tg)) && chkP (G.inn scope) tg t && chkI G it t i && plainX i && chkE (G.inn scope) elt x && chkEs (G.inn scope) ifs cs && tstAll cs && decide (cs.length < 2)
    | _ => false
  | .dc k v tg it ifs, e => match e with
    | .DictComp x y [⟨t, i, cs, 0⟩] scope _ => blkC G.N G.sc scope (ownOf G (slots tg)) && chkP (G.inn scope) tg t && chkI G it t i && plainX i && chkE (G.inn scope) k x && chkE (G.inn scope) v y && chkEs (G.inn scope) ifs cs && tstAll cs && decide (cs.length < 2)
    | _ => false
  | .dk0, e => match e with
    | .Dict [] [] _ => true
    | _ => false
  | .dt0, e => match e with
    | .Dict [] [] _ => true
    | _ => false
  | .srt a, e => match e with
    | .Call (.Name x _) [y] [] _ => decide (x = "sorted") && G.gl x && plainX y && chkE G a y
    | _ => false
  | .lset a, e => match e with
    | .Call (.Name x _) [.Call (.Name z _) [y] [] _] [] _ => decide (x = "len") && G.gl x && decide (z = "set") && G.gl z && plainX y && chkE G a y
    | _ => false
  | .mxd mx a b, e => match e with
    | .Call (.Name x _) [y] [⟨some k, z, _⟩] _ => decide (x = Str.ofString (if mx then "max" else "min")) && G.gl x && decide (k = "default") && plainX y && chkE G a y && chkE G b z
    | _ => false
  | .gt a b, e => match e with
    | .Call (.Attribute x m apos) [y] [] pos => decide (m = "get") && (apos.endLine == pos.line) && plainX x && plainX y && chkE G a x && chkE G b y
    | _ => false
  | .rv a, e => match e with
    | .Subscript x (.Slice none none (some (.UnaryOp .USub (.Constant (.int 1) _ _) _)) _) _ => chkE G a x
    | _ => false
  | .d1 i n, e => match e with
    | .Dict [some (.Name x _)] [.Constant (.int n') _ _] _ => decide (G.N[i]? = some x) && G.vis x && nodbg x && decide (n = n')
    | _ => false
def chkEs (G : Gc) : List IE → List Expr → Bool
  | [], [] => true
  | a :: es, x :: xs => plainX x && chkE G a x && chkEs G es xs
  | _, _ => false
def chkO (G : Gc) : List IE → Option Expr → Bool
  | [], none => true
  | [a], some x => chkE G a x
  | _, _ => false
def chkI (G : Gc) : It' → Expr → Expr → Bool
  | .seq a, t, e => chkE G a e
  | .rng1 a, t, e => match e with
    | .Call (.Name x _) [y] [] _ => decide (x = "range") && G.gl x && plainX y && chkE G a y
    | _ => false
  | .rng2 a b, t, e => match e with
    | .Call (.Name x _) [y, z] [] _ => decide (x = "range") && G.gl x && plainX y && plainX z && chkE G a y && chkE G b z
    | _ => false
  | .enm a, t, e => match e with
    | .Call (.Name x _) [y] [] _ => decide (x = "enumerate") && G.gl x && plainX y && chkE G a y && isTupE t
    | _ => false
  | .zp a b, t, e => match e with
    | .Call (.Name x _) [y, z] [] _ => decide (x = "zip") && G.gl x && plainX y && plainX z && chkE G a y && chkE G b z && isTupE t
    | _ => false
/-- as a test: no conditional expression in it -/
def tst : Expr → Bool
  | .IfExp _ _ _ _ => false
  | .UnaryOp _ x _ => tst x
  | .BoolOp _ xs _ => tstAll xs
  | _ => true
def tstAll : List Expr → Bool
  | [] => true
  | x :: xs => tst x && tstAll xs
end
/-! ### what is wanted behind a value -/
section
variable (c : CA) (K : PySem.W.Frag)
/-- how an error lies -/
def EX (x : Exn) (cls : Value) (d : Option Addr) (H : Hp) : Prop :=
  ∃ Ca, c x.cls = some Ca ∧ cls = .ref Ca ∧ match x.fs with
    | [] => True
    | fs => ∃ (dd : Addr) (vs : List V), d = some dd ∧ H dd = some (.xd ((fs.map fun p => Str.ofString p.1).zip vs)) ∧ RSs c K H (fs.map (·.2)) vs
def PostE (J H : Hp) (x : Exn) (E : XK) : Prop := ∀ (cls : Value) (d : Option Addr) (J' H' : Hp), Ext J H J' H' → EX c K x cls d H' → E cls d H'
def Out (J H : Hp) (r : R T) (Q : VK) (E : XK) : Prop := match r with
  | .ok t => Post c K J H t Q
  | .err x => PostE c K J H x E
  | .bad => False
/-- the slots show the trees -/
def RSenv (J : Hp) (σ : L2.St) (env : Env) : Prop := ∀ (i : Nat) (t : T), getS env i = some t → ∃ v, σ[i]? = some (some v) ∧ RS c K J t v
end
def OutW {α : Type} (r : R α) (S : α → Prop) (E : Exn → Prop) : Prop := match r with
  | .ok a => S a
  | .err x => E x
  | .bad => False
theorem outW_bind {α β : Type} {r : R α} {f : α → R β} {S : β → Prop} {E : Exn → Prop} (h : OutW (r >>= f) S E) : OutW r (fun a => OutW (f a) S E) E := by cases r <;> exact h
section
variable {c : CA} {K : PySem.W.Frag} {J H J1 H1 : Hp} {Q : VK} {E : XK}
theorem PostE.ext {x : Exn} (e : Ext J H J1 H1) (p : PostE c K J H x E) : PostE c K J1 H1 x E := fun cls d J' H' e2 h => p cls d J' H' (e.trans e2) h
theorem Out.ext {r : R T} (e : Ext J H J1 H1) (p : Out c K J H r Q E) : Out c K J1 H1 r Q E := by
  cases r with
  | ok t => exact Post.ext e p
  | err x => exact PostE.ext e p
  | bad => exact p
theorem Out.w {r : R T} (p : Out c K J H r Q E) : OutW r (fun t => Post c K J H t Q) (fun x => PostE c K J H x E) := by cases r <;> exact p
theorem out_bind {α : Type} {r : R α} {f : α → R T} (h : Out c K J H (r >>= f) Q E) : OutW r (fun a => Out c K J H (f a) Q E) (fun x => PostE c K J H x E) := by cases r <;> exact h
/-- a part is walked: its value is read from then on -/
theorem out_step {r : R T} {S : T → Prop} {Q' : VK} (h : OutW r S (fun x => PostE c K J H x E))
    (k : ∀ a v J1 H1, Ext J H J1 H1 → RS c K J1 a v → S a → Q' v H1) : Out c K J H r Q' E := by
  cases r with
  | ok t =>
    intro v J' H' F e f r
    exact k t v _ H' (e.frz f) (RO.rs (same_frz f.out) t v F (fun a m => frz_in m) r) h
  | err x => exact h
  | bad => exact h
theorem RSenv.mono {σ : L2.St} {env : Env} (s : Same J J1) (h : RSenv c K J σ env) : RSenv c K J1 σ env := fun i t e => by
  obtain ⟨v, e1, e2⟩ := h i t e
  exact ⟨v, e1, RS.mono s t v e2⟩
end
/-! ### what a def promises; what stands in the program -/
section
variable (c : CA) (K : PySem.W.Frag)
def spT (sem : List T → R T) : Sp := fun vs H Q E => ∃ (J : Hp) (ts : List T), Good J H ∧ RSs c K J ts vs ∧ Out c K J H (sem ts) Q E
/-- __init__: the new instance, then the arguments -/
def spI (Ca : Addr) (sem : List T → R T) : Sp := fun vs H Q E => ∃ (J H1 : Hp) (x dx : Addr) (ws : List V) (ts : List T), vs = .ref x :: ws ∧ H = upd (upd H1 dx (.own x)) x (.ins Ca dx []) ∧ H1 x = none ∧ H1 dx = none ∧ dx ≠ x ∧
  Good J H1 ∧ RSs c K J ts ws ∧ Out c K J H1 (sem ts) (fun v H' => v = .ref x → Q .non H') E
end
structure ProgOk (P : Program) (w : World) (K : PySem.W.Frag) (mg : Str → Option Value) (base : Heap) (c : CA) (C : Calls) (G : Gc) (k : Nat) : Prop where
  fn : ∀ f, G.fns.contains f = true → ∃ (fa : Addr) (fd : FuncData) (ps : List Str), mg (Str.ofString f) = some (.ref fa) ∧ PySem.W.keepIn K (.ref fa) = true ∧ Binds K fd ps [] ∧ FnOk P w K mg base (L2.CX P w) k fa fd ps (spT c K (C.fn f))
  me : ∀ cn m, C.hm cn m = true → ∃ (Ca fa : Addr) (fd : FuncData) (ps : List Str), c cn = some Ca ∧ Cls K Ca ∧ Meth K Ca (Str.ofString m) fa ∧ Binds K fd ps [] ∧ FnOk P w K mg base (L2.CX P w) k fa fd ps (spT c K (C.me cn m))
  nw : ∀ cn, G.cls.contains cn = true → ∃ (Ca fa : Addr) (fd : FuncData) (ps : List Str), c cn = some Ca ∧ mg (Str.ofString cn) = some (.ref Ca) ∧ Mk K Ca fa ∧ Binds K fd ps [] ∧ FnOk P w K mg base (L2.CX P w) k fa fd ps (spI c K Ca (C.nw cn))
  pr : ∀ cn f t, C.pr cn f t ≠ .bad → ∃ (Ca p g : Addr) (fd : FuncData) (ps : List Str), c cn = some Ca ∧ Cls K Ca ∧ PropOf K Ca (Str.ofString f) p g ∧ Binds K fd ps [] ∧
    FnOk P w K mg base (L2.CX P w) k g fd ps (spT c K fun ts => match ts with | [t] => C.pr cn f t | _ => .bad)
  fld : ∀ cn f, C.fld cn f = true → ∀ Ca, c cn = some Ca → Cls K Ca ∧ NoAttr K Ca (Str.ofString f)
  blt : ∀ b ∈ bltNames, mg (Str.ofString b) = none
  glb : ∀ x q, G.consts.lookup x = some q → ∃ u, mg (Str.ofString x) = some u ∧ RelV (kV q) u
structure CtxOk (c : CA) (C : Calls) (G : Gc) (W : WX) (k : Nat) (X : Cx) : Prop where
  hN : X.N = G.N
  nd : X.N.Nodup
  sc : X.env.scope = G.sc
  keep : ∀ x q, q ≠ NameKind.free → G.osc.names.lookup x = some q → X.env.scope.names.lookup x = some q
  fn : ∀ x, G.osc.names.lookup x = some .cell → X.fn x = true
  calm : X.calm = true
  room : Room (k + 1) X.A
  tk : Takes X W
  prog : ProgOk X.prog X.w X.K X.mg X.base c C G k
end Rb
/-! The syntax's side conditions; rules of calls whose wish hangs on the slots. -/
namespace Rb
open PySem
open PySem.Spec
open PyProof.Rows
open L2
theorem starEach_cons {e : Expr} {es : List Expr} {env : PySem.Env} (h : plainX e = true) : starEach (e :: es) env = (false, eval e env) :: starEach es env := by
  cases e <;> first | rfl | (simp [plainX] at h)
theorem starEach_any : ∀ {es : List Expr} {env : PySem.Env} {pos : Pos}, es.all plainX = true → (backTo pos (starEach es env)).any (·.1) = false
  | [], _, _, _ => rfl
  | e :: es, env, pos, h => by
    rw [List.all_cons, Bool.and_eq_true] at h
    rw [starEach_cons h.1]
    show (false || (backTo pos (starEach es env)).any (·.1)) = false
    rw [starEach_any h.2]
    rfl
theorem plainIx {e : Expr} (h : plainX e = true) : PlainIx e := by
  intro o i
  cases e <;> first | rfl | (simp [plainX] at h)
theorem noMarks {op : CmpOp} {e : Expr} (h : plainX e = true) : behindInMarks op e = false := by
  cases e <;> first | rfl | (simp [plainX] at h)
theorem attrBase {e : Expr} {f : Str} {env : PySem.Env} {w : Sem Value} (h : plainX e = true) : attributeBase e f env w = w := by
  unfold attributeBase
  split
  · rename_i id p1 p2
    have h2 : (id != "super") = true := h
    simp [h2]
  · rfl
theorem noFold {e : Expr} {env : PySem.Env} (h : plainX e = true) : ∀ x, foldedSetIterable e env x = pure x := by
  intro x
  cases e <;> first | rfl | (simp [plainX] at h)
theorem isTrue_val {e : Expr} {env : PySem.Env} (h : valX e = true) : ∀ whole, isTrue e env whole = (do let v ← whole; standAt e.pos; holding [v] (truthy v)) := by
  intro whole
  cases e with
  | UnaryOp op x p => cases op <;> first | rfl | (simp [valX] at h)
  | BoolOp _ _ _ => simp [valX] at h
  | IfExp _ _ _ _ => simp [valX] at h
  | Compare _ _ _ _ => simp [valX] at h
  | _ => rfl
theorem pe_of {X : Cx} {e : Expr} {t t' : TE} (h : PE X e t) (k : ∀ σ H Q, t' σ H Q → t σ H Q) : PE X e t' := ⟨fun pins s σ H Q I hw => h.run pins s σ H Q I (k σ H Q hw)⟩
theorem pt_of {X : Cx} {e : Expr} {t t' : TT} (h : PT X e t) (k : ∀ σ H Q, t' σ H Q → t σ H Q) : PT X e t' := ⟨fun pins s σ H Q I hw => h.run pins s σ H Q I (k σ H Q hw)⟩
section
variable {c : CA} {C : Calls} {W : WX} {k : Nat} {X : Cx} {pins : List (Addr × Obj)} {σ : L2.St} {H : Hp} {s : Shared} {Q : VK}
/-- what leaves a call is taken -/
theorem CtxOk.takes {G : Gc} (ok : CtxOk c C G W k X) (I : L2.Inv X pins σ H s) {e : Value} {s' : Shared} (h : L2.CX X.prog X.w X.stack H s (fun cls d H' => W cls d σ H') e s') : X.xe e s' :=
  ok.tk e s' (XE.of_call I (fun cls d H' h => h) h)
theorem run_fnU {sp : Sp} {f : Addr} {fd : FuncData} {ps : List Str} {us : List Value} {vs : List V} {E : XK} (F : FnOk X.prog X.w X.K X.mg X.base (L2.CX X.prog X.w) k f fd ps sp) (hr : Room k X.A) (hb : Binds X.K fd ps []) (I : L2.Inv X pins σ H s) (r : Vals vs us)
    (hx : ∀ e s', L2.CX X.prog X.w X.stack H s E e s' → X.xe e s') (h : sp vs H Q E) : wpAny (model X.prog X.w) X.A (call (.ref f) us) (EP X pins σ Q) X.xe s := by
  have hl : (us ++ []).length = ps.length := by rw [List.append_nil, ← r.length]; exact F.len _ _ _ _ h
  refine wpAny_call (codeAny_mono (F.run X.A X.stack s H ⟨us, []⟩ (us ++ []) vs Q E hr I.env0 (hb s us I.kIn hl) (by rw [List.append_nil]; exact r) h) fun r s' hq => ?_)
  cases r with
  | error e => exact hx e s' hq
  | ok fl =>
    cases fl with
    | ret u => exact I.after hq
    | next => exact False.elim hq
    | brk => exact False.elim hq
    | cont => exact False.elim hq
theorem run_makeU {sp : Sp} {f Ca : Addr} {fd : FuncData} {ps : List Str} {us : List Value} {vs : List V} {E : XK} (M : Mk X.K Ca f) (F : FnOk X.prog X.w X.K X.mg X.base (L2.CX X.prog X.w) k f fd ps sp) (hr : Room (k + 1) X.A) (hb : Binds X.K fd ps []) (I : L2.Inv X pins σ H s) (r : Vals vs us)
    (hx : ∀ H' s1 e s', L2.Inv X pins σ H' s1 → L2.CX X.prog X.w X.stack H' s1 E e s' → X.xe e s')
    (h : ∀ x dx, H x = none → H dx = none → dx ≠ x → sp (.ref x :: vs) (upd (upd H dx (.own x)) x (.ins Ca dx [])) (fun v H2 => v = .non ∧ Q (.ref x) H2) E) :
    wpAny (model X.prog X.w) X.A (call (.ref Ca) us) (EP X pins σ Q) X.xe s := by
  have hq := h (s.heap.objs.size + 1) s.heap.objs.size (I.hok.fresh (Nat.le_succ _)) (I.hok.fresh (Nat.le_refl _)) (Nat.ne_of_lt (Nat.lt_succ_self _))
  have I2 := Inv.made (C := Ca) I
  have r2 : Vals (V.ref (s.heap.objs.size + 1) :: vs) (Value.ref (s.heap.objs.size + 1) :: (us ++ [])) := by rw [List.append_nil]; exact .cons rfl r
  have hl : (Value.ref (s.heap.objs.size + 1) :: (us ++ [])).length = ps.length := by
    have e := r2.length
    rw [F.len _ _ _ _ hq] at e
    exact e.symm
  refine wpAny_call (make_map (f := f) I.kIn M.makes M.init (beq_iff_eq.mp M.fn) (codeAny_mono (F.run _ X.stack _ _ ⟨Value.ref (s.heap.objs.size + 1) :: us, []⟩ (Value.ref (s.heap.objs.size + 1) :: (us ++ [])) _ _ E (hr.make Ca us [])
    (I2.env0.make Ca us []) (by have z := hb _ (Value.ref (s.heap.objs.size + 1) :: us) I2.kIn hl; rw [List.cons_append] at z; exact z) r2 hq) fun r s' hq' => ?_))
  cases r with
  | error e => exact hx _ _ e s' I2 hq'
  | ok fl =>
    cases fl with
    | ret u =>
      obtain ⟨v, H', I3, rv, ev, q3⟩ := I2.after hq'
      subst ev
      exact ⟨rv, ⟨V.ref (s.heap.objs.size + 1), H', I3, rfl, q3⟩⟩
    | next => exact False.elim hq'
    | brk => exact False.elim hq'
    | cont => exact False.elim hq'
end
section
variable {X : Cx} {x m : Str} {p pos apos : Pos} {e o : Expr} {es : List Expr} {ta : TE} {t : TA} {fa Ca : Addr}
/-- a call of a known value f at the slots -/
def CallU (X : Cx) (f : Value) (r : L2.St → List V → Hp → VK → Prop) : Prop :=
  ∀ (pins : List (Addr × Obj)) (s : Shared) (σ : L2.St) (H : Hp) (us : List Value) (vs : List V) (Q : VK), L2.Inv X pins σ H s → Vals vs us → r σ vs H Q → wpAny (model X.prog X.w) X.A (call f us) (EP X pins σ Q) X.xe s
theorem pe_callU0 {r : L2.St → List V → Hp → VK → Prop} (hc : CallU X (.ref fa) r) (hg : Gl X x) (hm : X.mg x = some (.ref fa)) (hk : PySem.W.keepIn X.K (.ref fa) = true) (hdb : (x == ("__debug__" : Str)) = false) :
    PE X (.Call (.Name x p) [] [] pos) (fun σ H Q => r σ [] H Q) := by
  refine ⟨fun pins s σ H Q I h => ?_⟩
  refine wpAny_Call_Name_kw (ld_glob I hg hm ?_ hdb)
  exact PySem.W.callWith_K0 I.kIn hk (hc pins s σ H [] [] Q I .nil h)
theorem pe_callU {r : L2.St → List V → Hp → VK → Prop} (hc : CallU X (.ref fa) r) (hg : Gl X x) (hm : X.mg x = some (.ref fa)) (hk : PySem.W.keepIn X.K (.ref fa) = true) (ha : PA X (e :: es) t) (hdb : (x == ("__debug__" : Str)) = false) (hp : (e :: es).all plainX = true) :
    PE X (.Call (.Name x p) (e :: es) [] pos) (fun σ H Q => t σ H fun vs H1 => r σ vs H1 Q) := by
  refine ⟨fun pins s σ H Q I h => ?_⟩
  refine wpAny_Call_Name_kw (ld_glob I hg hm ?_ hdb)
  rw [List.all_cons, Bool.and_eq_true] at hp
  refine PySem.W.callWith_K (h₀ := X.base) I.ok.mod.kin hk (thn (ha.run pos pins s σ H _ I h) fun us s1 ⟨vs, H1, I1, r1, q⟩ => ⟨I1.kIn, ?_⟩) (starEach_cons hp.1) (starEach_any hp.2)
  exact hc pins s1 σ H1 us vs Q I1 r1 q
/-- o.m(..) on one line -/
theorem backTo_all {pos : Pos} {env : PySem.Env} : ∀ {es : List Expr}, es.all plainX = true → (backTo pos (starEach es env)).all (!·.1) = true
  | [], _ => rfl
  | e :: es, h => by
    rw [List.all_cons, Bool.and_eq_true] at h
    rw [starEach_cons h.1]
    show (!false && (backTo pos (starEach es env)).all (!·.1)) = true
    rw [backTo_all h.2]
    rfl
theorem meth_form {env : PySem.Env} (ho : plainX o = true) (hp : es.all plainX = true) (hn : es.length < 30) (hl : (apos.endLine == pos.line) = true) :
    eval (.Call (.Attribute o m apos) es [] pos) env = (do
      let ov ← eval o env
      standAt apos.atName
      let (f, first) ← holding [ov] (getMethod ov m (plainOf o env))
      callWith pos f first (backTo pos (starEach es env)) (backToKw pos (keywordEach [] env))) := by
  have hf : methodCallForm es.length (backTo pos (starEach es env)) (backToKw pos (keywordEach [] env)) = true := by
    unfold methodCallForm
    rw [backTo_all hp]
    show (true && true && decide (es.length + 0 < 30)) = true
    simp [hn]
  rw [eval]
  have e := fun ov : Value => mcall_line (o := o) (m := m) (apos := apos) (pos := pos) (env := env) (ov := ov) (kws := backToKw pos (keywordEach [] env)) hf hl
  rw [attrBase ho]
  show (do
      let ov ← eval o env
      standAt apos.atName
      methodCall o m apos pos env ov es.length (backTo pos (starEach es env)) (backToKw pos (keywordEach [] env))) = _
  simp only [e]
theorem pe_methU {r : L2.St → List V → Hp → VK → Prop} (ho : plainX o = true) (he : PE X o ta) (c : Cls X.K Ca) (hm : Meth X.K Ca m fa) (hc : CallU X (.ref fa) r) (ha : PA X (e :: es) t) (hp : (e :: es).all plainX = true) (hn : (e :: es).length < 30) (hl : (apos.endLine == pos.line) = true) :
    PE X (.Call (.Attribute o m apos) (e :: es) [] pos) (fun σ H Q => ta σ H fun x H1 => ∃ a dx fs, x = .ref a ∧ H1 a = some (.ins Ca dx fs) ∧ fs.lookup m = none ∧ t σ H1 fun vs H2 => r σ (x :: vs) H2 Q) := by
  refine ⟨fun pins s σ H Q I h => ?_⟩
  refine PySem.W.methodCall_KW (pl := plainOf o X.env) (thn (he.run pins s σ H _ I h) fun u s1 ⟨x, H1, I1, rx, a, dx, fs, ex, ea, l, q⟩ => ?_) (meth_form ho hp hn hl)
  subst ex
  obtain rfl : u = Value.ref a := rx
  refine getmeth_ok I1 ea c hm l ?_
  rw [List.all_cons, Bool.and_eq_true] at hp
  refine PySem.W.callWith_K (first := [.ref a]) (h₀ := X.base) I.ok.mod.kin hm.kp (thn (ha.run pos pins s1 σ H1 _ I1 q) fun us s2 ⟨vs, H2, I2, r2, q2⟩ => ⟨I2.kIn, ?_⟩) (starEach_cons hp.1) (starEach_any hp.2)
  exact hc pins s2 σ H2 (.ref a :: us) (.ref a :: vs) Q I2 (.cons rfl r2) q2
theorem pe_methU0 {r : L2.St → List V → Hp → VK → Prop} (ho : plainX o = true) (he : PE X o ta) (c : Cls X.K Ca) (hm : Meth X.K Ca m fa) (hc : CallU X (.ref fa) r) (hl : (apos.endLine == pos.line) = true) :
    PE X (.Call (.Attribute o m apos) [] [] pos) (fun σ H Q => ta σ H fun x H1 => ∃ a dx fs, x = .ref a ∧ H1 a = some (.ins Ca dx fs) ∧ fs.lookup m = none ∧ r σ [x] H1 Q) := by
  refine ⟨fun pins s σ H Q I h => ?_⟩
  refine PySem.W.methodCall_KW (pl := plainOf o X.env) (thn (he.run pins s σ H _ I h) fun u s1 ⟨x, H1, I1, rx, a, dx, fs, ex, ea, l, q⟩ => ?_) (meth_form (es := []) ho rfl (by decide) hl)
  subst ex
  obtain rfl : u = Value.ref a := rx
  refine getmeth_ok I1 ea c hm l ?_
  exact PySem.W.callWith_K0 (first := [.ref a]) I1.kIn hm.kp (hc pins s1 σ H1 [.ref a] [.ref a] Q I1 (.cons rfl .nil) q)
end
end Rb
/-! Readings of the little language's parts; displays, patterns, what is walked. -/
namespace Rb
open PySem
open PySem.Spec
open PyProof.Rows
open L2
section
variable (c : CA) (K : PySem.W.Frag) (W : WX)
def tS (sem : Env → R T) : TE := fun σ H Q => ∃ (J : Hp) (env : Env), Good J H ∧ RSenv c K J σ env ∧ Out c K J H (sem env) Q (fun cls d H' => W cls d σ H')
def tSB (sem : Env → R Bool) : TT := fun σ H Q => ∃ (J : Hp) (env : Env), Good J H ∧ RSenv c K J σ env ∧ OutW (sem env) (fun k => ∀ J' H', Ext J H J' H' → Q k H') (fun x => PostE c K J H x (fun cls d H' => W cls d σ H'))
def tSL (sem : Env → R (List T)) : TA := fun σ H Q => ∃ (J : Hp) (env : Env), Good J H ∧ RSenv c K J σ env ∧
  OutW (sem env) (fun ts => ∀ vs J' H' F, Ext J H J' H' → Fr H J' H' F → ROs c K J' H' ts vs F → Q vs H') (fun x => PostE c K J H x (fun cls d H' => W cls d σ H'))
def Walk (J0 : L2.It) (J1 : Hp) (ts : List T) : Prop := ∀ (i : Nat) (Jc Hc : Hp), Good Jc Hc → Same J1 Jc →
  (∀ t, ts[i]? = some t → J0.go i Hc ∧ ∀ x H', J0.yld i Hc x H' → ∃ Jn, Ext Jc Hc Jn H' ∧ RS c K Jn t x) ∧ (ts.length ≤ i → J0.stop i Hc)
def tSI (sem : Env → R (List T)) : TI := fun σ H R' => ∃ (J : Hp) (env : Env), Good J H ∧ RSenv c K J σ env ∧
  OutW (sem env) (fun ts => ∀ J0 J' H', Ext J H J' H' → Walk c K J0 J' ts → R' J0 H') (fun x => PostE c K J H x (fun cls d H' => W cls d σ H'))
end
section
variable {c : CA} {K : PySem.W.Frag} {J H J1 H1 J2 H2 : Hp} {Q : VK} {E : XK}
theorem Fr.append {F1 F2 : List Addr} (e : Ext J1 H1 J2 H2) (h : Same H H1) (f1 : Fr H J1 H1 F1) (f2 : Fr H1 J2 H2 F2) : Fr H J2 H2 (F1 ++ F2) := by
  refine ⟨fun a m => ?_, fun a m => ?_, fun a m => ?_, ?_⟩
  · rcases List.mem_append.mp m with m | m
    · exact f1.new a m
    · exact h.free (f2.new a m)
  · rcases List.mem_append.mp m with m | m
    · exact e.out (f1.out a m) (f1.there a m)
    · exact f2.out a m
  · rcases List.mem_append.mp m with m | m
    · rw [e.there (f1.there a m)]; exact f1.there a m
    · exact f2.there a m
  · rw [List.nodup_append]
    refine ⟨f1.nd, f2.nd, fun a m b m' z => ?_⟩
    subst z
    exact f1.there a m (f2.new a m')
theorem RO.later {F : List Addr} (e : Ext J1 H1 J2 H2) (f : Fr H J1 H1 F) {t : T} {v : V} (r : RO c K J1 H1 t v F) : RO c K J2 H2 t v F :=
  RO.mono e.jj t v F (fun a m => ⟨e.out (f.out a m) (f.there a m), e.there (f.there a m)⟩) r
theorem ROs.later {F : List Addr} (e : Ext J1 H1 J2 H2) (f : Fr H J1 H1 F) {ts : List T} {vs : List V} (r : ROs c K J1 H1 ts vs F) : ROs c K J2 H2 ts vs F :=
  ROs.mono e.jj ts vs F (fun a m => ⟨e.out (f.out a m) (f.there a m), e.there (f.there a m)⟩) r
theorem Fr.later {F : List Addr} (e : Ext J1 H1 J2 H2) (f : Fr H J1 H1 F) : Fr H J2 H2 F :=
  ⟨f.new, fun a m => e.out (f.out a m) (f.there a m), fun a m => by rw [e.there (f.there a m)]; exact f.there a m, f.nd⟩
mutual
theorem flat_ro : ∀ (t : T) (v : V) (F : List Addr), flat t = true → RO c K J H t v F → F = [] ∧ RS c K J t v
  | .non, v, F, _, r => by simp only [RO] at r; simp only [RS]; exact ⟨r.2, r.1⟩
  | .bl b, v, F, _, r => by simp only [RO] at r; simp only [RS]; exact ⟨r.2, r.1⟩
  | .int b, v, F, _, r => by simp only [RO] at r; simp only [RS]; exact ⟨r.2, r.1⟩
  | .str b, v, F, _, r => by simp only [RO] at r; simp only [RS]; exact ⟨r.2, r.1⟩
  | .nd g o xs, v, F, f, r => by
    cases g with
    | tup =>
      simp only [flat] at f
      cases o with
      | false =>
        simp only [RO] at r
        simp only [RS]
        exact ⟨r.2, r.1⟩
      | true =>
        simp only [RO] at r
        simp only [RS]
        obtain ⟨a, vs, e, h1, h2⟩ := r
        obtain ⟨f1, f2⟩ := flats_ro xs vs F f h2
        exact ⟨f1, a, vs, e, h1, f2⟩
    | _ => simp [flat] at f
theorem flats_ro : ∀ (ts : List T) (vs : List V) (F : List Addr), flats ts = true → ROs c K J H ts vs F → F = [] ∧ RSs c K J ts vs
  | [], vs, F, _, r => by simp only [ROs] at r; simp only [RSs]; exact ⟨r.2, r.1⟩
  | t :: ts, vs, F, f, r => by
    simp only [flats, Bool.and_eq_true] at f
    simp only [ROs] at r
    simp only [RSs]
    obtain ⟨v, r', F1, F2, e, rfl, h1, h2⟩ := r
    obtain ⟨a1, a2⟩ := flat_ro t v F1 f.1 h1
    obtain ⟨b1, b2⟩ := flats_ro ts r' F2 f.2 h2
    subst a1 b1
    exact ⟨rfl, v, r', e, a2, b2⟩
end
/-- a new object of one's own over parts of one's own -/
theorem Post.lstO (e : Ext J H J1 H1) {F : List Addr} (f : Fr H J1 H1 F) {ts : List T} {vs : List V} (r : ROs c K J1 H1 ts vs F) (p : Post c K J H (.nd .lst true ts) Q) : ∀ a, H1 a = none → Q (.ref a) (upd H1 a (.lst vs)) := fun a h => by
  have e2 : Ext J1 H1 J1 (upd H1 a (.lst vs)) := Ext.newH e.good h fun xs z => by cases z
  have fa : a ∉ F := fun m => f.there a m h
  refine p (.ref a) J1 _ (a :: F) (e.trans e2) ⟨?_, ?_, ?_, ?_⟩ ?_
  · intro b m
    rcases List.mem_cons.mp m with rfl | m
    · exact e.hh.free h
    · exact f.new b m
  · intro b m
    rcases List.mem_cons.mp m with rfl | m
    · exact e.good.sub.free h
    · exact f.out b m
  · intro b m
    rcases List.mem_cons.mp m with rfl | m
    · rw [upd_same]; exact fun z => by cases z
    · rw [e2.there (f.there b m)]; exact f.there b m
  · exact List.nodup_cons.mpr ⟨fa, f.nd⟩
  · simp only [RO]
    exact ⟨a, vs, F, rfl, (show AtO c K (upd H1 a (.lst vs)) a .lst vs from upd_same), e.good.sub.free h, rfl, r.later e2 f⟩
theorem Post.tupO (e : Ext J H J1 H1) {F : List Addr} (f : Fr H J1 H1 F) {ts : List T} {vs : List V} (r : ROs c K J1 H1 ts vs F) (p : Post c K J H (mkTup ts) Q) : ∀ a, H1 a = none → Q (.ref a) (upd H1 a (.tup vs)) := fun a h => by
  have e2 : Ext J1 H1 (upd J1 a (.tup vs)) (upd H1 a (.tup vs)) := Ext.newJ e.good h (.tup vs)
  refine p (.ref a) _ _ F (e.trans e2) (f.later e2) ?_
  unfold mkTup
  cases q : flats ts with
  | true =>
    obtain ⟨f1, f2⟩ := flats_ro ts vs F q r
    subst f1
    simp only [Bool.not_true, RO]
    exact ⟨⟨a, vs, rfl, upd_same, RSs.mono e2.jj ts vs f2⟩, trivial⟩
  | false =>
    simp only [Bool.not_false, RO]
    exact ⟨a, vs, rfl, upd_same, r.later e2 f⟩
end
/-! ### patterns -/
mutual
def gP (K : PySem.W.Frag) : Pat → TG
  | .nm i => gName i
  | .tp ps => gTup K ps.length (gPs K ps)
def gPs (K : PySem.W.Frag) : List Pat → TGs
  | [] => gNil
  | p :: ps => gCons (gP K p) (gPs K ps)
end
theorem lookup_loc {names : List (Str × NameKind)} {x : Str} (h : (match names.lookup x with | some NameKind.local => true | some .cell => true | _ => false) = true) : names.lookup x = some .local ∨ names.lookup x = some .cell := by
  split at h
  · rename_i e; exact .inl e
  · rename_i e; exact .inr e
  · cases h
theorem loc_of {c : CA} {C : Calls} {G : Gc} {W : WX} {k : Nat} {X : Cx} (ok : CtxOk c C G W k X) {x : Str} (h : G.loc x = true) : Loc X.env.scope x ∧ (X.fn x = true ∨ X.env.scope.names.lookup x = some .local) := by
  rcases lookup_loc h with e | e
  · exact ⟨.inl (ok.keep x _ (by decide) e), .inr (ok.keep x _ (by decide) e)⟩
  · exact ⟨.inr (ok.keep x _ (by decide) e), .inl (ok.fn x e)⟩
theorem chkPs_len {G : Gc} : ∀ {ps : List Pat} {es : List Expr}, chkPs G ps es = true → es.length = ps.length
  | [], [], _ => rfl
  | p :: ps, e :: es, h => by
    simp only [chkPs, Bool.and_eq_true] at h
    simp [chkPs_len h.2]
  | [], _ :: _, h => by simp [chkPs] at h
  | _ :: _, [], h => by simp [chkPs] at h
theorem assignEach_pat {G : Gc} {env : PySem.Env} : ∀ {ps : List Pat} {es : List Expr}, chkPs G ps es = true → assignEach es env = es.map fun e => (false, assign e env)
  | [], [], _ => rfl
  | p :: ps, e :: es, h => by
    simp only [chkPs, Bool.and_eq_true] at h
    have ih := assignEach_pat (env := env) h.2
    cases e with
    | Starred x pp => cases p <;> simp [chkP] at h
    | _ => first
      | (show (false, _) :: assignEach es env = _
         rw [ih]
         rfl)
  | [], _ :: _, h => by simp [chkPs] at h
  | _ :: _, [], h => by simp [chkPs] at h
theorem no_star {es : List Expr} {env : PySem.Env} : (es.map fun e => (false, assign e env)).findIdx? (fun x => x.1) = none := by
  induction es with
  | nil => rfl
  | cons e es ih => simp [List.findIdx?_cons]
section
variable {c : CA} {C : Calls} {G : Gc} {W : WX} {k : Nat} {X : Cx}
mutual
theorem sound_P (ok : CtxOk c C G W k X) : ∀ (p : Pat) (e : Expr), chkP G p e = true → PG X e (gP X.K p)
  | .nm i, e, h => by
    simp only [chkP] at h
    split at h
    · rw [Bool.and_eq_true, decide_eq_true_eq] at h
      obtain ⟨l1, l2⟩ := loc_of ok h.2
      simp only [gP]
      exact pg_name ok.nd (by rw [ok.hN]; exact h.1) l1 l2
    · cases h
  | .tp ps, e, h => by
    simp only [chkP] at h
    split at h
    · have hl := chkPs_len h
      simp only [gP]
      rw [← hl]
      exact pg_tup ok.calm (sound_Ps ok ps _ h) (by rw [assignEach_pat h]; simp) (by rw [assignEach_pat h]; exact no_star)
    · cases h
theorem sound_Ps (ok : CtxOk c C G W k X) : ∀ (ps : List Pat) (es : List Expr), chkPs G ps es = true → PGs X es (gPs X.K ps)
  | [], [], h => by simp only [gPs]; exact pgs_nil
  | p :: ps, e :: es, h => by
    simp only [chkPs, Bool.and_eq_true] at h
    simp only [gPs]
    exact pgs_cons (sound_P ok p e h.1) (sound_Ps ok ps es h.2) (by rw [assignEach_pat (ps := p :: ps) (by simp only [chkPs, Bool.and_eq_true]; exact h), assignEach_pat h.2]; rfl)
  | [], _ :: _, h => by simp [chkPs] at h
  | _ :: _, [], h => by simp [chkPs] at h
end
end
theorem getS_set {env : Env} {i j : Nat} {o : Option T} {t : T} (h : getS (env.set i o) j = some t) : (i = j ∧ o = some t) ∨ (i ≠ j ∧ getS env j = some t) := by
  unfold getS at h ⊢
  by_cases e : i = j
  · subst e
    by_cases hl : i < env.length
    · rw [List.getElem?_set_self hl] at h
      cases o with
      | none => cases h
      | some u => simp at h; exact .inl ⟨rfl, by rw [h]⟩
    · rw [List.getElem?_eq_none (by simp; omega)] at h
      cases h
  · rw [List.getElem?_set_ne e] at h
    exact .inr ⟨e, h⟩
section
variable {c : CA} {K : PySem.W.Frag} {J H : Hp}
theorem RSenv.set {σ : L2.St} {env : Env} (h : RSenv c K J σ env) {i : Nat} {t : T} {v : V} (r : RS c K J t v) (hi : i < σ.length) : RSenv c K J (σ.set i (some v)) (env.set i (some t)) := fun j u e => by
  rcases getS_set e with ⟨rfl, e1⟩ | ⟨ne, e1⟩
  · cases e1
    exact ⟨v, by rw [List.getElem?_set_self hi], r⟩
  · obtain ⟨w, e2, e3⟩ := h j u e1
    exact ⟨w, by rw [List.getElem?_set_ne ne]; exact e2, e3⟩
theorem RSenv.killed {σ : L2.St} {env : Env} (h : RSenv c K J σ env) (i : Nat) (o : Option V) : RSenv c K J (σ.set i o) (env.set i none) := fun j u e => by
  rcases getS_set e with ⟨rfl, e1⟩ | ⟨ne, e1⟩
  · cases e1
  · obtain ⟨w, e2, e3⟩ := h j u e1
    exact ⟨w, by rw [List.getElem?_set_ne ne]; exact e2, e3⟩
theorem RSenv.less {σ : L2.St} {env : Env} (h : RSenv c K J σ env) (i : Nat) : RSenv c K J σ (env.set i none) := fun j u e => by
  rcases getS_set e with ⟨rfl, e1⟩ | ⟨ne, e1⟩
  · cases e1
  · exact h j u e1
theorem RSenv.kill {σ : L2.St} : ∀ (is : List Nat) {env : Env}, RSenv c K J σ env → RSenv c K J σ (kill is env)
  | [], _, h => h
  | i :: is, env, h => RSenv.kill is (h.less i)
theorem RSenv.wipe {σ : L2.St} : ∀ (is : List Nat) {env : Env}, RSenv c K J σ env → RSenv c K J (wipe σ is) (Rb.kill is env)
  | [], _, h => h
  | i :: is, env, h => by
    show RSenv c K J ((L2.wipe σ is).set i none) (Rb.kill is (env.set i none))
    have h2 : RSenv c K J (L2.wipe σ is) (Rb.kill is (env.set i none)) := RSenv.wipe is (h.less i)
    intro j u e
    by_cases hj : i = j
    · subst hj
      exfalso
      have : ∀ (is : List Nat) (env : Env), getS env i = none → getS (Rb.kill is env) i = none := by
        intro is
        induction is with
        | nil => intro env h; exact h
        | cons a is ih =>
          intro env h
          refine ih _ ?_
          cases q : getS (env.set a none) i with
          | none => rfl
          | some u =>
            rcases getS_set q with ⟨_, z⟩ | ⟨_, z⟩
            · cases z
            · rw [h] at z; cases z
      rw [this is (env.set i none)] at e
      · cases e
      · cases q : getS (env.set i none) i with
        | none => rfl
        | some u =>
          rcases getS_set q with ⟨_, z⟩ | ⟨z, _⟩
          · cases z
          · exact absurd rfl z
    · obtain ⟨w, e2, e3⟩ := h2 j u e
      exact ⟨w, by rw [List.getElem?_set_ne hj]; exact e2, e3⟩
/-! the slots of a pattern are in the frame -/
mutual
def inP (n : Nat) : Pat → Bool
  | .nm i => decide (i < n)
  | .tp ps => inPs n ps
def inPs (n : Nat) : List Pat → Bool
  | [] => true
  | p :: ps => inP n p && inPs n ps
end
theorem wipe_set {σ : L2.St} {i : Nat} {o : Option V} : ∀ {is : List Nat}, i ∈ is → L2.wipe (σ.set i o) is = L2.wipe σ is
  | [], h => nomatch h
  | j :: is, h => by
    show (L2.wipe (σ.set i o) is).set j none = (L2.wipe σ is).set j none
    by_cases hm : i ∈ is
    · rw [wipe_set hm]
    · have e : i = j := by
        rcases List.mem_cons.mp h with e | e
        · exact e
        · exact absurd e hm
      subst e
      have comm : ∀ (is : List Nat) (σ : L2.St), i ∉ is → L2.wipe (σ.set i o) is = (L2.wipe σ is).set i o := by
        intro is
        induction is with
        | nil => intro σ _; rfl
        | cons a is ih =>
          intro σ hn
          simp only [List.mem_cons, not_or] at hn
          show (L2.wipe (σ.set i o) is).set a none = ((L2.wipe σ is).set a none).set i o
          rw [ih σ hn.2, List.set_comm _ _ (fun z => hn.1 z.symm)]
      rw [comm is σ hm, List.set_set]
mutual
theorem pat_ok (g : Good J H) : ∀ (p : Pat) (t : T) (v : V) (env env' : Env) (σ : L2.St) (is : List Nat) (S : L2.St → Hp → Prop), RS c K J t v → RSenv c K J σ env → asgP p t env = some env' → inP σ.length p = true → (∀ i ∈ slots p, i ∈ is) →
    (∀ σ', RSenv c K J σ' env' → σ'.length = σ.length → L2.wipe σ' is = L2.wipe σ is → S σ' H) → gP K p v σ H S
  | .nm i, t, v, env, env', σ, is, S, r, re, e, hi, hs, k => by
    simp only [asgP] at e; cases e
    simp only [inP, decide_eq_true_eq] at hi
    simp only [gP, gName]
    exact k _ (re.set r hi) (by simp) (wipe_set (hs i (by simp [slots])))
  | .tp ps, t, v, env, env', σ, is, S, r, re, e, hi, hs, k => by
    simp only [asgP] at e
    split at e
    · obtain ⟨a, vs, rfl, j1, h1, q1⟩ := rs_tup g r
      simp only [inP] at hi
      simp only [gP, gTup]
      have hl := asgPs_len _ _ _ _ e
      exact ⟨a, vs, rfl, SqT.of h1, by rw [← q1.length, hl], pats_ok g ps _ vs env env' σ is S q1 re e hi (fun i m => hs i (by simp [slots]; exact m)) k⟩
    · cases e
theorem pats_ok (g : Good J H) : ∀ (ps : List Pat) (ts : List T) (vs : List V) (env env' : Env) (σ : L2.St) (is : List Nat) (S : L2.St → Hp → Prop), RSs c K J ts vs → RSenv c K J σ env → asgPs ps ts env = some env' → inPs σ.length ps = true → (∀ i ∈ slotss ps, i ∈ is) →
    (∀ σ', RSenv c K J σ' env' → σ'.length = σ.length → L2.wipe σ' is = L2.wipe σ is → S σ' H) → gPs K ps vs σ H S
  | [], [], vs, env, env', σ, is, S, r, re, e, hi, hs, k => by
    simp only [asgPs] at e; cases e
    simp only [RSs] at r; subst r
    simp only [gPs, gNil]
    exact ⟨trivial, k σ re rfl rfl⟩
  | p :: ps, t :: ts, vs, env, env', σ, is, S, r, re, e, hi, hs, k => by
    simp only [asgPs] at e
    simp only [RSs] at r
    obtain ⟨v, r', rfl, r1, r2⟩ := r
    simp only [inPs, Bool.and_eq_true] at hi
    simp only [gPs, gCons]
    split at e
    · rename_i env1 e1
      refine ⟨v, r', rfl, pat_ok g p t v env env1 σ is _ r1 re e1 hi.1 (fun i m => hs i (by simp [slotss]; exact .inl m)) fun σ1 re1 l1 w1 => ?_⟩
      refine pats_ok g ps ts r' env1 env' σ1 is S r2 re1 e (by rw [l1]; exact hi.2) (fun i m => hs i (by simp [slotss]; exact .inr m)) fun σ2 re2 l2 w2 => ?_
      exact k σ2 re2 (l2.trans l1) (w2.trans w1)
    · cases e
  | [], _ :: _, vs, env, env', σ, is, S, r, re, e, hi, hs, k => by simp [asgPs] at e
  | _ :: _, [], vs, env, env', σ, is, S, r, re, e, hi, hs, k => by simp [asgPs] at e
theorem asgPs_len : ∀ (ps : List Pat) (ts : List T) (env env' : Env), asgPs ps ts env = some env' → ts.length = ps.length
  | [], [], _, _, _ => rfl
  | p :: ps, t :: ts, env, env', e => by
    simp only [asgPs] at e
    split at e
    · simp [asgPs_len ps ts _ _ e]
    · cases e
  | [], _ :: _, _, _, e => by simp [asgPs] at e
  | _ :: _, [], _, _, e => by simp [asgPs] at e
end
end
end Rb
/-! The little language's expressions are worth what the machine gives. -/
namespace Rb
open PySem
open PySem.Spec
open PyProof.Rows
open L2
section
variable {X : Cx}
theorem pe_ofL {e : Expr} {t t' : TE} (h : PE X e t) (k : ∀ σ H Q, σ.length = X.N.length → t' σ H Q → t σ H Q) : PE X e t' := ⟨fun pins s σ H Q I hw => h.run pins s σ H Q I (k σ H Q I.len hw)⟩
theorem pa_of {es : List Expr} {t t' : TA} (h : PA X es t) (k : ∀ σ H Q, t' σ H Q → t σ H Q) : PA X es t' := ⟨fun pos pins s σ H Q I hw => h.run pos pins s σ H Q I (k σ H Q hw)⟩
theorem pw_of {e : Expr} {t t' : TT} (h : PW X e t) (k : ∀ σ H Q, t' σ H Q → t σ H Q) : PW X e t' := ⟨fun w pins s σ H Q I hw => h.run w pins s σ H Q I (k σ H Q hw)⟩
theorem pi_of {tg e : Expr} {t t' : TI} (h : PI X tg e t) (k : ∀ σ H Q, t' σ H Q → t σ H Q) : PI X tg e t' := ⟨fun pins s σ H Q I hw => h.run pins s σ H Q I (k σ H Q hw)⟩
end
mutual
theorem chkP_in {G : Gc} : ∀ (p : Pat) (e : Expr), chkP G p e = true → inP G.N.length p = true
  | .nm i, e, h => by
    simp only [chkP] at h
    split at h
    · rw [Bool.and_eq_true, decide_eq_true_eq] at h
      simp only [inP, decide_eq_true_eq]
      exact (List.getElem?_eq_some_iff.mp h.1).1
    · cases h
  | .tp ps, e, h => by
    simp only [chkP] at h
    split at h
    · simp only [inP]; exact chkPs_in ps _ h
    · cases h
theorem chkPs_in {G : Gc} : ∀ (ps : List Pat) (es : List Expr), chkPs G ps es = true → inPs G.N.length ps = true
  | [], [], h => rfl
  | p :: ps, e :: es, h => by
    simp only [chkPs, Bool.and_eq_true] at h
    simp only [inPs, Bool.and_eq_true]
    exact ⟨chkP_in p e h.1, chkPs_in ps es h.2⟩
  | [], _ :: _, h => by simp [chkPs] at h
  | _ :: _, [], h => by simp [chkPs] at h
end
theorem chkEs_plain {G : Gc} : ∀ {es : List IE} {xs : List Expr}, chkEs G es xs = true → xs.all plainX = true
  | [], [], _ => rfl
  | a :: es, x :: xs, h => by
    simp only [chkEs, Bool.and_eq_true] at h
    rw [List.all_cons, h.1.1, chkEs_plain h.2]
    rfl
  | [], _ :: _, h => by simp [chkEs] at h
  | _ :: _, [], h => by simp [chkEs] at h
theorem gl_of {c : CA} {C : Calls} {G : Gc} {W : WX} {k : Nat} {X : Cx} (ok : CtxOk c C G W k X) {x : Str} (h : G.gl x = true) : Gl X x := by
  unfold Gc.gl at h
  split at h
  · rename_i e
    show X.env.scope.names.lookup x = some .globalImplicit
    rw [ok.sc]; exact e
  · cases h
theorem vis_of {c : CA} {C : Calls} {G : Gc} {W : WX} {k : Nat} {X : Cx} (ok : CtxOk c C G W k X) {x : Str} (h : G.vis x = true) : Vis X.env.scope x := by
  unfold Gc.vis at h
  split at h
  · rename_i e; exact .inl (by rw [ok.sc]; exact e)
  · rename_i e; exact .inr (.inl (by rw [ok.sc]; exact e))
  · rename_i e; exact .inr (.inr (by rw [ok.sc]; exact e))
  · cases h
theorem nodbg_of {x : Str} (h : nodbg x = true) : (x == ("__debug__" : Str)) = false ∧ (x == ("__classdict__" : Str)) = false ∧ x ≠ "__name__" := by
  simp only [nodbg, Bool.and_eq_true, Bool.not_eq_true', decide_eq_true_eq] at h
  exact ⟨h.1.1, h.1.2, h.2⟩
/-- the context of a comprehension's block -/
theorem CtxOk.blk {c : CA} {C : Calls} {G : Gc} {W : WX} {k : Nat} {X : Cx} (ok : CtxOk c C G W k X) (scope : Scope) (s : Shared) (H : Hp) (D : Addr) (cl : List (Str × Addr)) (fp : List Addr) :
    CtxOk c C (G.inn scope) (fun _ _ _ _ => False) k (X.blk s H scope (compEnvC scope cl D X.env) fp) := by
  refine ⟨ok.hN, ok.nd, ?_, fun x q hq e => ?_, fun x e => ?_, ok.calm, ok.room, takes0, ⟨ok.prog.fn, ok.prog.me, ok.prog.nw, ok.prog.pr, ok.prog.fld, ok.prog.blt, ok.prog.glb⟩⟩
  · show relabel scope X.env = relS scope G.sc
    rw [← ok.sc]
    rfl
  · exact lookup_relS_keep (sc := X.env.scope) hq e
  · show (scope.names.lookup x == some .cell) = true
    rw [show scope.names.lookup x = some .cell from e]
    rfl
section
variable {c : CA} {K : PySem.W.Frag} {J H J1 H1 : Hp} {Q : VK} {E : XK}
/-- two parts in a row, then an operation on values -/
theorem out_two {W : WX} {σ : L2.St} {env : Env} {sa sb : Env → R T} {f : T → T → R T} (g : Good J H) (re : RSenv c K J σ env) (o : Out c K J H (do let x ← sa env; let y ← sb env; f x y) Q (fun cls d H' => W cls d σ H')) :
    tS c K W sa σ H fun x H1 => tS c K W sb σ H1 fun y H2 => ∃ J2 a b, Good J2 H2 ∧ RS c K J2 a x ∧ RS c K J2 b y ∧ Out c K J2 H2 (f a b) Q (fun cls d H' => W cls d σ H') := by
  refine ⟨J, env, g, re, out_step (out_bind o) fun a x J1 H1 e1 ra o1 => ?_⟩
  refine ⟨J1, env, e1.good, re.mono e1.jj, out_step (out_bind (o1.ext e1)) fun b y J2 H2 e2 rb o2 => ?_⟩
  exact ⟨J2, a, b, e2.good, RS.mono e2.jj a x ra, rb, o2.ext e2⟩
theorem out_one {W : WX} {σ : L2.St} {env : Env} {sa : Env → R T} {f : T → R T} (g : Good J H) (re : RSenv c K J σ env) (o : Out c K J H (do let x ← sa env; f x) Q (fun cls d H' => W cls d σ H')) :
    tS c K W sa σ H fun x H1 => ∃ J1 a, Good J1 H1 ∧ RS c K J1 a x ∧ RSenv c K J1 σ env ∧ Ext J H J1 H1 ∧ Out c K J1 H1 (f a) Q (fun cls d H' => W cls d σ H') := by
  refine ⟨J, env, g, re, out_step (out_bind o) fun a x J1 H1 e1 ra o1 => ?_⟩
  exact ⟨J1, a, e1.good, ra, re.mono e1.jj, e1, o1.ext e1⟩
theorem out_ok {r : R T} {t : T} (h : Out c K J H r Q E) (e : r = .ok t) : Post c K J H t Q := by rw [e] at h; exact h
/-- an operation that raises nothing -/
theorem out_get {r : R T} (h : Out c K J H r Q E) (ne : ∀ x, r ≠ .err x) : ∃ t, r = .ok t ∧ Post c K J H t Q := by
  cases r with
  | ok t => exact ⟨t, rfl, h⟩
  | err x => exact absurd rfl (ne x)
  | bad => exact h.elim
end
theorem optR_ne {β : Type} {α : Type} {o : Option α} {f : α → R β} {x : Exn} (h : ∀ a, f a ≠ .err x) : optR o f ≠ .err x := by
  cases o with
  | none => exact fun z => by cases z
  | some a => exact h a
theorem bind_ne {α β : Type} {r : R α} {f : α → R β} {x : Exn} (h1 : r ≠ .err x) (h2 : ∀ a, f a ≠ .err x) : (r >>= f) ≠ .err x := by
  cases r with
  | ok a => exact h2 a
  | err y => exact fun z => h1 (by cases z; rfl)
  | bad => exact fun z => by cases z
theorem truth_ne (t : T) (x : Exn) : truth t ≠ .err x := by unfold truth; split <;> exact fun z => by cases z
theorem binT_ne (op : Operator) (a b : T) (x : Exn) : binT op a b ≠ .err x := by
  unfold binT
  split <;> first | (exact fun z => by cases z) | (split <;> exact fun z => by cases z)
theorem dgetT_ne (a b : T) (x : Exn) : dgetT a b ≠ .err x := by
  unfold dgetT
  split <;> first | (exact fun z => by cases z) | (split <;> exact fun z => by cases z)
theorem eqDi_ne (a b : T) (x : Exn) : eqDi a b ≠ .err x := by
  unfold eqDi
  split
  · split <;> exact fun z => by cases z
  · exact fun z => by cases z
theorem eqR_ne (a b : T) (x : Exn) : eqR a b ≠ .err x := by
  unfold eqR
  split
  · exact fun z => by cases z
  · exact eqDi_ne a b x
theorem inR_ne (a b : T) (x : Exn) : inR a b ≠ .err x := by
  unfold inR
  split
  · split <;> exact fun z => by cases z
  · split <;> exact fun z => by cases z
  · split <;> exact fun z => by cases z
  · exact bind_ne (dgetT_ne _ _ _) fun _ z => by cases z
theorem cmpT_ne (op : CmpOp) (a b : T) (x : Exn) : cmpT op a b ≠ .err x := by
  unfold cmpT
  split
  · exact bind_ne (eqR_ne _ _ _) fun _ z => by cases z
  · exact bind_ne (eqR_ne _ _ _) fun _ z => by cases z
  · exact fun z => by cases z
  · exact fun z => by cases z
  · exact fun z => by cases z
  · exact fun z => by cases z
  · exact bind_ne (inR_ne _ _ _) fun _ z => by cases z
  · exact bind_ne (inR_ne _ _ _) fun _ z => by cases z
  · exact fun z => by cases z
  · exact fun z => by cases z
  · exact fun z => by cases z
theorem ixT_ne (a b : T) (x : Exn) : ixT a b ≠ .err x := by
  unfold ixT
  split
  · split <;> exact fun z => by cases z
  · split <;> exact fun z => by cases z
  · split <;> exact fun z => by cases z
  · split <;> exact fun z => by cases z
  · exact bind_ne (dgetT_ne _ _ _) fun o z => by cases o <;> cases z
theorem slT_ne (a : T) (l h : Option Int) (x : Exn) : slT a l h ≠ .err x := by unfold slT; split <;> exact fun z => by cases z
theorem b1T_ne (f : B1) (a : T) (x : Exn) : b1T f a ≠ .err x := by
  unfold b1T
  split <;> first
    | (exact fun z => by cases z)
    | (exact optR_ne fun _ z => by cases z)
    | (refine optR_ne fun _ => ?_; split <;> exact fun z => by cases z)
    | (split <;> exact fun z => by cases z)
theorem negT_ne (a : T) (x : Exn) : negT a ≠ .err x := by unfold negT; split <;> exact fun z => by cases z
theorem b2T_ne (mx : Bool) (a b : T) (x : Exn) : b2T mx a b ≠ .err x := by unfold b2T; split <;> exact fun z => by cases z
theorem isiT_ne (a : T) (ty : String) (x : Exn) : isiT a ty ≠ .err x := by
  unfold isiT
  split <;> first | (exact fun z => by cases z) | (split <;> exact fun z => by cases z)
theorem intT_ne (a : T) (x : Exn) : intT a ≠ .err x := by unfold intT; split <;> exact fun z => by cases z
/-! ### walks -/
section
variable {c : CA} {K : PySem.W.Frag} {J H : Hp}
theorem walk_list {ts : List T} {vs : List V} {a : Addr} (h : SqL K J a vs) (q : RSs c K J ts vs) : Walk c K (Itl K a) J ts := by
  intro i Jc Hc gc sc
  have hs : SqL K Hc a vs := (sc.trans gc.sub).seq h
  refine ⟨fun t e => ?_, fun hl => ⟨vs, hs, by rw [← q.length]; exact hl⟩⟩
  obtain ⟨v, e1, e2⟩ := q.get e
  refine ⟨⟨vs, v, hs, e1⟩, fun x H' y => ?_⟩
  obtain ⟨rfl, y⟩ := y
  have := y vs hs
  rw [e1] at this
  cases this
  exact ⟨Jc, .refl gc, RS.mono sc t _ e2⟩
theorem walk_tup {ts : List T} {vs : List V} {a : Addr} (h : J a = some (.tup vs)) (q : RSs c K J ts vs) : Walk c K (Itt K a) J ts := by
  intro i Jc Hc gc sc
  have hs : SqT K Hc a vs := SqT.of (gc.sub _ _ (sc _ _ h))
  refine ⟨fun t e => ?_, fun hl => ⟨vs, hs, by rw [← q.length]; exact hl⟩⟩
  obtain ⟨v, e1, e2⟩ := q.get e
  refine ⟨⟨vs, v, hs, e1⟩, fun x H' y => ?_⟩
  obtain ⟨rfl, y⟩ := y
  have := y vs hs
  rw [e1] at this
  cases this
  exact ⟨Jc, .refl gc, RS.mono sc t _ e2⟩
theorem walk_str {z : Str} (h : sOk z) : Walk c K (Its z) J (z.cps.toList.map fun k => .str ⟨#[k]⟩) := by
  intro i Jc Hc gc sc
  refine ⟨fun t e => ?_, fun hl => (show z.cps.size ≤ i from by simpa using hl)⟩
  rw [List.getElem?_map, Option.map_eq_some_iff] at e
  obtain ⟨k, e1, rfl⟩ := e
  have e2 : z.cps[i]? = some k := by simpa using e1
  have hi : i < z.cps.size := by
    have := (Array.getElem?_eq_some_iff.mp e2).1
    exact this
  refine ⟨hi, fun x H' y => ?_⟩
  obtain ⟨rfl, k2, e3, rfl⟩ := y
  rw [e2] at e3
  cases e3
  refine ⟨Jc, .refl gc, ?_⟩
  simp only [RS]
  have m : (k : Nat) ∈ z.cps := Array.mem_of_getElem? e2
  refine ⟨trivial, (by show 1 ≤ sizeLine; decide), ?_⟩
  have h2 := h.2
  unfold PyData.strOk at h2 ⊢
  have := (Array.all_eq_true_iff_forall_mem.mp h2) k m
  simpa using this
theorem walk_range {lo : Int} {n : Nat} : Walk c K (Itr lo n) J ((List.range n).map fun k => .int (lo + (k : Nat))) := by
  intro i Jc Hc gc sc
  refine ⟨fun t e => ?_, fun hl => (show n ≤ i from by simpa using hl)⟩
  rw [List.getElem?_map, Option.map_eq_some_iff] at e
  obtain ⟨k, e1, rfl⟩ := e
  obtain ⟨h1, h2⟩ := List.getElem?_eq_some_iff.mp e1
  have hi : i < n := by simpa using h1
  have hk : k = i := by simpa using h2.symm
  subst hk
  refine ⟨hi, fun x H' y => ?_⟩
  obtain ⟨rfl, rfl⟩ := y
  exact ⟨Jc, .refl gc, by simp only [RS]⟩
theorem rs_mkTup {Jc : Hp} {xs : List T} {vs : List V} {p : Addr} (h : Jc p = some (.tup vs)) (q : RSs c K Jc xs vs) : RS c K Jc (mkTup xs) (.ref p) := by
  unfold mkTup
  simp only [RS]
  exact ⟨p, vs, rfl, h, q⟩
theorem walk_enum {ts : List T} {vs : List V} {a : Addr} (h : J a = some (.lst vs)) (q : RSs c K J ts vs) : Walk c K (Ite K a) J (ts.zipIdx.map fun p => mkTup [.int (p.2 : Nat), strip p.1]) := by
  intro i Jc Hc gc sc
  have hs : SqL K Hc a vs := SqL.of (gc.sub _ _ (sc _ _ h))
  refine ⟨fun t e => ?_, fun hl => ⟨vs, hs, by rw [← q.length]; simpa using hl⟩⟩
  rw [List.getElem?_map, Option.map_eq_some_iff] at e
  obtain ⟨⟨t0, j⟩, e1, rfl⟩ := e
  rw [List.getElem?_zipIdx, Option.map_eq_some_iff] at e1
  obtain ⟨t1, e1, e2⟩ := e1
  cases e2
  obtain ⟨v, e3, e4⟩ := q.get e1
  refine ⟨⟨vs, v, hs, e3⟩, fun x H' y => ?_⟩
  obtain ⟨p, x1, rfl, hp, rfl, y⟩ := y
  have := y vs hs
  rw [e3] at this
  cases this
  have ex := Ext.newJ gc hp (.tup [.int (i : Nat), v])
  refine ⟨_, ex, rs_mkTup upd_same ?_⟩
  simp only [RSs, RS]
  refine ⟨_, _, rfl, ?_, _, _, rfl, (RS_strip _ _).mpr (RS.mono (sc.trans ex.jj) _ _ e4), rfl⟩
  simp
theorem walk_zip {ts us : List T} {vs ws : List V} {a b : Addr} (h : J a = some (.lst vs)) (q : RSs c K J ts vs) (h2 : J b = some (.lst ws)) (q2 : RSs c K J us ws) : Walk c K (Itz K a b) J ((ts.zip us).map fun p => mkTup [strip p.1, strip p.2]) := by
  intro i Jc Hc gc sc
  have hs : SqL K Hc a vs := SqL.of (gc.sub _ _ (sc _ _ h))
  have hs2 : SqL K Hc b ws := SqL.of (gc.sub _ _ (sc _ _ h2))
  refine ⟨fun t e => ?_, fun hl => ⟨vs, ws, hs, hs2, by rw [← q.length, ← q2.length]; simp at hl; omega⟩⟩
  rw [List.getElem?_map, Option.map_eq_some_iff] at e
  obtain ⟨⟨t0, u0⟩, e1, rfl⟩ := e
  rw [List.getElem?_zip_eq_some] at e1
  obtain ⟨v, e3, e4⟩ := q.get e1.1
  obtain ⟨w, e5, e6⟩ := q2.get e1.2
  refine ⟨⟨vs, ws, v, w, hs, hs2, e3, e5⟩, fun x H' y => ?_⟩
  obtain ⟨p, x1, x2, rfl, hp, rfl, y, y2⟩ := y
  have := y vs hs
  rw [e3] at this
  cases this
  have := y2 ws hs2
  rw [e5] at this
  cases this
  have ex := Ext.newJ gc hp (.tup [v, w])
  refine ⟨_, ex, rs_mkTup upd_same ?_⟩
  simp only [RSs]
  exact ⟨_, _, rfl, (RS_strip _ _).mpr (RS.mono (sc.trans ex.jj) _ _ e4), _, _, rfl, (RS_strip _ _).mpr (RS.mono (sc.trans ex.jj) _ _ e6), rfl⟩
end
theorem childs_ne (a : T) (x : Exn) : childs a ≠ .err x := by unfold childs; split <;> exact fun z => by cases z
theorem rngT_ne (a b : Int) (x : Exn) : rngT a b ≠ .err x := by unfold rngT; split <;> exact fun z => by cases z
theorem enmT_ne (a : T) (x : Exn) : enmT a ≠ .err x := by unfold enmT; split <;> exact fun z => by cases z
theorem zpT_ne (a b : T) (x : Exn) : zpT a b ≠ .err x := by unfold zpT; split <;> exact fun z => by cases z
section
variable {c : CA} {K : PySem.W.Frag} {J H : Hp} {E : XK}
theorem outW_get {α : Type} {r : R α} {S : α → Prop} {Ex : Exn → Prop} (h : OutW r S Ex) (ne : ∀ x, r ≠ .err x) : ∃ a, r = .ok a ∧ S a := by
  cases r with
  | ok a => exact ⟨a, rfl, h⟩
  | err x => exact absurd rfl (ne x)
  | bad => exact h.elim
/-- a part is walked, the rest wants a list of trees -/
theorem outW_step {W : WX} {σ : L2.St} {env : Env} {sa : Env → R T} {α : Type} {f : T → R α} {S : α → Prop} {Q' : VK} (h : OutW (do let x ← sa env; f x) S (fun x => PostE c K J H x E))
    (k : ∀ a v J1 H1, Ext J H J1 H1 → RS c K J1 a v → OutW (f a) S (fun x => PostE c K J H x E) → Q' v H1) : Out c K J H (sa env) Q' E :=
  out_step (outW_bind h) k
end
section
variable {c : CA} {C : Calls} {G : Gc} {W : WX} {k : Nat} {X : Cx} {e : Expr} {sa sb : Env → R T}
/-- a sequence, whatever it is -/
theorem pi_seq {tg : Expr} (he : PE X e (tS c X.K W sa)) : PI X tg e (tSI c X.K W fun env => do let x ← sa env; childs x) := by
  refine ⟨fun pins s σ H R' I h => ?_⟩
  obtain ⟨J, env, g, re, o⟩ := h
  replace o : OutW (sa env >>= childs) _ _ := o
  cases q : sa env with
  | bad => rw [q] at o; exact o.elim
  | err x =>
    refine (pi_list he).run pins s σ H R' I ⟨J, env, g, re, ?_⟩
    rw [q] at o
    show Out c X.K J H (sa env) _ _
    rw [q]
    exact o
  | ok t =>
    have h0 := outW_bind o
    rw [q] at h0
    obtain ⟨ts, e1, s1⟩ := outW_get (show OutW (childs t) _ _ from h0) (childs_ne _)
    unfold childs at e1
    split at e1
    · cases e1
      refine (pi_list he).run pins s σ H R' I ⟨J, env, g, re, out_step (S := fun a => a = .nd .lst _ ts) (by rw [q]; exact rfl) fun a v J1 H1 ex ra ea => ?_⟩
      subst ea
      obtain ⟨p, vs, rfl, j1, h1, q1⟩ := rs_lst ex.good ra
      exact ⟨p, rfl, ⟨vs, SqL.of h1⟩, s1 _ J1 H1 ex (walk_list (SqL.of j1) q1)⟩
    · cases e1
      refine (pi_list he).run pins s σ H R' I ⟨J, env, g, re, out_step (S := fun a => a = .nd .ext _ ts) (by rw [q]; exact rfl) fun a v J1 H1 ex ra ea => ?_⟩
      subst ea
      simp only [RS, At] at ra
      obtain ⟨p, vs, rfl, j1, q1⟩ := ra
      exact ⟨p, rfl, ⟨vs, ex.good.sub.seq j1⟩, s1 _ J1 H1 ex (walk_list j1 q1)⟩
    · cases e1
      refine (pi_tup he).run pins s σ H R' I ⟨J, env, g, re, out_step (S := fun a => a = .nd .tup _ ts) (by rw [q]; exact rfl) fun a v J1 H1 ex ra ea => ?_⟩
      subst ea
      obtain ⟨p, vs, rfl, j1, h1, q1⟩ := rs_tup ex.good ra
      exact ⟨p, rfl, ⟨vs, SqT.of h1⟩, s1 _ J1 H1 ex (walk_tup j1 q1)⟩
    · cases e1
      rename_i z
      refine (pi_str he).run pins s σ H R' I ⟨J, env, g, re, out_step (S := fun a => a = .str z) (by rw [q]; exact rfl) fun a v J1 H1 ex ra ea => ?_⟩
      subst ea
      simp only [RS] at ra
      obtain ⟨rfl, l⟩ := ra
      exact ⟨z, rfl, s1 _ J1 H1 ex (walk_str l)⟩
    · cases e1
theorem glS {x : Str} (ok : CtxOk c C G W k X) (h : x ∈ bltNames.map Str.ofString) : X.mg x = none := by
  obtain ⟨b, m, rfl⟩ := List.mem_map.mp h
  exact ok.prog.blt b m
theorem star1 {a : Expr} {env : PySem.Env} (h : plainX a = true) : starEach [a] env = [(false, eval a env)] := by rw [starEach_cons h]; rfl
theorem star2 {a b : Expr} {env : PySem.Env} (h : plainX a = true) (h2 : plainX b = true) : starEach [a, b] env = [(false, eval a env), (false, eval b env)] := by rw [starEach_cons h, starEach_cons h2]; rfl
def tSR (c : CA) (K : PySem.W.Frag) (W : WX) (sem : Env → R (List T)) : TI := fun σ H R' => ∃ (J : Hp) (env : Env), Good J H ∧ RSenv c K J σ env ∧
  OutW (sem env) (fun ts => ∀ J0 J' H', Ext J H J' H' → (∀ Jw, Walk c K J0 Jw ts) → R' J0 H') (fun x => PostE c K J H x (fun cls d H' => W cls d σ H'))
theorem tSR_of {c : CA} {K : PySem.W.Frag} {W : WX} {sem : Env → R (List T)} {σ : L2.St} {H : Hp} {R' : L2.It → Hp → Prop} (h : tSI c K W sem σ H R') : tSR c K W sem σ H R' := by
  obtain ⟨J, env, g, re, o⟩ := h
  refine ⟨J, env, g, re, ?_⟩
  cases q : sem env with
  | ok ts =>
    rw [q] at o
    exact fun J0 J' H' ex wk => o J0 J' H' ex (wk J')
  | err x => rw [q] at o; exact o
  | bad => rw [q] at o; exact o
theorem pi_rng1R {tg a : Expr} {p pos : Pos} (ok : CtxOk c C G W k X) (hg : Gl X "range") (hp : plainX a = true) (he : PE X a (tS c X.K W sa)) :
    PI X tg (.Call (.Name "range" p) [a] [] pos) (tSR c X.K W fun env => do let x ← sa env; let i ← intT x; rngT 0 i) := by
  refine pi_of (pi_range1 hg (glS ok (by decide)) (pa_cons he pa_nil (starEach_cons hp)) (star1 hp)) fun σ H R' h => ?_
  obtain ⟨J, env, g, re, o⟩ := h
  refine ⟨J, env, g, re, out_step (outW_bind o) fun t v J1 H1 ex ra o1 => ?_⟩
  obtain ⟨i, e1, o2⟩ := outW_get (outW_bind o1) (intT_ne _)
  unfold intT at e1
  split at e1
  · cases e1
    simp only [RS] at ra; subst ra
    obtain ⟨ts, e3, s1⟩ := outW_get o2 (rngT_ne _ _)
    unfold rngT at e3
    split at e3
    · rename_i hz
      obtain ⟨z1, z2, z3, z4⟩ := hz
      cases e3
      rw [Int.sub_zero] at s1
      exact ⟨_, rfl, z3, z4, s1 _ J1 H1 ex fun _ => walk_range⟩
    · cases e3
  · cases e1
theorem pi_rng2R {tg a b : Expr} {p pos : Pos} (ok : CtxOk c C G W k X) (hg : Gl X "range") (hp : plainX a = true) (hp2 : plainX b = true) (he : PE X a (tS c X.K W sa)) (he2 : PE X b (tS c X.K W sb)) :
    PI X tg (.Call (.Name "range" p) [a, b] [] pos) (tSR c X.K W fun env => do let x ← sa env; let y ← sb env; let i ← intT x; let j ← intT y; rngT i j) := by
  refine pi_of (pi_range2 hg (glS ok (by decide)) (pa_cons he (pa_cons he2 pa_nil (starEach_cons hp2)) (starEach_cons hp)) (star2 hp hp2) (star1 hp2)) fun σ H R' h => ?_
  obtain ⟨J, env, g, re, o⟩ := h
  refine ⟨J, env, g, re, out_step (outW_bind o) fun t v J1 H1 ex ra o1 => ?_⟩
  have o1' : OutW (sb env) (fun y => OutW (do let i ← intT t; let j ← intT y; rngT i j) _ _) _ := outW_bind o1
  refine ⟨J1, env, ex.good, re.mono ex.jj, out_step (E := fun cls d H' => W cls d σ H') (S := fun y => OutW (do let i ← intT t; let j ← intT y; rngT i j) (fun ts => ∀ J0 J' H', Ext J H J' H' → (∀ Jw, Walk c X.K J0 Jw ts) → R' J0 H') (fun x => PostE c X.K J H x (fun cls d H' => W cls d σ H'))) ?_ fun u w J2 H2 ex2 rb o2 => ?_⟩
  · cases q : sb env with
    | ok y => rw [q] at o1'; exact o1'
    | err x => rw [q] at o1'; exact PostE.ext ex o1'
    | bad => rw [q] at o1'; exact o1'
  · obtain ⟨i, e1, o3⟩ := outW_get (outW_bind o2) (intT_ne _)
    obtain ⟨j, e2, o4⟩ := outW_get (outW_bind o3) (intT_ne _)
    obtain ⟨ts, e3, s1⟩ := outW_get o4 (rngT_ne _ _)
    unfold intT at e1 e2
    split at e1
    · cases e1
      split at e2
      · cases e2
        simp only [RS] at ra rb; subst ra rb
        unfold rngT at e3
        split at e3
        · rename_i hz
          obtain ⟨z1, z2, z3, z4⟩ := hz
          cases e3
          exact ⟨_, _, rfl, ⟨z1, z2, z3, z4⟩, s1 _ J2 H2 (ex.trans ex2) fun _ => walk_range⟩
        · cases e3
      · cases e2
    · cases e1
theorem pi_rng1 {tg a : Expr} {p pos : Pos} (ok : CtxOk c C G W k X) (hg : Gl X "range") (hp : plainX a = true) (he : PE X a (tS c X.K W sa)) :
    PI X tg (.Call (.Name "range" p) [a] [] pos) (tSI c X.K W fun env => do let x ← sa env; let i ← intT x; rngT 0 i) := pi_of (pi_rng1R ok hg hp he) fun _ _ _ h => tSR_of h
theorem pi_rng2 {tg a b : Expr} {p pos : Pos} (ok : CtxOk c C G W k X) (hg : Gl X "range") (hp : plainX a = true) (hp2 : plainX b = true) (he : PE X a (tS c X.K W sa)) (he2 : PE X b (tS c X.K W sb)) :
    PI X tg (.Call (.Name "range" p) [a, b] [] pos) (tSI c X.K W fun env => do let x ← sa env; let y ← sb env; let i ← intT x; let j ← intT y; rngT i j) := pi_of (pi_rng2R ok hg hp hp2 he he2) fun _ _ _ h => tSR_of h
theorem pi_enmT {a : Expr} {p pos tpos : Pos} {elts : List Expr} {kk : Nat} (ok : CtxOk c C G W k X) (hg : Gl X "enumerate") (hp : plainX a = true) (he : PE X a (tS c X.K W sa)) (h2 : ∃ t0 t1 ts, elts = t0 :: t1 :: ts) :
    PI X (.Tuple elts kk tpos) (.Call (.Name "enumerate" p) [a] [] pos) (tSI c X.K W fun env => do let x ← sa env; enmT x) := by
  obtain ⟨t0, t1, tr, rfl⟩ := h2
  refine pi_of (pi_enum hg (glS ok (by decide)) (pa_cons he pa_nil (starEach_cons hp)) (star1 hp)) fun σ H R' h => ?_
  obtain ⟨J, env, g, re, o⟩ := h
  refine ⟨J, env, g, re, out_step (outW_bind o) fun t v J1 H1 ex ra o1 => ?_⟩
  obtain ⟨ts, e3, s1⟩ := outW_get o1 (enmT_ne _)
  unfold enmT at e3
  split at e3
  · cases e3
    obtain ⟨q, vs, rfl, j1, h1, q1⟩ := rs_lst ex.good ra
    exact ⟨q, vs, rfl, SqL.of h1, s1 _ J1 H1 ex (walk_enum j1 q1)⟩
  · cases e3
theorem pi_zpT {a b : Expr} {p pos tpos : Pos} {elts : List Expr} {kk : Nat} (ok : CtxOk c C G W k X) (hg : Gl X "zip") (hp : plainX a = true) (hp2 : plainX b = true) (he : PE X a (tS c X.K W sa)) (he2 : PE X b (tS c X.K W sb)) (h2 : ∃ t0 t1 ts, elts = t0 :: t1 :: ts) :
    PI X (.Tuple elts kk tpos) (.Call (.Name "zip" p) [a, b] [] pos) (tSI c X.K W fun env => do let x ← sa env; let y ← sb env; zpT x y) := by
  obtain ⟨t0, t1, tr, rfl⟩ := h2
  refine pi_of (pi_zip hg (glS ok (by decide)) (pa_cons he (pa_cons he2 pa_nil (starEach_cons hp2)) (starEach_cons hp)) (starEach_cons hp) (starEach_any (by simp [hp2]))) fun σ H R' h => ?_
  obtain ⟨J, env, g, re, o⟩ := h
  refine ⟨J, env, g, re, out_step (outW_bind o) fun t v J1 H1 ex ra o1 => ?_⟩
  have o1' : OutW (sb env) (fun y => OutW (zpT t y) _ _) _ := outW_bind o1
  refine ⟨J1, env, ex.good, re.mono ex.jj, out_step (E := fun cls d H' => W cls d σ H') (S := fun y => OutW (zpT t y) (fun ts => ∀ J0 J' H', Ext J H J' H' → Walk c X.K J0 J' ts → R' J0 H') (fun x => PostE c X.K J H x (fun cls d H' => W cls d σ H'))) ?_ fun u w J2 H2 ex2 rb o2 => ?_⟩
  · cases q : sb env with
    | ok y => rw [q] at o1'; exact o1'
    | err x => rw [q] at o1'; exact PostE.ext ex o1'
    | bad => rw [q] at o1'; exact o1'
  · obtain ⟨ts, e3, s1⟩ := outW_get o2 (zpT_ne _ _)
    unfold zpT at e3
    split at e3
    · cases e3
      obtain ⟨q, vs, rfl, j1, h1, q1⟩ := rs_lst ex.good ra
      obtain ⟨q', vs', rfl, j1', h1', q1'⟩ := rs_lst ex2.good rb
      exact ⟨q, q', vs, vs', rfl, SqL.of (ex2.hh _ _ h1), SqL.of h1', s1 _ J2 H2 (ex.trans ex2) (walk_zip (ex2.jj _ _ j1) (RSs.mono ex2.jj _ _ q1) j1' q1')⟩
    · cases e3
end
end Rb
/-! Construct by construct. -/
namespace Rb
open PySem
open PySem.Spec
open PyProof.Rows
open L2
theorem tS_imp {c : CA} {K : PySem.W.Frag} {W : WX} {s : Env → R T} {σ : L2.St} {H : Hp} {Q Q' : VK} (h : tS c K W s σ H Q) (k : ∀ v H1, Q v H1 → Q' v H1) : tS c K W s σ H Q' := by
  obtain ⟨J, env, g, re, o⟩ := h
  refine ⟨J, env, g, re, ?_⟩
  cases q : s env with
  | ok t => rw [q] at o; exact Post.imp o fun v H1 _ z => k v H1 z
  | err x => rw [q] at o; exact o
  | bad => rw [q] at o; exact o
theorem ofString_inj {a b : String} (h : Str.ofString a = Str.ofString b) : a = b := by
  rw [Str.ofString_eq_toList, Str.ofString_eq_toList] at h
  have h2 : a.toList.map Char.toNat = b.toList.map Char.toNat := by
    have := congrArg (fun s : Str => s.cps.toList) h
    simpa using this
  have h3 : a.toList = b.toList := by
    have key : ∀ (l m : List Char), l.map Char.toNat = m.map Char.toNat → l = m := by
      intro l
      induction l with
      | nil => intro m h; cases m with
        | nil => rfl
        | cons _ _ => simp at h
      | cons x xs ih => intro m h; cases m with
        | nil => simp at h
        | cons y ys =>
          simp only [List.map_cons, List.cons.injEq] at h
          have e : x = y := Char.ext (UInt32.toNat_inj.mp h.1)
          rw [e, ih ys h.2]
    exact key _ _ h2
  exact String.toList_injective h3
section
variable {c : CA} {C : Calls} {G : Gc} {W : WX} {k : Nat} {X : Cx} {e f h3 : Expr} {sa sb sd : Env → R T} {pos : Pos}
theorem getK_obj {K : PySem.W.Frag} {J : Hp} (q : String) : ∀ {fs : List String} {ts : List T} {vs : List V}, RSs c K J ts vs → fs.length = vs.length →
    match getK fs ts q with
    | some t => ∃ v, ((fs.map Str.ofString).zip vs).lookup (Str.ofString q) = some v ∧ RS c K J t v
    | none => ((fs.map Str.ofString).zip vs).lookup (Str.ofString q) = none
  | [], ts, vs, r, e => by
    cases vs with
    | nil => cases ts <;> simp [getK]
    | cons v vs => simp at e
  | g :: fs, [], vs, r, e => by simp only [RSs] at r; subst r; simp at e
  | g :: fs, t :: ts, vs, r, e => by
    simp only [RSs] at r
    obtain ⟨v, r', rfl, r1, r2⟩ := r
    simp only [getK, List.map_cons, List.zip_cons_cons]
    by_cases h : g = q
    · subst h
      rw [if_pos rfl]
      exact ⟨v, by simp [List.lookup_cons], r1⟩
    · rw [if_neg h]
      have hn : (Str.ofString q == Str.ofString g) = false := by
        rw [beq_eq_false_iff_ne]
        exact fun z => h (ofString_inj z).symm
      have ih := getK_obj (K := K) (J := J) q (fs := fs) r2 (by simpa using e)
      rw [List.lookup_cons, hn]
      exact ih
theorem s_var (ok : CtxOk c C G W k X) {i : Nat} {x : Str} (h1 : G.N[i]? = some x) (h2 : G.vis x = true) (h3 : nodbg x = true) : PE X (.Name x pos) (tS c X.K W fun env => optR (getS env i) fun t => .ok (strip t)) := by
  obtain ⟨n1, n2, _⟩ := nodbg_of h3
  refine pe_of (pe_var (i := i) (by rw [ok.hN]; exact h1) (vis_of ok h2) n1 n2) fun σ H Q hw => ?_
  obtain ⟨J, env, g, re, o⟩ := hw
  cases q : getS env i with
  | none =>
    replace o : Out c X.K J H (optR (getS env i) fun t => .ok (strip t)) Q _ := o
    rw [q] at o; exact o.elim
  | some t =>
    replace o : Out c X.K J H (optR (getS env i) fun t => .ok (strip t)) Q _ := o
    rw [q] at o
    obtain ⟨v, e1, e2⟩ := re i t q
    exact ⟨v, e1, Post.same g e2 o⟩
theorem s_non {j : Nat} : PE X (.Constant .none j pos) (tS c X.K W fun _ => .ok .non) := pe_of pe_non fun σ H Q ⟨J, env, g, re, o⟩ => Post.non g o
theorem s_bl {b : Bool} {j : Nat} : PE X (.Constant (.bool b) j pos) (tS c X.K W fun _ => .ok (.bl b)) := pe_of pe_bl fun σ H Q ⟨J, env, g, re, o⟩ => Post.bl g o
theorem s_int {i : Int} {j : Nat} : PE X (.Constant (.int i) j pos) (tS c X.K W fun _ => .ok (.int i)) := pe_of pe_int fun σ H Q ⟨J, env, g, re, o⟩ => Post.int g o
theorem sOkB_ok {x : Str} (h : sOkB x = true) : sOk x := by
  simp only [sOkB, Bool.and_eq_true, decide_eq_true_eq] at h
  exact h
theorem s_str {x : Str} {j : Nat} (h : sOkB x = true) : PE X (.Constant (.str x) j pos) (tS c X.K W fun _ => .ok (.str x)) := pe_of pe_str fun σ H Q ⟨J, env, g, re, o⟩ => Post.str g (sOkB_ok h) o
theorem s_glb (ok : CtxOk c C G W k X) {x : String} {q : Key} (h1 : G.gl (Str.ofString x) = true) (h2 : nodbg (Str.ofString x) = true) (h3 : G.consts.lookup x = some q) (h4 : keyOkB q = true) :
    PE X (.Name (Str.ofString x) pos) (tS c X.K W fun _ => .ok (keyO q)) := by
  obtain ⟨u, e1, e2⟩ := ok.prog.glb x q h3
  refine pe_of (pe_glob (gl_of ok h1) e1 e2 (nodbg_of h2).1) fun σ H Q hw => ?_
  obtain ⟨J, env, g, re, o⟩ := hw
  cases q with
  | inl i => exact Post.int g o
  | inr s => exact Post.str g (sOkB_ok h4) o
theorem s_bin {op : Operator} (ha : PE X e (tS c X.K W sa)) (hb : PE X f (tS c X.K W sb)) : PE X (.BinOp e op f pos) (tS c X.K W fun env => do let x ← sa env; let y ← sb env; binT op x y) := by
  refine pe_of (pe_op (op_bin (c := c) op) ha hb) fun σ H Q ⟨J, env, g, re, o⟩ => ?_
  refine tS_imp (out_two g re o) fun x H1 h1 => tS_imp h1 fun y H2 h2 => ?_
  obtain ⟨J2, a, b, g2, ra, rb, o2⟩ := h2
  obtain ⟨t, e1, p⟩ := out_get o2 (binT_ne _ _ _)
  exact ⟨J2, a, b, t, g2, ra, rb, e1, p⟩
end
end Rb
/-! Construct by construct, further. -/
namespace Rb
open PySem
open PySem.Spec
open PyProof.Rows
open L2
section
variable {c : CA} {C : Calls} {G : Gc} {W : WX} {k : Nat} {X : Cx} {e f d : Expr} {sa sb sd : Env → R T} {pos : Pos}
theorem CtxOk.hu (ok : CtxOk c C G W k X) : X.A.units + 66 < cLine := by have := ok.room.un; omega
theorem s_neg (ha : PE X e (tS c X.K W sa)) : PE X (.UnaryOp .USub e pos) (tS c X.K W fun env => do let x ← sa env; negT x) := by
  refine pe_of (pe_un un_neg ha) fun σ H Q ⟨J, env, g, re, o⟩ => tS_imp (out_one g re o) fun x H1 h1 => ?_
  obtain ⟨J1, a, g1, ra, _, _, o1⟩ := h1
  obtain ⟨t, e1, p⟩ := out_get o1 (negT_ne _)
  unfold negT at e1
  split at e1
  · cases e1
    simp only [RS] at ra; subst ra
    exact ⟨_, rfl, Post.int g1 p⟩
  · cases e1
theorem s_no (ha : PE X e (tS c X.K W sa)) : PE X (.UnaryOp .Not e pos) (tS c X.K W fun env => do let x ← sa env; let b ← truth x; .ok (.bl (!b))) := by
  refine pe_of (pe_notT ha) fun σ H Q ⟨J, env, g, re, o⟩ => tS_imp (out_one g re o) fun x H1 h1 => ?_
  obtain ⟨J1, a, g1, ra, _, _, o1⟩ := h1
  obtain ⟨b, e1, p⟩ := outW_get (out_bind o1) (truth_ne _)
  exact ⟨b, tru_T g1 ra e1, Post.bl g1 p⟩
theorem s_cmp (ok : CtxOk c C G W k X) {op : CmpOp} (hf : plainX f = true) (ha : PE X e (tS c X.K W sa)) (hb : PE X f (tS c X.K W sb)) : PE X (.Compare e [op] [f] pos) (tS c X.K W fun env => do let x ← sa env; let y ← sb env; cmpT op x y) := by
  refine pe_of (pe_cmpR (op_cmp (c := c) ok.hu op) ha hb (noMarks hf)) fun σ H Q ⟨J, env, g, re, o⟩ => ?_
  refine tS_imp (out_two g re o) fun x H1 h1 => tS_imp h1 fun y H2 h2 => ?_
  obtain ⟨J2, a, b, g2, ra, rb, o2⟩ := h2
  obtain ⟨t, e1, p⟩ := out_get o2 (cmpT_ne _ _ _)
  exact ⟨J2, a, b, t, g2, ra, rb, e1, p⟩
theorem cmpT_bl {op : CmpOp} {a b t : T} (h : cmpT op a b = .ok t) : ∃ k, t = .bl k := by
  unfold cmpT at h
  split at h
  · obtain ⟨_, _, h⟩ := R.bind_ok h; cases h; exact ⟨_, rfl⟩
  · obtain ⟨_, _, h⟩ := R.bind_ok h; cases h; exact ⟨_, rfl⟩
  · cases h; exact ⟨_, rfl⟩
  · cases h; exact ⟨_, rfl⟩
  · cases h; exact ⟨_, rfl⟩
  · cases h; exact ⟨_, rfl⟩
  · obtain ⟨_, _, h⟩ := R.bind_ok h; cases h; exact ⟨_, rfl⟩
  · obtain ⟨_, _, h⟩ := R.bind_ok h; cases h; exact ⟨_, rfl⟩
  · cases h; exact ⟨_, rfl⟩
  · cases h; exact ⟨_, rfl⟩
  · cases h
/-- as tests -/
theorem t_val (ha : PE X e (tS c X.K W sa)) (hv : valX e = true) : PT X e (tSB c X.K W fun env => do let x ← sa env; truth x) := by
  refine pt_of (pt_truth ha (isTrue_val hv)) fun σ H Q ⟨J, env, g, re, o⟩ => ?_
  refine ⟨J, env, g, re, out_step (outW_bind o) fun a v J1 H1 ex ra o1 => ?_⟩
  obtain ⟨b, e1, p⟩ := outW_get o1 (truth_ne _)
  exact ⟨b, tru_T ex.good ra e1, p J1 H1 ex⟩
theorem t_no (ha : PT X e (tSB c X.K W fun env => do let x ← sa env; truth x)) : PT X (.UnaryOp .Not e pos) (tSB c X.K W fun env => do let t ← (do let x ← sa env; let b ← truth x; .ok (.bl (!b)) : R T); truth t) := by
  refine pt_of (pt_not ha) fun σ H Q ⟨J, env, g, re, o⟩ => ⟨J, env, g, re, ?_⟩
  replace o : OutW ((sa env >>= fun x => truth x >>= fun b => .ok (.bl (!b))) >>= truth) _ _ := o
  show OutW (sa env >>= truth) _ _
  cases q : sa env with
  | bad => rw [q] at o; exact o.elim
  | err x => rw [q] at o; exact o
  | ok t =>
    rw [q] at o
    show OutW (truth t) _ _
    replace o : OutW ((truth t >>= fun b => .ok (.bl (!b))) >>= truth) _ _ := o
    cases q2 : truth t with
    | bad => rw [q2] at o; exact o.elim
    | err x => rw [q2] at o; exact o
    | ok b => rw [q2] at o; exact o
theorem outB {K : PySem.W.Frag} {J H : Hp} {r : R T} {Q : Bool → Hp → Prop} {E : XK} (h : OutW (r >>= truth) (fun b => ∀ J' H', Ext J H J' H' → Q b H') (fun x => PostE c K J H x E)) (hb : ∀ t, r = .ok t → ∃ b, t = .bl b) :
    Out c K J H r (fun x H' => ∃ b, x = .bl b ∧ Q b H') E := by
  cases r with
  | bad => exact h
  | err x => exact h
  | ok t =>
    obtain ⟨b, rfl⟩ := hb t rfl
    intro v J' H' F ex _ ro
    simp only [RO] at ro
    exact ⟨b, ro.1, h J' H' ex⟩
theorem two_bl {op : CmpOp} {r1 r2 : R T} {t : T} (h : (r1 >>= fun x => r2 >>= fun y => cmpT op x y) = .ok t) : ∃ b, t = .bl b := by
  obtain ⟨x, _, h⟩ := R.bind_ok h
  obtain ⟨y, _, h⟩ := R.bind_ok h
  exact cmpT_bl h
theorem t_cmp (ok : CtxOk c C G W k X) {op : CmpOp} (hf : plainX f = true) (ha : PE X e (tS c X.K W sa)) (hb : PE X f (tS c X.K W sb)) : PT X (.Compare e [op] [f] pos) (tSB c X.K W fun env => do let t ← (do let x ← sa env; let y ← sb env; cmpT op x y : R T); truth t) := by
  refine pt_of (pt_cmpR (op_cmp (c := c) ok.hu op) ha hb (noMarks hf)) fun σ H Q ⟨J, env, g, re, o⟩ => ?_
  have o' : Out c X.K J H (do let x ← sa env; let y ← sb env; cmpT op x y) (fun x H' => ∃ k, x = .bl k ∧ Q k H') (fun cls d H' => W cls d σ H') := outB o fun t h => two_bl h
  refine tS_imp (out_two g re o') fun x H1 h1 => tS_imp h1 fun y H2 h2 => ?_
  obtain ⟨J2, a, b, g2, ra, rb, o2⟩ := h2
  obtain ⟨t, e1, p⟩ := out_get o2 (cmpT_ne _ _ _)
  exact ⟨J2, a, b, t, g2, ra, rb, e1, p⟩
/-! chains, and, or, conditional expressions -/
def semChain (op op' : CmpOp) (sa sb sd : Env → R T) (env : Env) : R T := do
  let x ← sa env
  let y ← sb env
  let z ← cmpT op x y
  match z with
  | .bl true => do
    let w ← sd env
    cmpT op' y w
  | .bl false => .ok (.bl false)
  | _ => .bad
theorem out_two2 {K : PySem.W.Frag} {J H : Hp} {Q : VK} {σ : L2.St} {env : Env} {f : T → T → R T} (g : Good J H) (re : RSenv c K J σ env) (o : Out c K J H (do let x ← sa env; let y ← sb env; f x y) Q (fun cls d H' => W cls d σ H')) :
    tS c K W sa σ H fun x H1 => tS c K W sb σ H1 fun y H2 => ∃ J2 a b, Good J2 H2 ∧ RS c K J2 a x ∧ RS c K J2 b y ∧ RSenv c K J2 σ env ∧ Out c K J2 H2 (f a b) Q (fun cls d H' => W cls d σ H') := by
  refine ⟨J, env, g, re, out_step (out_bind o) fun a x J1 H1 e1 ra o1 => ?_⟩
  refine ⟨J1, env, e1.good, re.mono e1.jj, out_step (out_bind (o1.ext e1)) fun b y J2 H2 e2 rb o2 => ?_⟩
  exact ⟨J2, a, b, e2.good, RS.mono e2.jj a x ra, rb, re.mono (e1.trans e2).jj, o2.ext e2⟩
theorem chain_red {K : PySem.W.Frag} {J H : Hp} {op op' : CmpOp} {σ : L2.St} {env : Env} {Q : VK} (g : Good J H) (re : RSenv c K J σ env) (o : Out c K J H (semChain op op' sa sb sd env) Q (fun cls d H' => W cls d σ H')) :
    tChain (r2T c K (cmpT op)) (r2T c K (cmpT op')) (tS c K W sa) (tS c K W sb) (tS c K W sd) σ H Q := by
  refine tS_imp (out_two2 g re o) fun x H1 h1 => tS_imp h1 fun y H2 h2 => ?_
  obtain ⟨J2, a, b, g2, ra, rb, re2, o2⟩ := h2
  obtain ⟨t, e1, p⟩ := outW_get (out_bind o2) (cmpT_ne _ _ _)
  obtain ⟨q, rfl⟩ := cmpT_bl e1
  refine ⟨J2, a, b, .bl q, g2, ra, rb, e1, fun v J3 H3 F ex _ ro => ?_⟩
  simp only [RO] at ro
  refine ⟨q, ro.1, ?_⟩
  cases q with
  | false => rw [if_neg Bool.false_ne_true]; exact Post.bl ex.good (Post.ext ex p)
  | true =>
    rw [if_pos rfl]
    replace p : Out c K J2 H2 (sd env >>= fun w => cmpT op' b w) Q (fun cls d H' => W cls d σ H') := p
    refine tS_imp (out_one (sa := sd) ex.good (re2.mono ex.jj) (p.ext ex)) fun w H4 h4 => ?_
    obtain ⟨J4, a4, g4, r4, _, ex4, o4⟩ := h4
    obtain ⟨t4, e4, p4⟩ := out_get o4 (cmpT_ne _ _ _)
    exact ⟨J4, b, a4, t4, g4, RS.mono (ex.trans ex4).jj _ _ rb, r4, e4, p4⟩
theorem s_chain (ok : CtxOk c C G W k X) {op op' : CmpOp} (hf : plainX f = true) (hd : plainX d = true) (ha : PE X e (tS c X.K W sa)) (hb : PE X f (tS c X.K W sb)) (hc : PE X d (tS c X.K W sd)) :
    PE X (.Compare e [op, op'] [f, d] pos) (tS c X.K W (semChain op op' sa sb sd)) := by
  refine pe_of (pe_chain (op_cmp (c := c) ok.hu op) (op_cmp (c := c) ok.hu op') ha hb hc (noMarks hd)) fun σ H Q ⟨J, env, g, re, o⟩ => ?_
  exact chain_red g re o
theorem chain_bl {op op' : CmpOp} {env : Env} {t : T} (h : semChain op op' sa sb sd env = .ok t) : ∃ b, t = .bl b := by
  unfold semChain at h
  obtain ⟨x, _, h⟩ := R.bind_ok h
  obtain ⟨y, _, h⟩ := R.bind_ok h
  obtain ⟨z, _, h⟩ := R.bind_ok h
  split at h
  · obtain ⟨w, _, h⟩ := R.bind_ok h
    exact cmpT_bl h
  · cases h; exact ⟨_, rfl⟩
  · cases h
theorem t_chain (ok : CtxOk c C G W k X) {op op' : CmpOp} (hf : plainX f = true) (hd : plainX d = true) (ha : PE X e (tS c X.K W sa)) (hb : PE X f (tS c X.K W sb)) (hc : PE X d (tS c X.K W sd)) :
    PT X (.Compare e [op, op'] [f, d] pos) (tSB c X.K W fun env => do let t ← semChain op op' sa sb sd env; truth t) := by
  refine pt_of (pt_chain (op_cmp (c := c) ok.hu op) (op_cmp (c := c) ok.hu op') ha hb hc (noMarks hd)) fun σ H Q ⟨J, env, g, re, o⟩ => ?_
  exact chain_red g re (outB o fun t h => chain_bl h)
theorem s_ifx (hc : PT X e (tSB c X.K W fun env => do let x ← sa env; truth x)) (ha : PE X f (tS c X.K W sb)) (hb : PE X d (tS c X.K W sd)) :
    PE X (.IfExp e f d pos) (tS c X.K W fun env => do let x ← sa env; let b ← truth x; if b then sb env else sd env) := by
  refine pe_of (pe_ifExp hc ha hb) fun σ H Q ⟨J, env, g, re, o⟩ => ⟨J, env, g, re, ?_⟩
  replace o : Out c X.K J H (sa env >>= fun x => truth x >>= fun b => if b then sb env else sd env) Q _ := o
  have key : ∀ (r : R Bool), Out c X.K J H (r >>= fun b => if b then sb env else sd env) Q (fun cls d H' => W cls d σ H') →
      OutW r (fun b => ∀ J' H', Ext J H J' H' → if b = true then tS c X.K W sb σ H' Q else tS c X.K W sd σ H' Q) (fun x => PostE c X.K J H x (fun cls d H' => W cls d σ H')) := by
    intro r h
    cases r with
    | bad => exact h
    | err x => exact h
    | ok b =>
      intro J' H' ex
      cases b with
      | true => rw [if_pos rfl]; exact ⟨J', env, ex.good, re.mono ex.jj, Out.ext ex h⟩
      | false => rw [if_neg Bool.false_ne_true]; exact ⟨J', env, ex.good, re.mono ex.jj, Out.ext ex h⟩
  refine key (sa env >>= truth) ?_
  cases q : sa env with
  | bad => rw [q] at o; exact o
  | err x => rw [q] at o; exact o
  | ok t => rw [q] at o; exact o
/-! displays -/
theorem l_nil : PA X [] (tSL c X.K W fun _ => .ok []) := pa_of pa_nil fun σ H Q ⟨J, env, g, re, o⟩ => o [] J H [] (.refl g) .nil (by simp only [ROs]; exact ⟨trivial, trivial⟩)
theorem l_cons {es : List Expr} {ss : Env → R (List T)} (hp : plainX e = true) (ha : PE X e (tS c X.K W sa)) (hs : PA X es (tSL c X.K W ss)) : PA X (e :: es) (tSL c X.K W fun env => do let x ← sa env; let xs ← ss env; .ok (x :: xs)) := by
  refine pa_of (pa_cons ha hs (starEach_cons hp)) fun σ H Q ⟨J, env, g, re, o⟩ => ⟨J, env, g, re, ?_⟩
  replace o : OutW (sa env >>= fun x => ss env >>= fun xs => .ok (x :: xs)) _ _ := o
  cases q : sa env with
  | bad => rw [q] at o; exact o
  | err x => rw [q] at o; exact o
  | ok t =>
    rw [q] at o
    replace o : OutW (ss env >>= fun xs => .ok (t :: xs)) _ _ := o
    intro v J1 H1 F1 ex fr ro
    refine ⟨J1, env, ex.good, re.mono ex.jj, ?_⟩
    cases q2 : ss env with
    | bad => rw [q2] at o; exact o
    | err x => rw [q2] at o; exact PostE.ext ex o
    | ok ts =>
      rw [q2] at o
      intro vs J2 H2 F2 ex2 fr2 ros
      refine o (v :: vs) J2 H2 (F1 ++ F2) (ex.trans ex2) (Fr.append ex2 ex.hh fr fr2) ?_
      simp only [ROs]
      exact ⟨v, vs, F1, F2, rfl, rfl, ro.later ex2 fr, ros⟩
theorem s_tup {es : List Expr} {kk : Nat} {ss : Env → R (List T)} (hs : PA X es (tSL c X.K W ss)) : PE X (.Tuple es kk pos) (tS c X.K W fun env => do let ts ← ss env; if ts.length ≤ sizeLine then .ok (mkTup ts) else .bad) := by
  refine pe_of (pe_tup hs) fun σ H Q ⟨J, env, g, re, o⟩ => ⟨J, env, g, re, ?_⟩
  replace o : Out c X.K J H (ss env >>= fun ts => if ts.length ≤ sizeLine then .ok (mkTup ts) else .bad) Q _ := o
  cases q : ss env with
  | bad => rw [q] at o; exact o
  | err x => rw [q] at o; exact o
  | ok ts =>
    rw [q] at o
    replace o : Out c X.K J H (if ts.length ≤ sizeLine then .ok (mkTup ts) else .bad) Q _ := o
    intro vs J1 H1 F ex fr ros
    split at o
    · rename_i hz
      exact ⟨by rw [← ros.length]; exact hz, Post.tupO ex fr ros o⟩
    · exact o.elim
theorem s_lst {es : List Expr} {ss : Env → R (List T)} (hs : PA X es (tSL c X.K W ss)) : PE X (.List es pos) (tS c X.K W fun env => do let ts ← ss env; if ts.length ≤ sizeLine then .ok (.nd .lst true ts) else .bad) := by
  refine pe_of (pe_lst hs) fun σ H Q ⟨J, env, g, re, o⟩ => ⟨J, env, g, re, ?_⟩
  replace o : Out c X.K J H (ss env >>= fun ts => if ts.length ≤ sizeLine then .ok (.nd .lst true ts) else .bad) Q _ := o
  cases q : ss env with
  | bad => rw [q] at o; exact o
  | err x => rw [q] at o; exact o
  | ok ts =>
    rw [q] at o
    replace o : Out c X.K J H (if ts.length ≤ sizeLine then .ok (.nd .lst true ts) else .bad) Q _ := o
    intro vs J1 H1 F ex fr ros
    split at o
    · rename_i hz
      exact ⟨by rw [← ros.length]; exact hz, Post.lstO ex fr ros o⟩
    · exact o.elim
theorem s_sub (ok : CtxOk c C G W k X) (hp : plainX f = true) (ha : PE X e (tS c X.K W sa)) (hb : PE X f (tS c X.K W sb)) : PE X (.Subscript e f pos) (tS c X.K W fun env => do let x ← sa env; let y ← sb env; ixT x y) := by
  refine pe_of (pe_ix (ix_T (c := c) (by have := ok.hu; omega)) ha hb (plainIx hp)) fun σ H Q ⟨J, env, g, re, o⟩ => ?_
  refine tS_imp (out_two g re o) fun x H1 h1 => tS_imp h1 fun y H2 h2 => ?_
  obtain ⟨J2, a, b, g2, ra, rb, o2⟩ := h2
  obtain ⟨t, e1, p⟩ := out_get o2 (ixT_ne _ _)
  exact ⟨J2, a, b, t, g2, ra, rb, e1, p⟩
theorem s_dk0 : PE X (.Dict [] [] pos) (tS c X.K W fun _ => .ok (.nd (.dk []) true [])) := by
  refine pe_of pe_dnewK fun σ H Q ⟨J, env, g, re, o⟩ a h => ?_
  have ex : Ext J H J (upd H a (.dK [])) := Ext.newH g h fun xs z => by cases z
  refine o (.ref a) J _ [a] ex ⟨?_, ?_, ?_, ?_⟩ ?_
  · intro b m; rw [List.mem_singleton.mp m]; exact h
  · intro b m; rw [List.mem_singleton.mp m]; exact g.sub.free h
  · intro b m; rw [List.mem_singleton.mp m, upd_same]; exact fun z => by cases z
  · simp
  · simp only [RO, ROs]
    exact ⟨a, [], [], rfl, (show AtO c X.K (upd H a (.dK [])) a (.dk []) [] from ⟨upd_same, rfl⟩), g.sub.free h, rfl, rfl, rfl⟩
theorem s_dt0 : PE X (.Dict [] [] pos) (tS c X.K W fun _ => .ok (.nd (.dt []) true [])) := by
  refine pe_of pe_dnewT fun σ H Q ⟨J, env, g, re, o⟩ a h => ?_
  have ex : Ext J H J (upd H a (.dT [])) := Ext.newH g h fun xs z => by cases z
  refine o (.ref a) J _ [a] ex ⟨?_, ?_, ?_, ?_⟩ ?_
  · intro b m; rw [List.mem_singleton.mp m]; exact h
  · intro b m; rw [List.mem_singleton.mp m]; exact g.sub.free h
  · intro b m; rw [List.mem_singleton.mp m, upd_same]; exact fun z => by cases z
  · simp
  · simp only [RO, ROs]
    exact ⟨a, [], [], rfl, (show AtO c X.K (upd H a (.dT [])) a (.dt []) [] from ⟨upd_same, rfl⟩), g.sub.free h, rfl, rfl, rfl⟩
end
end Rb
/-! Slices, attributes, calls. -/
namespace Rb
open PySem
open PySem.Spec
open PyProof.Rows
open L2
section
variable {c : CA} {C : Calls} {G : Gc} {W : WX} {k : Nat} {X : Cx} {e f d : Expr} {sa sb sd : Env → R T} {pos : Pos}
/-- an end of a slice -/
def tSO (c : CA) (K : PySem.W.Frag) (W : WX) (so : Env → R (Option Int)) : TO := fun σ H Q => ∃ (J : Hp) (env : Env), Good J H ∧ RSenv c K J σ env ∧
  OutW (so env) (fun i => ∀ J' H', Ext J H J' H' → Q i H') (fun x => PostE c K J H x (fun cls d H' => W cls d σ H'))
theorem po_of {o : Option Expr} {t t' : TO} (h : PO X o t) (q : ∀ σ H Q, t' σ H Q → t σ H Q) : PO X o t' := ⟨fun pins s σ H Q I hw => h.run pins s σ H Q I (q σ H Q hw)⟩
theorem o_none : PO X none (tSO c X.K W fun _ => .ok none) := po_of po_none fun σ H Q ⟨J, env, g, re, o⟩ => o J H (.refl g)
theorem o_some (ha : PE X e (tS c X.K W sa)) : PO X (some e) (tSO c X.K W fun env => do let x ← sa env; let i ← intT x; .ok (some i)) := by
  refine po_of (po_some ha) fun σ H Q ⟨J, env, g, re, o⟩ => ⟨J, env, g, re, out_step (outW_bind o) fun a v J1 H1 ex ra o1 => ?_⟩
  obtain ⟨i, e1, o2⟩ := outW_get (outW_bind o1) (intT_ne _)
  unfold intT at e1
  split at e1
  · cases e1
    simp only [RS] at ra
    exact ⟨_, ra, o2 J1 H1 ex⟩
  · cases e1
theorem s_slc {lo hi : Option Expr} {p2 : Pos} {sl sh : Env → R (Option Int)} (ha : PE X e (tS c X.K W sa)) (hl : PO X lo (tSO c X.K W sl)) (hh : PO X hi (tSO c X.K W sh)) :
    PE X (.Subscript e (.Slice lo hi none p2) pos) (tS c X.K W fun env => do let x ← sa env; let l ← sl env; let h ← sh env; slT x l h) := by
  refine pe_of (pe_slice (sl_T (c := c)) ha hl hh) fun σ H Q ⟨J, env, g, re, o⟩ => ?_
  refine ⟨J, env, g, re, out_step (out_bind o) fun a v J1 H1 ex ra o1 => ?_⟩
  replace o1 : Out c X.K J H (sl env >>= fun l => sh env >>= fun h => slT a l h) Q _ := o1
  refine ⟨J1, env, ex.good, re.mono ex.jj, ?_⟩
  cases q : sl env with
  | bad => rw [q] at o1; exact o1
  | err x => rw [q] at o1; exact PostE.ext ex o1
  | ok l =>
    rw [q] at o1
    replace o1 : Out c X.K J H (sh env >>= fun h => slT a l h) Q _ := o1
    intro J2 H2 ex2
    refine ⟨J2, env, ex2.good, re.mono (ex.trans ex2).jj, ?_⟩
    cases q2 : sh env with
    | bad => rw [q2] at o1; exact o1
    | err x => rw [q2] at o1; exact PostE.ext (ex.trans ex2) o1
    | ok h =>
      rw [q2] at o1
      replace o1 : Out c X.K J H (slT a l h) Q _ := o1
      intro J3 H3 ex3
      obtain ⟨t, e1, p⟩ := out_get o1 (slT_ne _ _ _)
      exact ⟨J3, a, t, ex3.good, RS.mono (ex2.trans ex3).jj _ _ ra, e1, Post.ext (ex.trans (ex2.trans ex3)) p⟩
/-! attributes -/
theorem s_att (ok : CtxOk c C G W k X) {fn : String} (hp : plainX e = true) (ha : PE X e (tS c X.K W sa)) : PE X (.Attribute e (Str.ofString fn) pos) (tS c X.K W fun env => do let x ← sa env; attT C fn x) := by
  have fld := pe_fld (f := Str.ofString fn) (pos := pos) ha (attrBase hp)
  refine ⟨fun pins s σ H Q I hw => ?_⟩
  obtain ⟨J, env, g, re, o⟩ := hw
  replace o : Out c X.K J H (sa env >>= attT C fn) Q (fun cls d H' => W cls d σ H') := o
  have fail : (∀ t, sa env ≠ .ok t) → wpAny (model X.prog X.w) X.A (eval (.Attribute e (Str.ofString fn) pos) X.env) (EP X pins σ Q) X.xe s := fun hn => by
    refine fld.run pins s σ H Q I ⟨J, env, g, re, ?_⟩
    cases q : sa env with
    | bad => rw [q] at o; exact o
    | err x => rw [q] at o; exact o
    | ok t => exact absurd q (hn t)
  cases q : sa env with
  | bad => rw [q] at o; exact o.elim
  | err x => exact fail (fun t z => by rw [q] at z; cases z)
  | ok t =>
    rw [q] at o
    replace o : Out c X.K J H (attT C fn t) Q (fun cls d H' => W cls d σ H') := o
    unfold attT at o
    split at o
    · rename_i cn fs ow xs
      split at o
      · rename_i t' ht
        split at o
        · rename_i hf
          refine fld.run pins s σ H Q I ⟨J, env, g, re, out_step (S := fun a => a = .nd (.obj cn fs) ow xs) (by rw [q]; exact rfl) fun a v J1 H1 ex ra ea => ?_⟩
          subst ea
          simp only [RS, At] at ra
          obtain ⟨p, vs, rfl, ⟨Ca, dx, c1, j1, l1⟩, q1⟩ := ra
          obtain ⟨n1, n2⟩ := ok.prog.fld cn fn hf Ca c1
          have lk := getK_obj (K := X.K) (J := J1) fn q1 l1
          rw [ht] at lk
          obtain ⟨v, lk, rv⟩ := lk
          exact ⟨p, Ca, dx, _, v, rfl, ex.good.sub _ _ j1, n1, n2, lk, Post.same ex.good rv (Post.ext ex o)⟩
        · exact o.elim
      · rename_i ht
        cases q2 : C.pr cn fn (.nd (.obj cn fs) false (strips xs)) with
        | bad => rw [q2] at o; exact o.elim
        | err x => rw [q2] at o; exact o.elim
        | ok t2 =>
          rw [q2] at o
          obtain ⟨Ca, p, g', fd, ps, c1, cl, hp2, hb, F⟩ := ok.prog.pr cn fn _ (by rw [q2]; exact fun z => by cases z)
          refine (pe_prop ha cl hp2 F ok.room hb .nil (E := E0) passL (attrBase hp)).run pins s σ H Q I ⟨J, env, g, re, out_step (S := fun a => a = .nd (.obj cn fs) ow xs) (by rw [q]; exact rfl) fun a v J1 H1 ex ra ea => ?_⟩
          subst ea
          have ra2 := ra
          simp only [RS, At] at ra2
          obtain ⟨b, vs, rfl, ⟨Ca2, dx, c2, j1, l1⟩, q1⟩ := ra2
          rw [c1] at c2
          cases c2
          refine ⟨b, dx, _, rfl, ex.good.sub _ _ j1, J1, [.nd (.obj cn fs) false (strips xs)], ex.good, ?_, ?_⟩
          · simp only [RSs]
            exact ⟨_, _, rfl, (RS_strip (.nd (.obj cn fs) ow xs) _).mpr ra, rfl⟩
          · show Out c X.K J1 H1 (C.pr cn fn (.nd (.obj cn fs) false (strips xs))) Q E0
            rw [q2]
            exact Post.ext ex o
    · exact o.elim
/-! calls -/
theorem strips_rs {K : PySem.W.Frag} {J : Hp} {ts : List T} {vs : List V} (r : RSs c K J ts vs) : RSs c K J (strips ts) vs := (RSs_strips ts vs).mpr r
theorem call_U (ok : CtxOk c C G W k X) {fa : Addr} {fd : FuncData} {ps : List Str} {sem : List T → R T} (hb : Binds X.K fd ps []) (F : FnOk X.prog X.w X.K X.mg X.base (L2.CX X.prog X.w) k fa fd ps (spT c X.K sem)) :
    CallU X (.ref fa) (fun σ vs H Q => spT c X.K sem vs H Q (fun cls d H' => W cls d σ H')) := fun pins s σ H us vs Q I r h =>
  run_fnU F (ok.room.mono (by omega)) hb I r (fun e s' z => ok.takes I z) h
theorem make_U (ok : CtxOk c C G W k X) {Ca fa : Addr} {fd : FuncData} {ps : List Str} {sem : List T → R T} (M : Mk X.K Ca fa) (hb : Binds X.K fd ps []) (F : FnOk X.prog X.w X.K X.mg X.base (L2.CX X.prog X.w) k fa fd ps (spI c X.K Ca sem)) :
    CallU X (.ref Ca) (fun σ vs H Q => spT c X.K sem vs H Q (fun cls d H' => W cls d σ H')) := fun pins s σ H us vs Q I r h => by
  obtain ⟨J, ts, g, rs, o⟩ := h
  refine run_makeU (E := fun cls d H' => W cls d σ H') M F ok.room hb I r (fun H' s1 e s' I2 z => ok.takes I2 z) fun x dx hx hdx hne => ?_
  refine ⟨J, H, x, dx, vs, ts, rfl, rfl, hx, hdx, hne, g, rs, ?_⟩
  cases q : sem ts with
  | bad => rw [q] at o; exact o
  | err y => rw [q] at o; exact o
  | ok t =>
    rw [q] at o
    intro v J' H' F' ex fr ro ev
    subst ev
    exact ⟨rfl, o _ J' H' F' ex fr ro⟩
/-- the written arguments, then the callee -/
theorem args_red {K : PySem.W.Frag} {J H : Hp} {σ : L2.St} {env : Env} {ss : Env → R (List T)} {sem : List T → R T} {Q : VK} (g : Good J H) (re : RSenv c K J σ env) (o : Out c K J H (do let ts ← ss env; sem (strips ts)) Q (fun cls d H' => W cls d σ H')) :
    tSL c K W ss σ H fun vs H1 => spT c K sem vs H1 Q (fun cls d H' => W cls d σ H') := by
  refine ⟨J, env, g, re, ?_⟩
  replace o : Out c K J H (ss env >>= fun ts => sem (strips ts)) Q _ := o
  cases q : ss env with
  | bad => rw [q] at o; exact o
  | err x => rw [q] at o; exact o
  | ok ts =>
    rw [q] at o
    intro vs J1 H1 F ex fr ros
    have ex2 := ex.frz fr
    exact ⟨_, strips ts, ex2.good, strips_rs (ROs.rs (same_frz fr.out) ts vs F (fun a m => frz_in m) ros), Out.ext ex2 o⟩
theorem s_callA {es : List Expr} {fa : Addr} {x : Str} {p : Pos} {ss : Env → R (List T)} {sem : List T → R T} (hc : CallU X (.ref fa) (fun σ vs H Q => spT c X.K sem vs H Q (fun cls d H' => W cls d σ H'))) (hg : Gl X x) (hm : X.mg x = some (.ref fa)) (hk : PySem.W.keepIn X.K (.ref fa) = true)
    (hdb : (x == ("__debug__" : Str)) = false) (hp : es.all plainX = true) (hs : PA X es (tSL c X.K W ss)) (h0 : es = [] → ss = fun _ => .ok []) :
    PE X (.Call (.Name x p) es [] pos) (tS c X.K W fun env => do let ts ← ss env; sem (strips ts)) := by
  cases es with
  | nil =>
    rw [h0 rfl]
    refine pe_of (pe_callU0 hc hg hm hk hdb) fun σ H Q ⟨J, env, g, re, o⟩ => ?_
    exact ⟨J, [], g, by simp only [RSs], o⟩
  | cons e es =>
    exact pe_of (pe_callU hc hg hm hk hs hdb hp) fun σ H Q ⟨J, env, g, re, o⟩ => args_red g re o
theorem s_call (ok : CtxOk c C G W k X) {es : List Expr} {fn : String} {p : Pos} {ss : Env → R (List T)} (hg : G.gl (Str.ofString fn) = true) (hd : nodbg (Str.ofString fn) = true) (hf : G.fns.contains fn = true) (hp : es.all plainX = true) (hs : PA X es (tSL c X.K W ss)) (h0 : es = [] → ss = fun _ => .ok []) :
    PE X (.Call (.Name (Str.ofString fn) p) es [] pos) (tS c X.K W fun env => do let ts ← ss env; C.fn fn (strips ts)) := by
  obtain ⟨fa, fd, ps, hm, kp, hb, F⟩ := ok.prog.fn fn hf
  exact s_callA (call_U ok hb F) (gl_of ok hg) hm kp (nodbg_of hd).1 hp hs h0
theorem s_new (ok : CtxOk c C G W k X) {es : List Expr} {fn : String} {p : Pos} {ss : Env → R (List T)} (hg : G.gl (Str.ofString fn) = true) (hd : nodbg (Str.ofString fn) = true) (hf : G.cls.contains fn = true) (hp : es.all plainX = true) (hs : PA X es (tSL c X.K W ss)) (h0 : es = [] → ss = fun _ => .ok []) :
    PE X (.Call (.Name (Str.ofString fn) p) es [] pos) (tS c X.K W fun env => do let ts ← ss env; C.nw fn (strips ts)) := by
  obtain ⟨Ca, fa, fd, ps, c1, hm, M, hb, F⟩ := ok.prog.nw fn hf
  exact s_callA (make_U ok M hb F) (gl_of ok hg) hm M.kp (nodbg_of hd).1 hp hs h0
theorem lookup_none_map {m : String} : ∀ {fs : List String} {vs : List V}, fs.contains m = false → ((fs.map Str.ofString).zip vs).lookup (Str.ofString m) = none
  | [], _, _ => rfl
  | g :: fs, [], _ => rfl
  | g :: fs, v :: vs, h => by
    rw [List.contains_cons, Bool.or_eq_false_iff] at h
    rw [List.map_cons, List.zip_cons_cons, List.lookup_cons]
    have hn : (Str.ofString m == Str.ofString g) = false := by
      rw [beq_eq_false_iff_ne]
      exact fun z => beq_eq_false_iff_ne.mp h.1 (ofString_inj z)
    rw [hn]
    exact lookup_none_map h.2
theorem clsT_ne (m : String) (a : T) (x : Exn) : clsT C m a ≠ .err x := by
  unfold clsT
  split
  · split <;> exact fun z => by cases z
  · exact fun z => by cases z
theorem s_mth (ok : CtxOk c C G W k X) {es : List Expr} {m : String} {apos : Pos} {ss : Env → R (List T)} (hl : (apos.endLine == pos.line) = true) (hn : es.length < 30) (hpo : plainX e = true) (hp : es.all plainX = true) (ha : PE X e (tS c X.K W sa)) (hs : PA X es (tSL c X.K W ss)) (h0 : es = [] → ss = fun _ => .ok []) :
    PE X (.Call (.Attribute e (Str.ofString m) apos) es [] pos) (tS c X.K W fun env => do let x ← sa env; let cn ← clsT C m x; let ts ← ss env; C.me cn m (strip x :: strips ts)) := by
  refine ⟨fun pins s σ H Q I hw => ?_⟩
  obtain ⟨J, env, g, re, o⟩ := hw
  replace o : Out c X.K J H (sa env >>= fun x => clsT C m x >>= fun cn => ss env >>= fun ts => C.me cn m (strip x :: strips ts)) Q (fun cls d H' => W cls d σ H') := o
  cases q : sa env with
  | bad => rw [q] at o; exact o.elim
  | err x =>
    rw [q] at o
    refine PySem.W.methodCall_KW (pl := plainOf e X.env) (thn (ha.run pins s σ H (fun _ _ => False) I ⟨J, env, g, re, ?_⟩) fun u s1 ⟨_, _, _, _, z⟩ => z.elim) (meth_form hpo hp hn hl)
    show Out c X.K J H (sa env) _ _
    rw [q]
    exact o
  | ok t =>
    rw [q] at o
    replace o : Out c X.K J H (clsT C m t >>= fun cn => ss env >>= fun ts => C.me cn m (strip t :: strips ts)) Q (fun cls d H' => W cls d σ H') := o
    obtain ⟨cn, e1, o1⟩ := outW_get (out_bind o) (clsT_ne _ _)
    unfold clsT at e1
    split at e1
    · rename_i cn2 fs ow xs
      split at e1
      · rename_i hz
        cases e1
        rw [Bool.and_eq_true, Bool.not_eq_true'] at hz
        obtain ⟨Ca, fa, fd, ps, c1, cl, hm, hb, F⟩ := ok.prog.me cn m hz.1
        have hU := call_U ok hb F
        have red : tS c X.K W sa σ H fun x H1 => ∃ a dx fs2, x = .ref a ∧ H1 a = some (.ins Ca dx fs2) ∧ fs2.lookup (Str.ofString m) = none ∧ ∃ J1, Good J1 H1 ∧ RSenv c X.K J1 σ env ∧ RS c X.K J1 (.nd (.obj cn fs) ow xs) x ∧ Ext J H J1 H1 := by
          refine ⟨J, env, g, re, out_step (S := fun a => a = .nd (.obj cn fs) ow xs) (by rw [q]; exact rfl) fun a v J1 H1 ex ra ea => ?_⟩
          subst ea
          have ra2 := ra
          simp only [RS, At] at ra2
          obtain ⟨b, vs, rfl, ⟨Ca2, dx, c2, j1, l1⟩, q1⟩ := ra2
          rw [c1] at c2
          cases c2
          exact ⟨b, dx, _, rfl, ex.good.sub _ _ j1, lookup_none_map hz.2, J1, ex.good, re.mono ex.jj, ra, ex⟩
        cases es with
        | nil =>
          rw [h0 rfl] at o1
          refine (pe_methU0 hpo ha cl hm hU hl).run pins s σ H Q I (tS_imp red fun x H1 h1 => ?_)
          obtain ⟨a, dx, fs2, e1, e2, e3, J1, g1, re1, rx, ex⟩ := h1
          refine ⟨a, dx, fs2, e1, e2, e3, J1, [strip (.nd (.obj cn fs) ow xs)], g1, ?_, Out.ext ex o1⟩
          simp only [RSs]
          exact ⟨_, _, rfl, (RS_strip _ _).mpr rx, rfl⟩
        | cons e2 es =>
          refine (pe_methU hpo ha cl hm hU hs hp hn hl).run pins s σ H Q I (tS_imp red fun x H1 h1 => ?_)
          obtain ⟨a, dx, fs2, e1, e2, e3, J1, g1, re1, rx, ex⟩ := h1
          refine ⟨a, dx, fs2, e1, e2, e3, J1, env, g1, re1, ?_⟩
          replace o1 : Out c X.K J H (ss env >>= fun ts => C.me cn m (strip (.nd (.obj cn fs) ow xs) :: strips ts)) Q (fun cls d H' => W cls d σ H') := o1
          cases q2 : ss env with
          | bad => rw [q2] at o1; exact o1
          | err y => rw [q2] at o1; exact PostE.ext ex o1
          | ok ts =>
            rw [q2] at o1
            intro vs J2 H2 F2 ex2 fr ros
            have ex3 := ex2.frz fr
            refine ⟨_, strip (.nd (.obj cn fs) ow xs) :: strips ts, ex3.good, ?_, Out.ext (ex.trans ex3) o1⟩
            simp only [RSs]
            exact ⟨_, _, rfl, (RS_strip _ _).mpr (RS.mono ex3.jj _ _ rx), strips_rs (ROs.rs (same_frz fr.out) ts vs F2 (fun a m => frz_in m) ros)⟩
      · cases e1
    · cases e1
end
end Rb
/-! Built-in functions; comprehensions. -/
namespace Rb
open PySem
open PySem.Spec
open PyProof.Rows
open L2
section
variable {c : CA} {C : Calls} {G : Gc} {W : WX} {k : Nat} {X : Cx} {e f d : Expr} {sa sb sd : Env → R T} {pos : Pos}
theorem r1_red {K : PySem.W.Frag} {J H : Hp} {σ : L2.St} {env : Env} {fn : T → R T} {Q : VK} (hne : ∀ a x, fn a ≠ .err x) (g : Good J H) (re : RSenv c K J σ env) (o : Out c K J H (do let x ← sa env; fn x) Q (fun cls d H' => W cls d σ H')) :
    tCB (r1T c K fn) (tCons (tS c K W sa) tNil) σ H Q := by
  refine tS_imp (out_one g re o) fun x H1 h1 => ?_
  obtain ⟨J1, a, g1, ra, _, _, o1⟩ := h1
  obtain ⟨t, e1, p⟩ := out_get o1 (hne a)
  exact ⟨J1, a, t, x, rfl, g1, ra, e1, p⟩
theorem s_b1 (ok : CtxOk c C G W k X) {b : B1} {p : Pos} (hg : G.gl (Str.ofString b.name) = true) (hp : plainX e = true) (ha : PE X e (tS c X.K W sa)) :
    PE X (.Call (.Name (Str.ofString b.name) p) [e] [] pos) (tS c X.K W fun env => do let x ← sa env; b1T b x) := by
  have hs : starEach [e] X.env = (false, eval e X.env) :: starEach [] X.env := starEach_cons hp
  have pa := pa_cons ha pa_nil hs
  have gg := gl_of ok hg
  have hm : X.mg (Str.ofString b.name) = none := ok.prog.blt b.name (by cases b <;> decide)
  cases b with
  | len => exact pe_of (pe_callB (cr_len (c := c)) gg hm (by decide +kernel) pa (by decide) (by decide) hs rfl) fun σ H Q ⟨J, env, g, re, o⟩ => r1_red (b1T_ne _) g re o
  | int => exact pe_of (pe_callTy (cr_int (c := c)) gg hm (by decide +kernel) pa (by decide) (by decide) hs rfl) fun σ H Q ⟨J, env, g, re, o⟩ => r1_red (b1T_ne _) g re o
  | abs => exact pe_of (pe_callB (cr_abs (c := c)) gg hm (by decide +kernel) pa (by decide) (by decide) hs rfl) fun σ H Q ⟨J, env, g, re, o⟩ => r1_red (b1T_ne _) g re o
  | list => exact pe_of (pe_callTy (cr_listT (c := c)) gg hm (by decide +kernel) pa (by decide) (by decide) hs rfl) fun σ H Q ⟨J, env, g, re, o⟩ => r1_red (b1T_ne _) g re o
  | dict => exact pe_of (pe_callTy (cr_dictT (c := c)) gg hm (by decide +kernel) pa (by decide) (by decide) hs rfl) fun σ H Q ⟨J, env, g, re, o⟩ => r1_red (b1T_ne _) g re o
  | all => exact pe_of (pe_callB (cr_allT (c := c) ok.calm) gg hm (by decide +kernel) pa (by decide) (by decide) hs rfl) fun σ H Q ⟨J, env, g, re, o⟩ => r1_red (b1T_ne _) g re o
  | any => exact pe_of (pe_callB (cr_anyT (c := c) ok.calm) gg hm (by decide +kernel) pa (by decide) (by decide) hs rfl) fun σ H Q ⟨J, env, g, re, o⟩ => r1_red (b1T_ne _) g re o
  | sum => exact pe_of (pe_callB (cr_sumT (c := c) ok.calm) gg hm (by decide +kernel) pa (by decide) (by decide) hs rfl) fun σ H Q ⟨J, env, g, re, o⟩ => r1_red (b1T_ne _) g re o
  | str => exact pe_of (pe_callTy (cr_strT (c := c)) gg hm (by decide +kernel) pa (by decide) (by decide) hs rfl) fun σ H Q ⟨J, env, g, re, o⟩ => r1_red (b1T_ne _) g re o
  | max => exact pe_of (pe_callB (cr_maxT (c := c) ok.calm) gg hm (by decide +kernel) pa (by decide) (by decide) hs rfl) fun σ H Q ⟨J, env, g, re, o⟩ => r1_red (b1T_ne _) g re o
  | min => exact pe_of (pe_callB (cr_minT (c := c) ok.calm) gg hm (by decide +kernel) pa (by decide) (by decide) hs rfl) fun σ H Q ⟨J, env, g, re, o⟩ => r1_red (b1T_ne _) g re o
theorem s_b2 (ok : CtxOk c C G W k X) {mx : Bool} {p : Pos} (hg : G.gl (Str.ofString (if mx then "max" else "min")) = true) (hp : plainX e = true) (hp2 : plainX f = true) (ha : PE X e (tS c X.K W sa)) (hb : PE X f (tS c X.K W sb)) :
    PE X (.Call (.Name (Str.ofString (if mx then "max" else "min")) p) [e, f] [] pos) (tS c X.K W fun env => do let x ← sa env; let y ← sb env; b2T mx x y) := by
  have hs2 : starEach [f] X.env = (false, eval f X.env) :: starEach [] X.env := starEach_cons hp2
  have hs : starEach [e, f] X.env = (false, eval e X.env) :: starEach [f] X.env := starEach_cons hp
  have pa := pa_cons ha (pa_cons hb pa_nil hs2) hs
  have gg := gl_of ok hg
  have hm : X.mg (Str.ofString (if mx then "max" else "min")) = none := ok.prog.blt _ (by cases mx <;> decide)
  have hany : (backTo pos (starEach [f] X.env)).any (·.1) = false := starEach_any (by simp [hp2])
  have red : ∀ {r : List V → Hp → VK → Prop} (h : ∀ (i j : Int) (H : Hp) (Q : VK), Q (.int (if mx then (if j > i then j else i) else (if j < i then j else i))) H → r [.int i, .int j] H Q) σ H Q, tS c X.K W (fun env => do let x ← sa env; let y ← sb env; b2T mx x y) σ H Q → tCB r (tCons (tS c X.K W sa) (tCons (tS c X.K W sb) tNil)) σ H Q := by
    intro r h σ H Q ⟨J, env, g, re, o⟩
    refine tS_imp (out_two g re o) fun x H1 h1 => tS_imp h1 fun y H2 h2 => ?_
    obtain ⟨J2, a, b, g2, ra, rb, o2⟩ := h2
    obtain ⟨t, e1, p⟩ := out_get o2 (b2T_ne _ _ _)
    unfold b2T at e1
    split at e1
    · cases e1
      simp only [RS] at ra rb
      subst ra rb
      exact h _ _ _ _ (Post.int g2 p)
    · cases e1
  cases mx with
  | true => exact pe_of (pe_callB (call_max2 ok.calm) gg hm (by decide +kernel) pa (by decide) (by decide) hs hany) (red fun i j H Q q => ⟨i, j, rfl, q⟩)
  | false => exact pe_of (pe_callB (call_min2 ok.calm) gg hm (by decide +kernel) pa (by decide) (by decide) hs hany) (red fun i j H Q q => ⟨i, j, rfl, q⟩)
/-! isinstance -/
def isiTys : List String := ["bool", "int", "str", "list", "tuple", "dict"]
theorem kitB_all : (["NoneType", "bool", "int", "str", "list", "tuple", "dict"].all fun a => isiTys.all fun b => kitB a b == some (a == b || (a == "bool" && b == "int"))) = true := by decide +kernel
theorem kit_any {a b : String} (ha : a ∈ ["NoneType", "bool", "int", "str", "list", "tuple", "dict"]) (hb : isiTys.contains b = true) {K : PySem.W.Frag} : PySem.W.kitOne K (.type a) (.type b) = some (a == b || (a == "bool" && b == "int")) := by
  have h := List.all_eq_true.mp kitB_all a ha
  have h2 := List.all_eq_true.mp h b (List.contains_iff_mem.mp hb)
  exact kit_ty (eq_of_beq h2)
theorem bltV (ty : String) (h : isiTys.contains ty = true) : bootBuiltins (Str.ofString ty) = some (.type ty) := by
  have hm := List.contains_iff_mem.mp h
  simp only [isiTys, List.mem_cons, List.not_mem_nil, or_false] at hm
  rcases hm with rfl | rfl | rfl | rfl | rfl | rfl <;> decide +kernel
theorem ty_of {K : PySem.W.Frag} {J H : Hp} (g : Good J H) {a : T} {x : V} {ty : String} {t : T} (ra : RS c K J a x) (e : isiT a ty = .ok t) (h : isiTys.contains ty = true) :
    ∃ n b, TyX K H x (.type n) ∧ PySem.W.kitOne K (.type n) (.type ty) = some b ∧ t = .bl b := by
  have hm := List.contains_iff_mem.mp h
  unfold isiT at e
  split at e
  · cases e; simp only [RS] at ra; subst ra
    refine ⟨"NoneType", _, .base .non, kit_any (by decide) h, ?_⟩
    simp only [isiTys, List.mem_cons, List.not_mem_nil, or_false] at hm
    rcases hm with rfl | rfl | rfl | rfl | rfl | rfl <;> rfl
  · simp only [RS] at ra; subst ra
    refine ⟨"bool", _, .base (.bl _), kit_any (by decide) h, ?_⟩
    simp only [isiTys, List.mem_cons, List.not_mem_nil, or_false] at hm
    rcases hm with rfl | rfl | rfl | rfl | rfl | rfl <;> simp at e <;> subst e <;> rfl
  · cases e; simp only [RS] at ra; subst ra
    refine ⟨"int", _, .base (.int _), kit_any (by decide) h, ?_⟩
    simp only [isiTys, List.mem_cons, List.not_mem_nil, or_false] at hm
    rcases hm with rfl | rfl | rfl | rfl | rfl | rfl <;> rfl
  · cases e; simp only [RS] at ra; obtain ⟨rfl, _⟩ := ra
    refine ⟨"str", _, .base (.str _), kit_any (by decide) h, ?_⟩
    simp only [isiTys, List.mem_cons, List.not_mem_nil, or_false] at hm
    rcases hm with rfl | rfl | rfl | rfl | rfl | rfl <;> rfl
  · cases e
    obtain ⟨p, vs, rfl, j1, h1, q1⟩ := rs_lst g ra
    refine ⟨"list", _, .base (.lst h1), kit_any (by decide) h, ?_⟩
    simp only [isiTys, List.mem_cons, List.not_mem_nil, or_false] at hm
    rcases hm with rfl | rfl | rfl | rfl | rfl | rfl <;> rfl
  · cases e
    obtain ⟨p, vs, rfl, j1, h1, q1⟩ := rs_tup g ra
    refine ⟨"tuple", _, .base (.tup h1), kit_any (by decide) h, ?_⟩
    simp only [isiTys, List.mem_cons, List.not_mem_nil, or_false] at hm
    rcases hm with rfl | rfl | rfl | rfl | rfl | rfl <;> rfl
  · cases e
    obtain ⟨p, vs, rfl, j1, h1, l1, q1⟩ := rs_dk g ra
    refine ⟨"dict", _, .base (.dK h1), kit_any (by decide) h, ?_⟩
    simp only [isiTys, List.mem_cons, List.not_mem_nil, or_false] at hm
    rcases hm with rfl | rfl | rfl | rfl | rfl | rfl <;> rfl
  · cases e
    obtain ⟨p, vs, rfl, j1, h1, l1, q1⟩ := rs_dt g ra
    refine ⟨"dict", _, .base (.dT h1), kit_any (by decide) h, ?_⟩
    simp only [isiTys, List.mem_cons, List.not_mem_nil, or_false] at hm
    rcases hm with rfl | rfl | rfl | rfl | rfl | rfl <;> rfl
  · cases e
theorem s_isi (ok : CtxOk c C G W k X) {ty : String} {p p2 : Pos} (hg : G.gl "isinstance" = true) (hg2 : G.gl (Str.ofString ty) = true) (ht : isiTys.contains ty = true) (hp : plainX e = true) (ha : PE X e (tS c X.K W sa)) :
    PE X (.Call (.Name "isinstance" p) [e, .Name (Str.ofString ty) p2] [] pos) (tS c X.K W fun env => do let x ← sa env; isiT x ty) := by
  have hm := List.contains_iff_mem.mp ht
  have hin : ty ∈ bltNames ∧ (Str.ofString ty) ≠ "__name__" ∧ ((Str.ofString ty) == ("__debug__" : Str)) = false := by
    simp only [isiTys, List.mem_cons, List.not_mem_nil, or_false] at hm
    rcases hm with rfl | rfl | rfl | rfl | rfl | rfl <;> decide +kernel
  have pty : PE X (.Name (Str.ofString ty) p2) (tC (.ty ty)) := pe_bltn (gl_of ok hg2) (ok.prog.blt ty hin.1) (bltV ty ht) rfl hin.2.1 hin.2.2
  have hs2 : starEach [Expr.Name (Str.ofString ty) p2] X.env = (false, eval (.Name (Str.ofString ty) p2) X.env) :: starEach [] X.env := rfl
  have hs : starEach [e, .Name (Str.ofString ty) p2] X.env = (false, eval e X.env) :: starEach [.Name (Str.ofString ty) p2] X.env := starEach_cons hp
  refine pe_of (pe_callB call_isi (gl_of ok hg) (ok.prog.blt "isinstance" (by decide)) (by decide +kernel) (pa_cons ha (pa_cons pty pa_nil hs2) hs) (by decide) (by decide) hs rfl) fun σ H Q ⟨J, env, g, re, o⟩ => ?_
  refine tS_imp (out_one g re o) fun x H1 h1 => ?_
  obtain ⟨J1, a, g1, ra, _, _, o1⟩ := h1
  obtain ⟨t, e1, p⟩ := out_get o1 (isiT_ne _ _)
  obtain ⟨n, b, ty1, kt, rfl⟩ := ty_of g1 ra e1 ht
  exact ⟨x, .ty ty, .type n, .type ty, b, rfl, .ty ty, ty1, kt, Post.bl g1 p⟩
/-! and, or -/
theorem tSB_imp {K : PySem.W.Frag} {s : Env → R Bool} {σ : L2.St} {H : Hp} {Q Q' : Bool → Hp → Prop} (h : tSB c K W s σ H Q) (q : ∀ v H1, Q v H1 → Q' v H1) : tSB c K W s σ H Q' := by
  obtain ⟨J, env, g, re, o⟩ := h
  refine ⟨J, env, g, re, ?_⟩
  cases e : s env with
  | ok t => rw [e] at o; exact fun J' H' ex => q _ _ (o J' H' ex)
  | err x => rw [e] at o; exact o
  | bad => rw [e] at o; exact o
theorem b_one {op : BoolOp} (ha : PE X e (tS c X.K W sa)) : PE X (.BoolOp op [e] pos) (tS c X.K W sa) := pe_one ha
def semB (op : BoolOp) (sa sb : Env → R T) (env : Env) : R T := do
  let x ← sa env
  let b ← truth x
  boPick op b (.ok x) (sb env)
theorem b_cons {op : BoolOp} {es : List Expr} (ha : PE X e (tS c X.K W sa)) (hb : PE X (.BoolOp op (f :: es) pos) (tS c X.K W sb)) : PE X (.BoolOp op (e :: f :: es) pos) (tS c X.K W (semB op sa sb)) := by
  have key : ∀ σ H Q, tS c X.K W (semB op sa sb) σ H Q → tS c X.K W sa σ H fun x H1 => ∃ b, TruV X.K x H1 b ∧ boPick op b (Q x H1) (tS c X.K W sb σ H1 Q) := by
    intro σ H Q ⟨J, env, g, re, o⟩
    refine ⟨J, env, g, re, ?_⟩
    replace o : Out c X.K J H (sa env >>= fun x => truth x >>= fun b => boPick op b (.ok x) (sb env)) Q (fun cls d H' => W cls d σ H') := o
    cases q : sa env with
    | bad => rw [q] at o; exact o
    | err x => rw [q] at o; exact o
    | ok t =>
      rw [q] at o
      replace o : Out c X.K J H (truth t >>= fun b => boPick op b (.ok t) (sb env)) Q (fun cls d H' => W cls d σ H') := o
      obtain ⟨b, e1, o1⟩ := outW_get (out_bind o) (truth_ne _)
      intro v J1 H1 F ex fr ro
      have ex2 := ex.frz fr
      refine ⟨b, tru_T ex2.good (RO.rs (same_frz fr.out) t v F (fun a m => frz_in m) ro) e1, ?_⟩
      cases op with
      | And =>
        cases b with
        | true => exact ⟨J1, env, ex.good, re.mono ex.jj, Out.ext ex o1⟩
        | false => exact o1 v J1 H1 F ex fr ro
      | Or =>
        cases b with
        | true => exact o1 v J1 H1 F ex fr ro
        | false => exact ⟨J1, env, ex.good, re.mono ex.jj, Out.ext ex o1⟩
  cases op with
  | And => exact pe_of (pe_andT ha hb) fun σ H Q h => key σ H Q h
  | Or => exact pe_of (pe_orT ha hb) fun σ H Q h => key σ H Q h
theorem bt_cons {op : BoolOp} {es : List Expr} (ha : PT X e (tSB c X.K W fun env => do let x ← sa env; truth x)) (hb : PW X (.BoolOp op (f :: es) pos) (tSB c X.K W fun env => do let x ← sb env; truth x)) :
    PW X (.BoolOp op (e :: f :: es) pos) (tSB c X.K W fun env => do let x ← semB op sa sb env; truth x) := by
  have key : ∀ σ H Q, tSB c X.K W (fun env => do let x ← semB op sa sb env; truth x) σ H Q → tSB c X.K W (fun env => do let x ← sa env; truth x) σ H fun b H1 => boPick op b (Q b H1) (tSB c X.K W (fun env => do let x ← sb env; truth x) σ H1 Q) := by
    intro σ H Q ⟨J, env, g, re, o⟩
    refine ⟨J, env, g, re, ?_⟩
    replace o : OutW ((sa env >>= fun x => truth x >>= fun b => boPick op b (.ok x) (sb env)) >>= truth) _ _ := o
    show OutW (sa env >>= truth) _ _
    cases q : sa env with
    | bad => rw [q] at o; exact o
    | err x => rw [q] at o; exact o
    | ok t =>
      rw [q] at o
      replace o : OutW ((truth t >>= fun b => boPick op b (.ok t) (sb env)) >>= truth) _ _ := o
      show OutW (truth t) _ _
      cases q2 : truth t with
      | bad => rw [q2] at o; exact o.elim
      | err x => exact absurd q2 (truth_ne _ _)
      | ok b =>
        rw [q2] at o
        have tail : OutW (sb env >>= truth) (fun b => ∀ J' H', Ext J H J' H' → Q b H') (fun x => PostE c X.K J H x (fun cls d H' => W cls d σ H')) → ∀ J1 H1, Ext J H J1 H1 → tSB c X.K W (fun env => do let x ← sb env; truth x) σ H1 Q := by
          intro o2 J1 H1 ex
          refine ⟨J1, env, ex.good, re.mono ex.jj, ?_⟩
          show OutW (sb env >>= truth) _ _
          cases q3 : (sb env >>= truth) with
          | bad => rw [q3] at o2; exact o2
          | err x => rw [q3] at o2; exact PostE.ext ex o2
          | ok b2 => rw [q3] at o2; exact fun J2 H2 ex2 => o2 J2 H2 (ex.trans ex2)
        intro J1 H1 ex
        cases op with
        | And =>
          cases b with
          | true => exact tail o J1 H1 ex
          | false =>
            replace o : OutW (truth t) _ _ := o
            rw [q2] at o
            exact o J1 H1 ex
        | Or =>
          cases b with
          | true =>
            replace o : OutW (truth t) _ _ := o
            rw [q2] at o
            exact o J1 H1 ex
          | false => exact tail o J1 H1 ex
  cases op with
  | And =>
    refine pw_of (pw_and ha hb) fun σ H Q h => tSB_imp (key σ H Q h) fun b H1 z => ?_
    cases b <;> exact z
  | Or =>
    refine pw_of (pw_or ha hb) fun σ H Q h => tSB_imp (key σ H Q h) fun b H1 z => ?_
    cases b <;> exact z
theorem bt_one {op : BoolOp} (ha : PT X e (tSB c X.K W fun env => do let x ← sa env; truth x)) : PW X (.BoolOp op [e] pos) (tSB c X.K W fun env => do let x ← sa env; truth x) := by
  cases op with
  | And => exact pw_and1 ha
  | Or => exact pw_or1 ha
end
end Rb
/-! A set made of a list of distinct texts: how many it holds. -/
namespace Rb
open PySem
open PySem.Spec
open PyProof.Rows
open L2
section
variable {prog : Program} {w : World} {A : Around} {R : Result → Shared → Prop} {it : Addr} {fp wr : List Addr} {Gs : Array GenState → Array GenState → Prop} {n : Nat} {Pv : Nat → Value → Prop} {Sv : Nat → Shared → Prop}
abbrev inTk (zs : List Str) (i : Nat) : Str → Bool := fun q => decide (q ∈ zs.take i)
theorem inTk_succ {zs : List Str} {i : Nat} (hi : i < zs.length) (q : Str) : (inTk zs i q || decide (q = zs.getD i Str.empty)) = inTk zs (i + 1) q := by
  have e : zs.getD i Str.empty = zs[i] := by rw [List.getD_eq_getElem?_getD, List.getElem?_eq_getElem hi]; rfl
  have e2 : zs.take (i + 1) = zs.take i ++ [zs[i]] := by rw [List.take_succ, List.getElem?_eq_getElem hi]; rfl
  rw [e]
  unfold inTk
  rw [e2]
  simp only [List.mem_append, List.mem_singleton, Bool.decide_or]
theorem inTk_new {zs : List Str} {i : Nat} (hd : zs.Nodup) (hi : i < zs.length) : inTk zs i (zs.getD i Str.empty) = false := by
  have e : zs.getD i Str.empty = zs[i] := by rw [List.getD_eq_getElem?_getD, List.getElem?_eq_getElem hi]; rfl
  rw [e]
  refine decide_eq_false fun m => ?_
  obtain ⟨j, hj, e3⟩ := List.getElem_of_mem m
  rw [List.length_take] at hj
  rw [List.getElem_take] at e3
  exact List.pairwise_iff_getElem.mp hd j i (by omega) hi (by omega) e3
/-- the texts go in, one by one -/
theorem fill_set (Wk : WalksS prog w A.in1 it fp wr Gs n Pv Sv) (a : Addr) (nfp : a ∉ fp) (zs : List Str) (hz : zs.length = n) (hd : zs.Nodup) (hb : n + 1 < scanBound) (hv : ∀ i v, Pv i v → ∃ t, v = .str (zs.getD i Str.empty) t) (m : Nat) :
    ∀ (i : Nat) (s : Shared), m + i = n → Sv i s → s.heap.SetOf (PySem.strKind prog w) a (inTk zs i) i →
      (∀ z, Moved (a :: wr) Gs s z → z.heap.SetOf (PySem.strKind prog w) a (inTk zs n) n → R (.ok (.ret .none)) z) →
      codeAny (model prog w) A (.builtin "set.update.loop" ⟨[.ref a, .ref it], []⟩) R s := by
  have nwr : a ∉ wr := fun q => nfp (Wk.sub _ q)
  have up : ∀ b ∈ wr, b ∈ a :: wr := fun b q => List.mem_cons_of_mem _ q
  induction m with
  | zero =>
    intro i s hm st hS fin
    obtain rfl : i = n := by omega
    refine codeAny_builtin F.entry_set_update_loop ?_
    rw [Around.under_plainId F.plain_set_update_loop _]
    show wpAny _ A.in1 (pyNext (.ref it) >>= _) _ _ _
    refine wpAny_bind (Wk.done s _ _ st fun z mv => ?_)
    show wpAny _ A.in1 (ret Value.none) _ _ z
    refine wpAny_pure (fin z (mv.mono up) ?_)
    obtain ⟨o, es, ep, tb, ho, more⟩ := hS
    exact ⟨o, es, ep, tb, mv.heap a _ nwr ho, more⟩
  | succ m ih =>
    intro i s hm st hS fin
    have lt : i < n := by omega
    refine codeAny_builtin F.entry_set_update_loop ?_
    rw [Around.under_plainId F.plain_set_update_loop _]
    show wpAny _ A.in1 (pyNext (.ref it) >>= _) _ _ _
    refine wpAny_bind (Wk.item i s _ _ lt st fun v z hp st' mv => ?_)
    obtain ⟨t, rfl⟩ := hv i v hp
    have hS2 : z.heap.SetOf (PySem.strKind prog w) a (inTk zs i) i := by
      obtain ⟨o, es, ep, tb, ho, more⟩ := hS
      exact ⟨o, es, ep, tb, mv.heap a _ nwr ho, more⟩
    show wpAny _ A.in1 (holding [Value.str (zs.getD i Str.empty) t] (setAdd a (.str (zs.getD i Str.empty) t)) >>= _) _ _ z
    refine wpAny_bind (wpAny_holding ?_)
    unfold setAdd
    refine wpAny_holding (wpAny_bind ((PySem.strKind prog w).pyHash (k := zs.getD i Str.empty) (strKind_is _ _ _ _) ?_))
    refine wpAny_setAddHashed_of (knd := PySem.strKind prog w) (s := { z with toks := z.toks + 1 }) (strKind_is _ _ _ _) rfl hS2 (by omega) fun hn same hS3 => ?_
    have hS4 : hn.SetOf (PySem.strKind prog w) a (inTk zs (i + 1)) (i + 1) := SetOf_congr hS3 (fun q => inTk_succ (by omega) q) (by rw [inTk_new hd (by omega)]; rfl)
    refine wpAny_pure ⟨plainId_quiet F.plain_set_update_loop _, ih (i + 1) _ (by omega) (Wk.frame _ z _ _ st' (Nat.le_succ _) fun b q o e => ?_) hS4 fun y mv2 hS5 => ?_⟩
    · exact (same.2 b fun e2 : b = a => nfp (e2 ▸ q)).trans e
    · refine fin y (Moved.trans Wk.gtrans ((mv.mono up).then_heap (Nat.le_succ _) fun b o q e => ?_) mv2) hS5
      exact (same.2 b fun e2 : b = a => q (e2 ▸ List.mem_cons_self)).trans e
end
section
variable {prog : Program} {w : World} {A : Around} {E : Value → Shared → Prop} {s : Shared}
abbrev newSet (led : Bool) : Obj := { cls := .type "set", dict := none, data := .set #[] 0 (.fresh 0 0 led) }
/-- set(l), l a list of distinct texts -/
theorem make_set {l : Addr} {its : Array Value} {zs : List Str} {Q : Value → Shared → Prop} (calm : A.handled = none) (hl : s.heap.IsList l its) (hz : StrsAre its.toList zs) (hd : zs.Nodup) (hb : zs.length + 1 < scanBound)
    (fin : ∀ (g : Heap) (tk : Nat), g.SetOf (PySem.strKind prog w) s.heap.objs.size (inTk zs its.size) its.size → (∀ b o, s.heap.get? b = some o → g.get? b = some o) → Q (.ref s.heap.objs.size) { s with heap := g, toks := tk }) :
    wpAny (model prog w) A (call (.type "set") [.ref l]) Q E s := by
  obtain ⟨mc, mt, hmro⟩ := PySem.F.called_set.mro
  have i1 := PySem.F.called_set.made
  have i2 := PySem.F.called_set.sub
  have i3 := PySem.F.called_set.notType
  have i4 := PySem.F.called_set.canCreate
  have i5 := PySem.F.typeCall_set_1 (.ref l)
  refine wpAny_call (codeAny_of_tree ?_)
  show wpAny _ _ (callAny (.type "set") _) _ _ _
  refine wpAny_pure ⟨Code.quiet_builtin _ (by decide +kernel), codeAny_builtin PySem.F.entry_type_call ?_⟩
  rw [Around.under_plain (weight_type_call_type "set" [.ref l] []) rfl]
  repeat (any_goals (first | assumption | wp_step))
  refine codeAny_mono (code_set_new_1 (.ref l) (E := E) (Q₁ := fun v z => ∃ led : Bool, v = .ref s.heap.objs.size ∧ z = { s with heap := s.heap.push (newSet led) }) fun led => ⟨led, rfl, rfl⟩) fun r z hr => ?_
  cases r with
  | error e => exact hr
  | ok f =>
    cases f with
    | ret v =>
      obtain ⟨led, rfl, rfl⟩ := hr
      have at0 : (s.heap.push (newSet led)).get? s.heap.objs.size = some (newSet led) := Heap.get?_push_size _ rfl
      have ty0 : Shared.TypeIs { s with heap := s.heap.push (newSet led) } (.ref s.heap.objs.size) "set" := ⟨_, at0, rfl⟩
      have i6 := PySem.F.called_set.init.lookup
      have i7 := PySem.F.called_set.init.bind (.ref s.heap.objs.size)
      repeat (any_goals (first | assumption | wp_step))
      refine codeAny_mono (codeAny_call_builtin (R := wants (fun v z => v = .none ∧ ∃ g tk, z = { s with heap := g, toks := tk } ∧ g.SetOf (PySem.strKind prog w) s.heap.objs.size (inTk zs its.size) its.size ∧
        ∀ b o, s.heap.get? b = some o → g.get? b = some o) E) PySem.F.called_set.init.plain PySem.F.entry_set_init (check_set_init_1 ty0 ?_)) fun r2 z2 hr2 => ?_
      · have lt0 : l < s.heap.objs.size := by
          obtain ⟨ol, e, _⟩ := hl
          exact Heap.lt_size e
        have hl2 := hl.push (newSet led)
        obtain ⟨ol, hol, hc, nl, hdl⟩ := id hl2
        obtain ⟨oc, od, odt, osl⟩ := ol
        simp only at hc hdl
        subst hc hdl
        have j1 := PySem.F.sub_list_set
        have j2 := PySem.F.sub_list_frozenset
        have j3 : (Value.type "list" == Value.type "dict") = false := by decide
        unfold Builtin.«set.__init__» noKeywords Builtin.Frozenset.updateFrom
        generalize hgen : pyIter = PI
        wp_walk
        subst hgen
        refine wpAny_pyIter_list hl2 (wpAny_bind (wpAny_runValue ?_))
        have calm3 : A.in1.in1.in1.handled = none := by simp [calm]
        have ne1 : l ≠ (s.heap.push (newSet led)).objs.size := by rw [Heap.size_push]; exact Nat.ne_of_lt (Nat.lt_succ_of_lt lt0)
        have nfp : s.heap.objs.size ∉ [(s.heap.push (newSet led)).objs.size, l] := by
          rw [Heap.size_push]
          simp only [List.mem_cons, List.not_mem_nil, or_false, not_or]
          exact ⟨Nat.ne_of_lt (Nat.lt_succ_self _), Nat.ne_of_gt lt0⟩
        have sz : zs.length = its.size := by rw [← StrsAre.len_eq hz, Array.length_toList]
        refine fill_set ((Walks.list calm3 _ l ne1 its).toS) s.heap.objs.size nfp zs sz hd (by omega) (fun i v q => SS.strs_at hz i v (by rw [Array.getElem?_toList]; exact q)) its.size 0 _ (by omega) ⟨⟨_, Heap.get?_push_size _ rfl, rfl, rfl⟩, hl2.push _⟩ ?_ fun z mv hS => ?_
        · refine SetOf_congr ((setObjOf_fresh (knd := PySem.strKind prog w) led).setOf (Heap.get?_push_of_some _ at0) (by unfold scanBound; omega)) (fun q => ?_) rfl
          simp [inTk]
        · obtain ⟨g, z2, z3, tk, z5⟩ := z
          obtain rfl : z2 = s.gens := mv.gens
          obtain rfl : z3 = s.drawn := mv.drawn
          obtain rfl : z5 = s.os := mv.os
          refine wpAny_pure ?_
          show wpAny _ _ (ret Value.none) _ _ _
          refine wpAny_pure ⟨rfl, g, tk, rfl, hS, fun b o e => ?_⟩
          have lb := Heap.lt_size e
          refine mv.heap b o ?_ (Heap.get?_push_of_some _ (Heap.get?_push_of_some _ e))
          rw [Heap.size_push]
          simp only [List.mem_cons, List.not_mem_nil, or_false, not_or]
          exact ⟨Nat.ne_of_lt lb, Nat.ne_of_lt (Nat.lt_succ_of_lt lb)⟩
      · cases r2 with
        | error e => exact hr2
        | ok f2 =>
          cases f2 with
          | ret v =>
            obtain ⟨rfl, g, tk, rfl, hS, kp⟩ := hr2
            repeat (any_goals (first | assumption | wp_step))
            exact fin _ _ hS kp
          | _ => exact hr2.elim
    | _ => exact hr.elim
end
section
variable {X : Cx}
def tLset (K : PySem.W.Frag) (ta : TE) : TE := fun σ H Q => ta σ H fun x H1 => ∃ (l : Addr) (zs : List Str), x = .ref l ∧ SqL K H1 l (zs.map V.str) ∧ zs.Nodup ∧ zs.length + 1 < scanBound ∧ Q (.int zs.length) H1
theorem pe_lset {a : Expr} {ta : TE} {p p2 q pos : Pos} (hc : X.calm = true) (hg : Gl X "len") (hm : X.mg "len" = none) (hg2 : Gl X "set") (hm2 : X.mg "set" = none) (hp : plainX a = true) (ha : PE X a ta) :
    PE X (.Call (.Name "len" p) [.Call (.Name "set" p2) [a] [] q] [] pos) (tLset X.K ta) := by
  have na : starEach [a] X.env = (false, eval a X.env) :: starEach [] X.env := starEach_cons hp
  refine ⟨fun pins s σ H Q I h => Call_ (ld_blt I hg hm boot_len (callWith_builtin1 (args_cons (Call_ (ld_blt I hg2 hm2 boot_set (callWith_type1 (args_cons (thn (ha.run pins s σ H _ I h) fun v s1 hv => args_nil ?_) na) na rfl))) rfl) rfl rfl))⟩
  obtain ⟨x, H1, I1, r1, l, zs, rfl, hq, hd, hb, k⟩ := hv
  cases r1
  obtain ⟨its, r, pl, hz⟩ := I1.list hq
  refine make_set (I1.ok.hd hc) pl.isList (by simpa using strsAre_of r) hd hb fun g tk hS kp => args_nil ?_
  have sz : its.toArray.size = zs.length := by rw [List.size_toArray, ← r.length, List.length_map]
  rw [sz] at hS
  obtain ⟨o, es, ep, tb, ho, hex, hdt, _, _, _, hf, hn⟩ := hS
  have I2 : Inv X pins σ H1 { s1 with heap := g, toks := tk } := I1.kept kp
  refine call_len_set ho hex hdt hf ?_ ⟨.int zs.length, H1, I2.tok _, ⟨_, by rw [hn]⟩, k⟩
  rw [hn]
  unfold scanBound at hb
  omega
end
end Rb
/-! max and min with a default; sorted; len(set(..)). -/
namespace Rb
open PySem
open PySem.Spec
open PyProof.Rows
open L2
theorem mxdT_ne (m : Bool) (a b : T) (x : Exn) : mxdT m a b ≠ .err x := by
  unfold mxdT
  split
  · exact optR_ne fun _ z => by cases z
  · exact optR_ne fun _ z => by cases z
  · exact fun z => by cases z
theorem srtT_ne (a : T) (x : Exn) : srtT a ≠ .err x := by
  unfold srtT
  split
  · split
    · exact fun z => by cases z
    · split <;> exact fun z => by cases z
  · exact fun z => by cases z
theorem lsetT_ne (a : T) (x : Exn) : lsetT a ≠ .err x := by
  unfold lsetT
  split
  · rename_i xs
    cases strsT xs with
    | none => exact fun z => by cases z
    | some zs =>
      show (if (decide zs.Nodup && decide (zs.length + 1 < scanBound)) = true then R.ok (T.int zs.length) else R.bad) ≠ _
      split <;> exact fun z => by cases z
  · exact fun z => by cases z
section
variable {X : Cx}
theorem holds_int_of {h : Heap} {v : Value} {n : Int} (H : PySem.W.Holds h v n) : ∃ t, v = .int n t := by
  obtain ⟨as, r⟩ := H
  cases r
  exact ⟨_, rfl⟩
def rMxd (K : PySem.W.Frag) (mx : Bool) : List V → List V → Hp → VK → Prop := fun vs zs H Q => ∃ (l : Addr) (ns : List Int) (i : Int), vs = [.ref l] ∧ zs = [.int i] ∧ SqL K H l (ns.map V.int) ∧ Q (.int (mxI mx ns i)) H
theorem maxOf_eq (y : Int) (ys : List Int) : PySem.W.maxOf y ys = maxI (y :: ys) := by
  unfold PySem.W.maxOf maxI
  simp only [PySem.W.DatumOrd.lt, decide_eq_true_eq]
theorem minOf_eq (y : Int) (ys : List Int) : PySem.W.minOf y ys = minI (y :: ys) := by
  unfold PySem.W.minOf minI
  simp only [PySem.W.DatumOrd.lt, decide_eq_true_eq]
theorem cr_mxd (hc : X.calm = true) (hu : X.A.units + 1 < cLine) (mx : Bool) : CallRK X (.builtin (if mx then "max" else "min")) [Str.ofString "default"] (rMxd X.K mx) := by
  intro pins s σ H xs zs us ws Q I rx rz h
  obtain ⟨l, ns, i, rfl, rfl, hs, q⟩ := h
  obtain ⟨u, rfl, ru⟩ := Vals.one rx
  obtain ⟨d, rfl, rd⟩ := Vals.one rz
  obtain rfl : u = Value.ref l := ru
  obtain ⟨t, rfl⟩ := rd
  obtain ⟨its, rv, pl, hz⟩ := I.list hs
  have fin : ∀ (n : Int) (t : Tok) (g : Heap) (tk : Nat), n = mxI mx ns i → (∀ b o, s.heap.get? b = some o → g.get? b = some o) → EP X pins σ Q (.int n t) { s with heap := g, toks := tk } := fun n t g tk e k => by
    subst e
    exact ⟨.int _, H, I.kept k, ⟨t, rfl⟩, q⟩
  cases mx with
  | true =>
    refine PySem.W.max_list_datum_default (α := Int) (I.ok.hd hc) pl.isList (PySem.W.HoldAll.of_ints (by simpa using rv.ints)) (by exact hu) (fun e g tk k => fin i t g tk (by subst e; rfl) k) fun y ys j v g tk e hv hh k => ?_
    obtain ⟨t2, rfl⟩ := holds_int_of hh
    exact fin _ t2 g tk (by subst e; rw [maxOf_eq]; rfl) k
  | false =>
    refine PySem.W.min_list_datum_default (α := Int) (I.ok.hd hc) pl.isList (PySem.W.HoldAll.of_ints (by simpa using rv.ints)) (by exact hu) (fun e g tk k => fin i t g tk (by subst e; rfl) k) fun y ys j v g tk e hv hh k => ?_
    obtain ⟨t2, rfl⟩ := holds_int_of hh
    exact fin _ t2 g tk (by subst e; rw [minOf_eq]; rfl) k
def rMxdN (K : PySem.W.Frag) (mx : Bool) : List V → List V → Hp → VK → Prop := fun xs zs H Q => ∃ (l : Addr) (ns : List Int), xs = [.ref l] ∧ zs = [.non] ∧ SqL K H l (ns.map .int) ∧ Q (if ns.isEmpty then .non else .int (mxI mx ns 0)) H
theorem cr_mxdN (hc : X.calm = true) (hu : X.A.units + 1 < cLine) (mx : Bool) : CallRK X (.builtin (if mx then "max" else "min")) [Str.ofString "default"] (rMxdN X.K mx) := by
  intro pins s σ H xs zs us ws Q I rx rz h
  obtain ⟨l, ns, rfl, rfl, hs, q⟩ := h
  obtain ⟨u, rfl, ru⟩ := Vals.one rx
  obtain ⟨d, rfl, rd⟩ := Vals.one rz
  obtain rfl : u = Value.ref l := ru
  obtain rfl : d = Value.none := rd
  obtain ⟨its, rv, pl, hz⟩ := I.list hs
  have fin : ∀ (n : Int) (t : Tok) (g : Heap) (tk : Nat), V.int n = (if ns.isEmpty then .non else .int (mxI mx ns 0)) → (∀ b o, s.heap.get? b = some o → g.get? b = some o) → EP X pins σ Q (.int n t) { s with heap := g, toks := tk } := fun n t g tk e k => by
    exact ⟨.int n, H, I.kept k, ⟨t, rfl⟩, by rw [e]; exact q⟩
  have fin0 : ∀ (g : Heap) (tk : Nat), ns = [] → (∀ b o, s.heap.get? b = some o → g.get? b = some o) → EP X pins σ Q .none { s with heap := g, toks := tk } := fun g tk e k => by
    subst e
    exact ⟨.non, H, I.kept k, rfl, q⟩
  cases mx with
  | true =>
    refine PySem.W.max_list_datum_default (α := Int) (I.ok.hd hc) pl.isList (PySem.W.HoldAll.of_ints (by simpa using rv.ints)) (by exact hu) (fun e g tk k => fin0 g tk (by simpa using e) k) fun y ys j v g tk e hv hh k => ?_
    obtain ⟨t2, rfl⟩ := holds_int_of hh
    exact fin _ t2 g tk (by subst e; rw [maxOf_eq]; rfl) k
  | false =>
    refine PySem.W.min_list_datum_default (α := Int) (I.ok.hd hc) pl.isList (PySem.W.HoldAll.of_ints (by simpa using rv.ints)) (by exact hu) (fun e g tk k => fin0 g tk (by simpa using e) k) fun y ys j v g tk e hv hh k => ?_
    obtain ⟨t2, rfl⟩ := holds_int_of hh
    exact fin _ t2 g tk (by subst e; rw [minOf_eq]; rfl) k
end
theorem leP_tr (a b c : Int × Int) (h1 : leP a b = true) (h2 : leP b c = true) : leP a c = true := by
  unfold leP at *
  rw [Bool.not_eq_true'] at *
  rw [SrtO.lexB_no] at *
  omega
theorem leP_total (a b : Int × Int) : (leP a b || leP b a) = true := by
  unfold leP
  cases h : SrtO.lexB b a with
  | false => rfl
  | true =>
    have := SrtO.lexB_iff.mp h
    have h2 : SrtO.lexB a b = false := by
      rw [SrtO.lexB_no]
      omega
    rw [h2]; rfl
theorem leP_anti {a b : Int × Int} (h1 : leP a b = true) (h2 : leP b a = true) : a = b := by
  unfold leP at *
  rw [Bool.not_eq_true'] at *
  rw [SrtO.lexB_no] at *
  obtain ⟨a1, a2⟩ := a
  obtain ⟨b1, b2⟩ := b
  simp only at *
  have e1 : a1 = b1 := by omega
  have e2 : a2 = b2 := by omega
  rw [e1, e2]
section
variable {c : CA} {K : PySem.W.Frag} {J H : Hp}
/-- the pair that a value shows -/
noncomputable def pairV (H : Hp) : V → Int × Int
  | .ref a => match H a with
    | some (.tup [.int i, .int j]) => (i, j)
    | _ => (0, 0)
  | _ => (0, 0)
theorem pairsT_rs : ∀ {ts : List T} {vs : List V} {ps : List (Int × Int)}, RSs c K J ts vs → pairsT ts = some ps → (∀ v ∈ vs, ∃ t, v = .ref t ∧ J t = some (.tup [.int (pairV J v).1, .int (pairV J v).2])) ∧ vs.map (pairV J) = ps
  | [], vs, ps, r, e => by
    simp only [pairsT] at e; cases e
    simp only [RSs] at r; subst r
    exact ⟨fun v m => (nomatch m), rfl⟩
  | t :: ts, vs, ps, r, e => by
    simp only [pairsT] at e
    split at e
    · rename_i p ps' e1 e2
      cases e
      simp only [RSs] at r
      obtain ⟨v, r', rfl, r1, r2⟩ := r
      obtain ⟨h1, h2⟩ := pairsT_rs r2 e2
      have hv : ∃ a, v = .ref a ∧ J a = some (.tup [.int p.1, .int p.2]) := by
        unfold pairT at e1
        split at e1
        · cases e1
          simp only [RS, RSs, At] at r1
          obtain ⟨a, ws, rfl, ha, w1, r3, rfl, rfl, w2, r4, rfl, rfl, rfl⟩ := r1
          exact ⟨a, rfl, ha⟩
        · cases e1
      obtain ⟨a, rfl, ha⟩ := hv
      have hp : pairV J (.ref a) = p := by simp only [pairV, ha]
      refine ⟨fun w m => ?_, by rw [List.map_cons, hp, h2]⟩
      rcases List.mem_cons.mp m with rfl | m
      · exact ⟨a, rfl, by rw [hp]; exact ha⟩
      · exact h1 w m
    · cases e
theorem pairs_ro : ∀ {ys : List V}, (∀ v ∈ ys, ∃ t, v = .ref t ∧ J t = some (.tup [.int (pairV J v).1, .int (pairV J v).2])) → RSs c K J ((ys.map (pairV J)).map pairO) ys
  | [], _ => by simp [RSs]
  | y :: ys, h => by
    obtain ⟨t, e, ht⟩ := h y List.mem_cons_self
    simp only [List.map_cons, RSs]
    refine ⟨y, ys, rfl, ?_, pairs_ro fun v m => h v (List.mem_cons_of_mem _ m)⟩
    simp only [pairO, RS, At, RSs]
    exact ⟨t, _, e, ht, _, _, rfl, rfl, _, _, rfl, rfl, rfl⟩
theorem strsT_rs : ∀ {ts : List T} {vs : List V} {zs : List Str}, RSs c K J ts vs → strsT ts = some zs → vs = zs.map V.str
  | [], vs, zs, r, e => by simp only [strsT] at e; cases e; simp only [RSs] at r; subst r; rfl
  | .str x :: ts, vs, zs, r, e => by
    simp only [strsT, Option.map_eq_some_iff] at e
    obtain ⟨zs', e1, rfl⟩ := e
    simp only [RSs, RS] at r
    obtain ⟨v, r', rfl, ⟨rfl, _⟩, r2⟩ := r
    rw [strsT_rs r2 e1]; rfl
  | .non :: ts, vs, zs, r, e => by simp [strsT] at e
  | .bl _ :: ts, vs, zs, r, e => by simp [strsT] at e
  | .int _ :: ts, vs, zs, r, e => by simp [strsT] at e
  | .nd _ _ _ :: ts, vs, zs, r, e => by simp [strsT] at e
theorem ints_rss : ∀ {ns : List Int}, RSs c K J (ns.map T.int) (ns.map V.int)
  | [] => by simp [RSs]
  | n :: ns => by
    simp only [List.map_cons, RSs, RS]
    exact ⟨_, _, rfl, rfl, ints_rss⟩
theorem strips_ints : ∀ {ns : List Int}, strips (ns.map T.int) = ns.map T.int
  | [] => rfl
  | n :: ns => by simp only [List.map_cons, strips, strip, strips_ints]
theorem strips_pairs : ∀ {ps : List (Int × Int)}, strips (ps.map pairO) = ps.map pairO
  | [] => rfl
  | p :: ps => by simp only [List.map_cons, strips, strips_pairs, pairO, strip]
end
theorem cr_srt {X : Cx} {c : CA} : CallR X (.builtin "sorted") (r1T c X.K srtT) := by
  intro pins s σ H xs us Q I r h
  obtain ⟨J, a, t, x, rfl, g, ra, e, p⟩ := h
  unfold srtT at e
  split at e
  · obtain ⟨d, vs, rfl, j1, h1, q1⟩ := rs_lst g ra
    split at e
    · rename_i ns hn
      cases e
      have := intsT_rs q1 hn
      subst this
      refine cr_sortedI pins s σ H _ us Q I r ⟨d, ns, rfl, SqL.of h1, fun ns' p0 hp hs hf => ?_⟩
      have e1 : ns' = ns.mergeSort fun a b => decide (a ≤ b) := by
        refine List.Perm.eq_of_pairwise (le := fun a b => a ≤ b) (fun a b _ _ h1 h2 => Int.le_antisymm h1 h2) hs ?_ (hp.trans (List.mergeSort_perm _ _).symm)
        have := List.pairwise_mergeSort (le := fun a b : Int => decide (a ≤ b)) (fun a b c h1 h2 => by simp only [decide_eq_true_eq] at *; omega) (fun a b => by simp only [Bool.or_eq_true, decide_eq_true_eq]; omega) ns
        simpa using this
      subst e1
      have p2 : Post c X.K J H (.nd .lst true (strips ((ns.mergeSort fun a b => decide (a ≤ b)).map T.int))) Q := by rw [strips_ints]; exact p
      exact Post.lst g ints_rss p2 p0 hf
    · split at e
      · rename_i ps hps
        cases e
        obtain ⟨z1, z2⟩ := pairsT_rs q1 hps
        refine cr_sortedPO pins s σ H _ us Q I r ⟨d, vs, pairV J, rfl, SqL.of h1, fun v m => ?_, fun ys p0 hs hb hf => ?_⟩
        · obtain ⟨t, e, ht⟩ := z1 v m
          exact ⟨t, e, g.sub _ _ ht⟩
        · have e1 : ys.map (pairV J) = ps.mergeSort leP := by
            refine List.Perm.eq_of_pairwise (le := fun a b => leP a b = true) (fun a b _ _ h1 h2 => leP_anti h1 h2) ?_ (List.pairwise_mergeSort leP_tr leP_total ps) ?_
            · rw [List.pairwise_map]
              exact hs.imp fun {u z} h => by
                have h2 : SrtO.lexB (pairV J z) (pairV J u) = false := h
                unfold leP; rw [h2]; rfl
            · exact ((hb.perm.map (pairV J)).trans (by rw [z2])).trans (List.mergeSort_perm _ _).symm
          have p2 : Post c X.K J H (.nd .lst true (strips ((ys.map (pairV J)).map pairO))) Q := by rw [strips_pairs, e1]; exact p
          exact Post.lst g (pairs_ro fun v m => z1 v (hb.perm.mem_iff.mp m)) p2 p0 hf
      · cases e
  · cases e
section
variable {c : CA} {C : Calls} {G : Gc} {W : WX} {k : Nat} {X : Cx} {e f : Expr} {sa sb : Env → R T} {pos : Pos}
theorem s_srt (ok : CtxOk c C G W k X) {p : Pos} (hg : G.gl "sorted" = true) (hp : plainX e = true) (ha : PE X e (tS c X.K W sa)) : PE X (.Call (.Name "sorted" p) [e] [] pos) (tS c X.K W fun env => do let x ← sa env; srtT x) := by
  have hs : starEach [e] X.env = (false, eval e X.env) :: starEach [] X.env := starEach_cons hp
  exact pe_of (pe_callB (cr_srt (c := c)) (gl_of ok hg) (ok.prog.blt "sorted" (by decide)) (by decide +kernel) (pa_cons ha pa_nil hs) (by decide) (by decide) hs rfl) fun σ H Q ⟨J, env, g, re, o⟩ => r1_red srtT_ne g re o
theorem s_lset (ok : CtxOk c C G W k X) {p p2 p3 : Pos} (hg : G.gl "len" = true) (hg2 : G.gl "set" = true) (hp : plainX e = true) (ha : PE X e (tS c X.K W sa)) :
    PE X (.Call (.Name "len" p) [.Call (.Name "set" p2) [e] [] p3] [] pos) (tS c X.K W fun env => do let x ← sa env; lsetT x) := by
  refine pe_of (pe_lset ok.calm (gl_of ok hg) (ok.prog.blt "len" (by decide)) (gl_of ok hg2) (ok.prog.blt "set" (by decide)) hp ha) fun σ H Q ⟨J, env, g, re, o⟩ => ?_
  refine ⟨J, env, g, re, out_step (out_bind o) fun t v J1 H1 ex ra o1 => ?_⟩
  obtain ⟨y, e1, p⟩ := out_get o1 (lsetT_ne _)
  unfold lsetT at e1
  split at e1
  · obtain ⟨zs, e2, e3⟩ := optR_ok e1
    split at e3
    · rename_i hz
      cases e3
      simp only [Bool.and_eq_true, decide_eq_true_eq] at hz
      obtain ⟨d, vs, rfl, j1, h1, q1⟩ := rs_lst ex.good ra
      have := strsT_rs q1 e2
      subst this
      exact ⟨d, zs, rfl, SqL.of h1, hz.1, hz.2, Post.int ex.good (Post.ext ex p)⟩
    · cases e3
  · cases e1
theorem s_mxd (ok : CtxOk c C G W k X) {mx : Bool} {p kp : Pos} (hg : G.gl (Str.ofString (if mx then "max" else "min")) = true) (hp : plainX e = true) (ha : PE X e (tS c X.K W sa)) (hb : PE X f (tS c X.K W sb)) :
    PE X (.Call (.Name (Str.ofString (if mx then "max" else "min")) p) [e] [⟨some "default", f, kp⟩] pos) (tS c X.K W fun env => do let x ← sa env; let y ← sb env; mxdT mx x y) := by
  have hs : starEach [e] X.env = (false, eval e X.env) :: starEach [] X.env := starEach_cons hp
  have he : backTo pos (starEach [e] X.env) = (false, eval e X.env) :: backTo pos (starEach [] X.env) := by rw [hs]; rfl
  have hpl : (backTo pos (starEach [e] X.env)).any (·.1) = false := by rw [hs]; rfl
  have base : PE X (.Call (.Name (Str.ofString (if mx then "max" else "min")) p) [e] [⟨some "default", f, kp⟩] pos) (tCKw (fun xs zs H Q => rMxd X.K mx xs zs H Q ∨ rMxdN X.K mx xs zs H Q) (tCons (tS c X.K W sa) tNil) (tCons (tS c X.K W sb) tNil)) := by
    have hc : CallRK X (.builtin (if mx then "max" else "min")) [Str.ofString "default"] (fun xs zs H Q => rMxd X.K mx xs zs H Q ∨ rMxdN X.K mx xs zs H Q) := fun pins s σ H xs zs us ws Q I rx rz h => h.elim (cr_mxd ok.calm (by have := ok.hu; omega) mx pins s σ H xs zs us ws Q I rx rz) (cr_mxdN ok.calm (by have := ok.hu; omega) mx pins s σ H xs zs us ws Q I rx rz)
    cases mx with
    | true => exact pe_callBK hc (gl_of ok hg) (ok.prog.blt "max" (by decide)) (by decide +kernel) (pa_cons ha pa_nil hs) (pk_cons hb pk_nil) (by decide) (by decide) he hpl rfl rfl rfl
    | false => exact pe_callBK hc (gl_of ok hg) (ok.prog.blt "min" (by decide)) (by decide +kernel) (pa_cons ha pa_nil hs) (pk_cons hb pk_nil) (by decide) (by decide) he hpl rfl rfl rfl
  refine pe_of base fun σ H Q ⟨J, env, g, re, o⟩ => ?_
  refine tS_imp (out_two g re o) fun x H1 h1 => tS_imp h1 fun y H2 h2 => ?_
  obtain ⟨J2, a, b, g2, ra, rb, o2⟩ := h2
  obtain ⟨t, e1, p⟩ := out_get o2 (mxdT_ne _ _ _)
  unfold mxdT at e1
  split at e1
  · obtain ⟨ns, e2, e3⟩ := optR_ok e1
    cases e3
    obtain ⟨d, vs, rfl, j1, h1, q1⟩ := rs_lst g2 ra
    have := intsT_rs q1 e2
    subst this
    simp only [RS] at rb
    subst rb
    exact .inl ⟨d, ns, _, rfl, rfl, SqL.of h1, Post.int g2 p⟩
  · obtain ⟨ns, e2, e3⟩ := optR_ok e1
    cases e3
    obtain ⟨d, vs, rfl, j1, h1, q1⟩ := rs_lst g2 ra
    have := intsT_rs q1 e2
    subst this
    simp only [RS] at rb
    subst rb
    refine .inr ⟨d, ns, rfl, rfl, SqL.of h1, ?_⟩
    cases z : ns.isEmpty with
    | true =>
      rw [z] at p
      exact Post.non g2 p
    | false =>
      rw [z] at p
      exact Post.int g2 p
  · cases e1
end
end Rb
/-! Comprehensions. -/
namespace Rb
open PySem
open PySem.Spec
open PyProof.Rows
open L2
theorem wipe_get {σ : L2.St} {i : Nat} : ∀ {is : List Nat}, i ∈ is → i < σ.length → (L2.wipe σ is)[i]? = some none
  | [], h, _ => nomatch h
  | j :: is, h, hl => by
    show ((L2.wipe σ is).set j none)[i]? = some none
    by_cases e : j = i
    · subst e
      rw [List.getElem?_set_self (by rw [wipe_length]; exact hl)]
    · rw [List.getElem?_set_ne e]
      rcases List.mem_cons.mp h with z | z
      · exact absurd z.symm e
      · exact wipe_get z hl
theorem wipe_idem {σ : L2.St} : ∀ {is : List Nat}, L2.wipe (L2.wipe σ is) is = L2.wipe σ is := by
  have key : ∀ (is js : List Nat) (σ : L2.St), (∀ i ∈ is, i ∈ js) → L2.wipe (L2.wipe σ is) js = L2.wipe σ js := by
    intro is
    induction is with
    | nil => intro js σ _; rfl
    | cons a is ih =>
      intro js σ h
      show L2.wipe ((L2.wipe σ is).set a none) js = L2.wipe σ js
      rw [wipe_set (h a List.mem_cons_self)]
      exact ih js σ fun i m => h i (List.mem_cons_of_mem _ m)
  intro is
  exact key is is σ fun _ m => m
section
variable {c : CA} {K : PySem.W.Frag} {J H J1 H1 : Hp}
/-- one's own object is written anew -/
theorem Ext.setD (e : Ext J H J1 H1) {D : Addr} {o : HO} (hD : H D = none) (jD : J1 D = none) (nt : ∀ xs, o ≠ .tup xs) : Ext J H J1 (upd H1 D o) := by
  refine ⟨e.jj, fun a z h => ?_, ⟨fun a z h => ?_, fun a xs h => ?_⟩, e.new⟩
  · rw [upd_ne (ne_of_none h hD)]; exact e.hh a z h
  · rw [upd_ne (ne_of_none h jD)]; exact e.good.sub a z h
  · by_cases m : a = D
    · subst m; rw [upd_same] at h; exact absurd (Option.some.inj h) (nt xs)
    · rw [upd_ne m] at h; exact e.good.tup a xs h
theorem Fr.setD {F : List Addr} (f : Fr H J1 H1 F) {D : Addr} {o : HO} : Fr H J1 (upd H1 D o) F := ⟨f.new, f.out, fun a m => by
  by_cases e : a = D
  · subst e; rw [upd_same]; exact fun z => by cases z
  · rw [upd_ne e]; exact f.there a m, f.nd⟩
theorem ROs.setD {F : List Addr} {ts : List T} {vs : List V} (r : ROs c K J1 H1 ts vs F) (f : Fr H J1 H1 F) {D : Addr} {o : HO} (hD : D ∉ F) : ROs c K J1 (upd H1 D o) ts vs F :=
  ROs.mono (Same.refl J1) ts vs F (fun a m => ⟨f.out a m, upd_ne fun e => hD (e ▸ m)⟩) r
end
theorem ownOf_snd (G : Gc) (is : List Nat) : (ownOf G is).map (·.2) = is := by
  unfold ownOf
  rw [List.map_map]
  exact List.map_id' is
section
variable {c : CA} {C : Calls} {G : Gc} {W : WX} {k : Nat} {X : Cx} {elt tg iter : Expr} {ifs : List Expr} {scope : Scope} {pos : Pos} {pt : Pat} {si : Env → R (List T)} {se : Env → R T} {sc : Env → R Bool}
abbrev W0 : WX := fun _ _ _ _ => False
/-- the tests of a comprehension -/
theorem tt_nil {K : PySem.W.Frag} {W : WX} {σ : L2.St} {H : Hp} {Q : Bool → Hp → Prop} (h : tSB c K W (fun _ => .ok true) σ H Q) : tYes σ H Q := by
  obtain ⟨J, env, g, re, o⟩ := h
  exact o J H (.refl g)
def stpL (pt : Pat) (se : Env → R T) (sc : Env → R Bool) (env : Env) (x : T) : R (Option T) := optR (asgP pt x (kill (slots pt) env)) fun env' => do
  let b ← sc env'
  if b then (do
    let y ← se env'
    .ok (some y)) else .ok none
def semLc (pt : Pat) (si : Env → R (List T)) (se : Env → R T) (sc : Env → R Bool) (env : Env) : R T := do
  let xs ← si env
  let ys ← (lcGo (stpL pt se sc env) xs).calm
  if ys.length ≤ sizeLine then .ok (.nd .lst true ys) else .bad
theorem calm_get {α : Type} {r : R α} {S : α → Prop} {E : Exn → Prop} (h : OutW r.calm S E) : ∃ a, r = .ok a ∧ S a := by
  cases r with
  | ok a => exact ⟨a, rfl, h⟩
  | err x => exact h.elim
  | bad => exact h.elim
theorem lc_conv (ok : CtxOk c C G W k X) (hp : chkP (G.inn scope) pt tg = true) {σ : L2.St} {H : Hp} {Q : VK} (hl : σ.length = X.N.length) (hw : tS c X.K W (semLc pt si se sc) σ H Q) :
    tLc (tSI c X.K W si) (gP X.K pt) (tSB c X.K W0 sc) (tS c X.K W0 se) (slots pt) σ H Q := by
  obtain ⟨J, env, g, re, o⟩ := hw
  replace o : Out c X.K J H (si env >>= fun xs => (lcGo (stpL pt se sc env) xs).calm >>= fun ys => if ys.length ≤ sizeLine then .ok (.nd .lst true ys) else .bad) Q (fun cls d H' => W cls d σ H') := o
  refine ⟨J, env, g, re, ?_⟩
  cases q : si env with
  | bad => rw [q] at o; exact o
  | err x => rw [q] at o; exact o
  | ok xs =>
    rw [q] at o
    replace o : Out c X.K J H ((lcGo (stpL pt se sc env) xs).calm >>= fun ys => if ys.length ≤ sizeLine then .ok (.nd .lst true ys) else .bad) Q (fun cls d H' => W cls d σ H') := o
    obtain ⟨ys, hys, o1⟩ := calm_get (out_bind o)
    split at o1
    · rename_i hz
      replace o1 : Post c X.K J H (.nd .lst true ys) Q := o1
      intro J0 J1 H1 ex wk D hD
      refine ⟨fun i m Hc => m + i = xs.length ∧ ∃ (Jc : Hp) (dn rest : List T) (acc : List V) (F : List Addr), lcGo (stpL pt se sc env) (xs.drop i) = .ok rest ∧ dn ++ rest = ys ∧ Hc D = some (.lst acc) ∧ Jc D = none ∧ Ext J1 H1 Jc Hc ∧ ROs c X.K Jc Hc dn acc F ∧ Fr H1 Jc Hc F ∧ D ∉ F, ?_, ?_⟩
      · refine ⟨xs.length, rfl, J1, [], ys, [], [], hys, rfl, upd_same, ex.good.sub.free hD, Ext.newH ex.good hD (fun _ z => by cases z), ?_, .nil, by simp⟩
        simp only [ROs]
        exact ⟨trivial, trivial⟩
      · rintro i m Hc ⟨hm, Jc, dn, rest, acc, F, h1, h2, h3, h4, ex2, ro, fr, hDF⟩
        obtain ⟨wk1, wk2⟩ := wk i Jc Hc ex2.good ex2.jj
        by_cases hi2 : i < xs.length
        · have hd : xs.drop i = xs[i] :: xs.drop (i + 1) := List.drop_eq_getElem_cons hi2
          rw [hd] at h1
          obtain ⟨go, yl⟩ := wk1 xs[i] (List.getElem?_eq_getElem hi2)
          refine .inr ⟨go, fun H' => m - 1 + (i + 1) = xs.length ∧ ∃ (Jc : Hp) (dn rest : List T) (acc : List V) (F : List Addr), lcGo (stpL pt se sc env) (xs.drop (i + 1)) = .ok rest ∧ dn ++ rest = ys ∧ H' D = some (.lst acc) ∧ Jc D = none ∧ Ext J1 H1 Jc H' ∧ ROs c X.K Jc H' dn acc F ∧ Fr H1 Jc H' F ∧ D ∉ F, fun H' n => ⟨m - 1, by omega, n⟩, fun x H' y => ?_⟩
          obtain ⟨Jn, exn, rx⟩ := yl x H' y
          simp only [lcGo] at h1
          obtain ⟨ov, e1, e2⟩ := R.bind_ok h1
          obtain ⟨ys2, e3, e4⟩ := R.bind_ok e2
          obtain ⟨env', a1, a2⟩ := optR_ok e1
          obtain ⟨b, b1, b2⟩ := R.bind_ok a2
          have hin : inP (L2.wipe σ (slots pt)).length pt = true := by
            rw [wipe_length, hl, ok.hN]
            exact chkP_in (G := G.inn scope) pt tg hp
          refine pat_ok exn.good pt xs[i] x _ env' (L2.wipe σ (slots pt)) (slots pt) _ rx (RSenv.wipe (slots pt) (re.mono (ex.trans (ex2.trans exn)).jj)) a1 hin (fun _ m => m) fun σ2 re2 l2 w2 => ?_
          refine ⟨w2.trans wipe_idem, Jn, env', exn.good, re2, ?_⟩
          rw [b1]
          intro J3 H3 ex3
          have there : ∀ {J' H' : Hp}, Ext Jc Hc J' H' → H' D = some (.lst acc) ∧ J' D = none := fun e => by
            have hne : Hc D ≠ none := by rw [h3]; exact fun z => by cases z
            exact ⟨by rw [e.there hne]; exact h3, e.out h4 hne⟩
          have e13 := exn.trans ex3
          cases b with
          | false =>
            rw [if_neg Bool.false_ne_true] at b2 ⊢
            cases b2
            cases e4
            obtain ⟨t1, t2⟩ := there e13
            exact ⟨by omega, J3, dn, rest, acc, F, e3, h2, t1, t2, ex2.trans e13, ro.later e13 fr, fr.later e13, hDF⟩
          | true =>
            rw [if_pos rfl] at b2 ⊢
            obtain ⟨yt, y1, y2⟩ := R.bind_ok b2
            cases y2
            cases e4
            refine ⟨J3, env', ex3.good, re2.mono ex3.jj, ?_⟩
            rw [y1]
            intro v J4 H4 F4 ex4 fr4 ro4
            have e14 := e13.trans ex4
            obtain ⟨t1, t2⟩ := there e14
            have hacc : acc.length < ys.length := by rw [← ro.length, ← h2]; simp
            have hD4 : D ∉ F4 := fun z => by
              have := fr4.new D z
              rw [(there e13).1] at this
              cases this
            have frA := Fr.append (H := H1) (J1 := J3) (H1 := H3) ex4 (ex2.trans e13).hh (fr.later e13) fr4
            have hDA : D ∉ F ++ F4 := fun z => (List.mem_append.mp z).elim hDF hD4
            refine ⟨acc, t1, by omega, by omega, J4, dn ++ [yt], ys2, acc ++ [v], F ++ F4, e3, by rw [← h2]; simp, upd_same, t2, (ex2.trans e14).setD hD t2 (fun _ z => by cases z), ?_, frA.setD, hDA⟩
            refine ROs.setD (ROs.append (ro.later e14 fr) ?_) frA hDA
            simp only [ROs]
            exact ⟨v, [], F4, [], rfl, by simp, ro4, rfl, rfl⟩
        · have hi3 : i = xs.length := by omega
          subst hi3
          rw [List.drop_length] at h1
          cases h1
          refine .inl ⟨wk2 (Nat.le_refl _), ?_⟩
          rw [List.append_nil] at h2
          subst h2
          refine o1 (.ref D) Jc Hc (D :: F) (ex.trans ex2) ⟨?_, ?_, ?_, ?_⟩ ?_
          · intro b mm
            rcases List.mem_cons.mp mm with rfl | mm
            · exact ex.hh.free hD
            · exact ex.hh.free (fr.new b mm)
          · intro b mm
            rcases List.mem_cons.mp mm with rfl | mm
            · exact h4
            · exact fr.out b mm
          · intro b mm
            rcases List.mem_cons.mp mm with rfl | mm
            · rw [h3]; exact fun z => by cases z
            · exact fr.there b mm
          · exact List.nodup_cons.mpr ⟨hDF, fr.nd⟩
          · simp only [RO]
            exact ⟨D, acc, F, rfl, (show AtO c X.K Hc D .lst acc from h3), h4, rfl, ro⟩
    · exact o1.elim
theorem s_lc (ok : CtxOk c C G W k X) (hb : blkC G.N G.sc scope (ownOf G (slots pt)) = true) (hp : chkP (G.inn scope) pt tg = true) (hpl : plainX iter = true) (hi : PI X tg iter (tSI c X.K W si))
    (he : ∀ X', CtxOk c C (G.inn scope) W0 k X' → PE X' elt (tS c X'.K W0 se)) (ht : ∀ X', CtxOk c C (G.inn scope) W0 k X' → PTs X' ifs (tSB c X'.K W0 sc)) :
    PE X (.ListComp elt [⟨tg, iter, ifs, 0⟩] scope pos) (tS c X.K W (semLc pt si se sc)) := by
  have bo : BlkOk X.N X.env.scope scope (ownOf G (slots pt)) := by rw [ok.hN, ok.sc]; exact blkOk_by hb
  refine pe_ofL (pe_lc (te := tS c X.K W0 se) (tt := tSB c X.K W0 sc) (g := gP X.K pt) ok.calm ok.nd hi bo (fun s H D cl fp => sound_P (ok.blk scope s H D cl fp) pt tg hp) (fun s H D cl fp => ht _ (ok.blk scope s H D cl fp)) (fun s H D cl fp => he _ (ok.blk scope s H D cl fp)) (noFold hpl)) fun σ H Q hl hw => by
    rw [ownOf_snd]
    exact lc_conv ok hp hl hw
end
end Rb
/-! Three more rules of expressions. -/
namespace Rb
open PySem
open PySem.Spec
open PyProof.Rows
open L2
section
variable {c : CA} {C : Calls} {G : Gc} {W : WX} {k : Nat} {X : Cx} {e f d : Expr} {sa sb sd : Env → R T} {pos : Pos}
theorem rvT_ne (a : T) (x : Exn) : rvT a ≠ .err x := by
  unfold rvT
  split <;> exact fun z => by cases z
theorem RSs.rev {K : PySem.W.Frag} {J : Hp} : ∀ {ts : List T} {vs : List V}, RSs c K J ts vs → RSs c K J ts.reverse vs.reverse
  | [], vs, h => by
    simp only [RSs] at h
    subst h
    simp [RSs]
  | t :: ts, vs, h => by
    simp only [RSs] at h
    obtain ⟨v, r, rfl, h1, h2⟩ := h
    rw [List.reverse_cons, List.reverse_cons]
    exact (RSs.rev h2).append (by simp only [RSs]; exact ⟨v, [], rfl, h1, rfl⟩)
theorem s_rv {j : Nat} {p1 p2 p3 : Pos} (ha : PE X e (tS c X.K W sa)) : PE X (.Subscript e (.Slice none none (some (.UnaryOp .USub (.Constant (.int 1) j p1) p2)) p3) pos) (tS c X.K W fun env => do let x ← sa env; rvT x) := by
  refine pe_of (pe_revL ha) fun σ H Q ⟨J, env, g, re, o⟩ => ?_
  refine tS_imp (out_one g re o) fun x H1 ⟨J1, a, g1, ra, _, _, o1⟩ => ?_
  obtain ⟨t, e1, p⟩ := out_get o1 (rvT_ne _)
  unfold rvT at e1
  split at e1
  · cases e1
    obtain ⟨b, vs, rfl, j1, h1, q1⟩ := rs_lst g1 ra
    exact ⟨b, vs, rfl, SqL.of h1, Post.lst g1 q1.rev p⟩
  · cases e1
theorem gtT_ne (a b : T) (x : Exn) : gtT a b ≠ .err x := by
  unfold gtT
  refine bind_ne ?_ fun _ z => by cases z
  unfold dgetT
  split
  · split <;> exact fun z => by cases z
  · split <;> exact fun z => by cases z
  · exact fun z => by cases z
theorem s_gt (ok : CtxOk c C G W k X) {apos : Pos} (hl : (apos.endLine == pos.line) = true) (hpo : plainX e = true) (hp : plainX f = true) (ha : PE X e (tS c X.K W sa)) (hb : PE X f (tS c X.K W sb)) :
    PE X (.Call (.Attribute e "get" apos) [f] [] pos) (tS c X.K W fun env => do let x ← sa env; let _ ← isDk x; let y ← sb env; gtT x y) := by
  have hst := starEach_cons (es := []) (env := X.env) hp
  refine pe_of (pe_dget1 (by have := ok.hu; omega) ha hb ⟨attrBase hpo, by rw [hst]; rfl, hl, by rw [hst]; rfl⟩) fun σ H Q ⟨J, env, g, re, o⟩ => ?_
  refine tS_imp (out_one (f := fun x => isDk x >>= fun _ => sb env >>= fun y => gtT x y) g re o) fun x H1 ⟨J1, a, g1, ra, re1, _, o1⟩ => ?_
  have key : ∀ b, x = .ref b → IsD H1 b → isDk a = .ok () → ∃ a, x = .ref a ∧ IsD H1 a ∧ tS c X.K W sb σ H1 fun y H2 => ∃ o, DGet H2 a y o ∧ Q (o.getD .non) H2 := by
    intro b hx hd hi
    subst hx
    rw [hi] at o1
    replace o1 : Out c X.K J1 H1 (sb env >>= fun y => gtT a y) Q _ := o1
    refine ⟨b, rfl, hd, J1, env, g1, re1, out_step (out_bind o1) fun y v J2 H2 e2 rb o2 => ?_⟩
    have o2' := o2.ext e2
    obtain ⟨t, e3, p⟩ := out_get o2' (gtT_ne _ _)
    unfold gtT at e3
    obtain ⟨ov, e4, e5⟩ := R.bind_ok e3
    cases e5
    obtain ⟨a2, ov2, e6, dg, rel⟩ := dget_rs e2.good (RS.mono e2.jj a _ ra) rb e4
    cases e6
    refine ⟨ov2, dg, ?_⟩
    cases ov with
    | none =>
      have e7 : ov2 = none := rel
      subst e7
      exact Post.non e2.good p
    | some t2 =>
      obtain ⟨w, e7, rw'⟩ := rel
      subst e7
      exact Post.same e2.good rw' p
  cases a with
  | nd gg oo xs =>
    cases gg with
    | dk ks =>
      obtain ⟨b, vs, rfl, j1, h1, _, _⟩ := rs_dk g1 ra
      exact key b rfl (.inl ⟨_, .inl h1⟩) rfl
    | dt ks =>
      obtain ⟨b, vs, rfl, j1, h1, _, _⟩ := rs_dt g1 ra
      exact key b rfl (.inr ⟨_, .inl h1⟩) rfl
    | _ => exact o1.elim
  | _ => exact o1.elim
theorem s_d1 (ok : CtxOk c C G W k X) {i : Nat} {n : Int} {x : Str} {px p2 : Pos} {j : Nat} (h1 : G.N[i]? = some x) (h2 : G.vis x = true) (h3 : nodbg x = true) : PE X (.Dict [some (.Name x px)] [.Constant (.int n) j p2] pos) (tS c X.K W fun env => optR (getS env i) fun t => d1T n t) := by
  obtain ⟨d1, d2, _⟩ := nodbg_of h3
  have pk : PE X (.Name x px) (tVar i) := pe_var (by rw [ok.hN]; exact h1) (vis_of ok h2) d1 d2
  refine pe_of (pe_disp (pps_cons pk pe_int pps_nil) rfl rfl (by simp) (by simp)) fun σ H Q ⟨J, env, g, re, o⟩ p hp => ?_
  replace o : Out c X.K J H (optR (getS env i) fun t => d1T n t) Q (fun cls d H' => W cls d σ H') := o
  cases q : getS env i with
  | none =>
    rw [q] at o
    exact o.elim
  | some t =>
    rw [q] at o
    obtain ⟨v, hv, rv⟩ := re i t q
    replace o : Out c X.K J H (d1T n t) Q _ := o
    unfold d1T at o
    cases q2 : keyT t with
    | none => rw [q2] at o; exact o.elim
    | some kk =>
      rw [q2] at o
      have hk := keyT_rs rv q2
      refine ⟨v, hv, upd_same, ⟨[(kk, .int n)], by rw [hk]; rfl, by simp, ?_⟩⟩
      · have e2 : upd (upd H p (.dK [])) p (.dK (mergeK [] [(kk, V.int n)])) = upd H p (.dK (([kk] : List Key).zip [V.int n])) := by
          funext b
          by_cases e : b = p
          · subst e; rw [upd_same, upd_same]; rfl
          · rw [upd_ne e, upd_ne e, upd_ne e]
        rw [e2]
        exact Post.dk g (ks := [kk]) (ts := [.int n]) (vs := [.int n]) rfl (by simp only [RSs, RS]; exact ⟨_, _, rfl, rfl, rfl⟩) o p hp
end
end Rb
/-! Dict comprehensions; the theorem. -/
namespace Rb
open PySem
open PySem.Spec
open PyProof.Rows
open L2
section
variable {κ : Type} [DecidableEq κ]
def putVv : List κ → List V → κ → V → List V
  | k :: ks, x :: xs, q, t => (if k = q then t else x) :: putVv ks xs q t
  | _, xs, _, _ => xs
theorem any_mem {q : κ} : ∀ {ks : List κ} {vs : List V}, ks.length = vs.length → ((ks.zip vs).any fun kv => decide (kv.1 = q)) = decide (q ∈ ks)
  | [], [], _ => by simp
  | k :: ks, v :: vs, h => by
    rw [List.zip_cons_cons, List.any_cons, any_mem (q := q) (ks := ks) (by simpa using h)]
    by_cases e : k = q
    · subst e; simp
    · simp [e, Ne.symm e]
  | [], _ :: _, h => by simp at h
  | _ :: _, [], h => by simp at h
theorem putK_in {q : κ} {v : V} : ∀ {ks : List κ} {vs : List V}, ks.length = vs.length → (ks.zip vs).map (fun kv => if kv.1 = q then (kv.1, v) else kv) = ks.zip (putVv ks vs q v)
  | [], [], _ => rfl
  | k :: ks, w :: vs, h => by
    rw [List.zip_cons_cons, List.map_cons, putK_in (by simpa using h)]
    show _ = (k :: ks).zip ((if k = q then v else w) :: putVv ks vs q v)
    rw [List.zip_cons_cons]
    by_cases e : k = q
    · simp [e]
    · simp [e]
  | [], _ :: _, h => by simp at h
  | _ :: _, [], h => by simp at h
theorem putVv_len {q : κ} {v : V} : ∀ {ks : List κ} {vs : List V}, (putVv ks vs q v).length = vs.length
  | [], _ => rfl
  | _ :: _, [] => rfl
  | k :: ks, w :: vs => by
    show (putVv ks vs q v).length + 1 = vs.length + 1
    rw [putVv_len]
theorem putK_zip {q : κ} {v : V} {ks : List κ} {vs : List V} (h : ks.length = vs.length) : putK (ks.zip vs) q v = if memK q ks then ks.zip (putVv ks vs q v) else (ks ++ [q]).zip (vs ++ [v]) := by
  unfold putK memK
  rw [any_mem h]
  by_cases e : q ∈ ks
  · simp only [e, decide_true, if_true]
    exact putK_in h
  · simp only [e, decide_false, Bool.false_eq_true, if_false]
    rw [List.zip_append h]
    rfl
theorem putV_rs {c : CA} {K : PySem.W.Frag} {J : Hp} {q : κ} {t : T} {v : V} (r : RS c K J t v) : ∀ {ks : List κ} {ts : List T} {vs : List V}, RSs c K J ts vs → RSs c K J (putV ks ts q t) (putVv ks vs q v)
  | [], ts, vs, h => by cases ts <;> cases vs <;> exact h
  | k :: ks, [], vs, h => by
    simp only [RSs] at h; subst h
    simp [putV, putVv, RSs]
  | k :: ks, u :: ts, vs, h => by
    simp only [RSs] at h
    obtain ⟨w, r', rfl, h1, h2⟩ := h
    simp only [putV, putVv, RSs]
    refine ⟨_, _, rfl, ?_, putV_rs r h2⟩
    by_cases e : k = q
    · rw [if_pos e, if_pos e]; exact r
    · rw [if_neg e, if_neg e]; exact h1
theorem putV_flat {q : κ} {t : T} (ft : flat t = true) : ∀ {ks : List κ} {ts : List T}, flats ts = true → flats (putV ks ts q t) = true
  | [], ts, h => by cases ts <;> exact h
  | k :: ks, [], h => rfl
  | k :: ks, u :: ts, h => by
    simp only [flats, Bool.and_eq_true] at h
    simp only [putV, flats, Bool.and_eq_true]
    refine ⟨?_, putV_flat ft h.2⟩
    by_cases e : k = q
    · rw [if_pos e]; exact ft
    · rw [if_neg e]; exact h.1
end
mutual
/-- a flat tree that is read is as good as one's own -/
theorem flat_own {c : CA} {K : PySem.W.Frag} {J H : Hp} : ∀ (t : T) (v : V), flat t = true → RS c K J t v → RO c K J H t v []
  | .non, v, _, r => by simp only [RS] at r; simp only [RO]; exact ⟨r, trivial⟩
  | .bl b, v, _, r => by simp only [RS] at r; simp only [RO]; exact ⟨r, trivial⟩
  | .int b, v, _, r => by simp only [RS] at r; simp only [RO]; exact ⟨r, trivial⟩
  | .str b, v, _, r => by simp only [RS] at r; simp only [RO]; exact ⟨r, trivial⟩
  | .nd g o xs, v, f, r => by
    cases g with
    | tup =>
      simp only [flat] at f
      simp only [RS] at r
      simp only [RO]
      cases o with
      | false => exact ⟨r, trivial⟩
      | true =>
        obtain ⟨a, vs, e, h1, h2⟩ := r
        exact ⟨a, vs, e, h1, flats_own xs vs f h2⟩
    | _ => simp [flat] at f
theorem flats_own {c : CA} {K : PySem.W.Frag} {J H : Hp} : ∀ (ts : List T) (vs : List V), flats ts = true → RSs c K J ts vs → ROs c K J H ts vs []
  | [], vs, _, r => by simp only [RSs] at r; simp only [ROs]; exact ⟨r, trivial⟩
  | t :: ts, vs, f, r => by
    simp only [flats, Bool.and_eq_true] at f
    simp only [RSs] at r
    obtain ⟨v, r', e, h1, h2⟩ := r
    simp only [ROs]
    exact ⟨v, r', [], [], e, rfl, flat_own t v f.1 h1, flats_own ts r' f.2 h2⟩
end
section
variable {c : CA} {C : Calls} {G : Gc} {W : WX} {k : Nat} {X : Cx} {kx vx tg iter : Expr} {ifs : List Expr} {scope : Scope} {pos : Pos} {pt : Pat} {si : Env → R (List T)} {sk se : Env → R T} {sc : Env → R Bool}
def stpD (pt : Pat) (sk se : Env → R T) (sc : Env → R Bool) (env : Env) (x : T) : R (Option (Key × T)) := optR (asgP pt x (kill (slots pt) env)) fun env' => do
  let b ← sc env'
  if b then (do
    let q ← sk env'
    let y ← se env'
    optR (keyT q) fun q => .ok (some (q, y))) else .ok none
def semDc (pt : Pat) (si : Env → R (List T)) (sk se : Env → R T) (sc : Env → R Bool) (env : Env) : R T := do
  let xs ← si env
  let p ← (dcGo (stpD pt sk se sc env) xs [] []).calm
  .ok (.nd (.dk p.1) true p.2)
theorem dc_conv (ok : CtxOk c C G W k X) (hp : chkP (G.inn scope) pt tg = true) {σ : L2.St} {H : Hp} {Q : VK} (hl : σ.length = X.N.length) (hw : tS c X.K W (semDc pt si sk se sc) σ H Q) :
    tDc (tSI c X.K W si) (gP X.K pt) (tSB c X.K W0 sc) (tS c X.K W0 sk) (tS c X.K W0 se) (slots pt) σ H Q := by
  obtain ⟨J, env, g, re, o⟩ := hw
  replace o : Out c X.K J H (si env >>= fun xs => (dcGo (stpD pt sk se sc env) xs [] []).calm >>= fun p => .ok (.nd (.dk p.1) true p.2)) Q (fun cls d H' => W cls d σ H') := o
  refine ⟨J, env, g, re, ?_⟩
  cases q : si env with
  | bad => rw [q] at o; exact o
  | err x => rw [q] at o; exact o
  | ok xs =>
    rw [q] at o
    replace o : Out c X.K J H ((dcGo (stpD pt sk se sc env) xs [] []).calm >>= fun p => .ok (.nd (.dk p.1) true p.2)) Q (fun cls d H' => W cls d σ H') := o
    obtain ⟨p, hys, o1⟩ := calm_get (out_bind o)
    replace o1 : Post c X.K J H (.nd (.dk p.1) true p.2) Q := o1
    intro J0 J1 H1 ex wk D hD
    refine ⟨fun i m Hc => m + i = xs.length ∧ ∃ (Jc : Hp) (ks : List Key) (ts : List T) (acc : List V) (F : List Addr), dcGo (stpD pt sk se sc env) (xs.drop i) ks ts = .ok p ∧ Hc D = some (.dK (ks.zip acc)) ∧ ks.length = acc.length ∧ Jc D = none ∧ Ext J1 H1 Jc Hc ∧ ROs c X.K Jc Hc ts acc F ∧ Fr H1 Jc Hc F ∧ D ∉ F, ?_, ?_⟩
    · refine ⟨xs.length, rfl, J1, [], [], [], [], hys, upd_same, rfl, ex.good.sub.free hD, Ext.newH ex.good hD (fun _ z => by cases z), ?_, .nil, by simp⟩
      simp only [ROs]
      exact ⟨trivial, trivial⟩
    · rintro i m Hc ⟨hm, Jc, ks, ts, acc, F, h1, h3, hkl, h4, ex2, ro, fr, hDF⟩
      obtain ⟨wk1, wk2⟩ := wk i Jc Hc ex2.good ex2.jj
      by_cases hi2 : i < xs.length
      · have hd : xs.drop i = xs[i] :: xs.drop (i + 1) := List.drop_eq_getElem_cons hi2
        rw [hd] at h1
        obtain ⟨go, yl⟩ := wk1 xs[i] (List.getElem?_eq_getElem hi2)
        refine .inr ⟨go, fun H' => m - 1 + (i + 1) = xs.length ∧ ∃ (Jc : Hp) (ks : List Key) (ts : List T) (acc : List V) (F : List Addr), dcGo (stpD pt sk se sc env) (xs.drop (i + 1)) ks ts = .ok p ∧ H' D = some (.dK (ks.zip acc)) ∧ ks.length = acc.length ∧ Jc D = none ∧ Ext J1 H1 Jc H' ∧ ROs c X.K Jc H' ts acc F ∧ Fr H1 Jc H' F ∧ D ∉ F, fun H' n => ⟨m - 1, by omega, n⟩, fun x H' y => ?_⟩
        obtain ⟨Jn, exn, rx⟩ := yl x H' y
        simp only [dcGo] at h1
        obtain ⟨ov, e1, e2⟩ := R.bind_ok h1
        obtain ⟨env', a1, a2⟩ := optR_ok e1
        obtain ⟨b, b1, b2⟩ := R.bind_ok a2
        have hin : inP (L2.wipe σ (slots pt)).length pt = true := by
          rw [wipe_length, hl, ok.hN]
          exact chkP_in (G := G.inn scope) pt tg hp
        refine pat_ok exn.good pt xs[i] x _ env' (L2.wipe σ (slots pt)) (slots pt) _ rx (RSenv.wipe (slots pt) (re.mono (ex.trans (ex2.trans exn)).jj)) a1 hin (fun _ m => m) fun σ2 re2 l2 w2 => ?_
        refine ⟨w2.trans wipe_idem, Jn, env', exn.good, re2, ?_⟩
        rw [b1]
        intro J3 H3 ex3
        have there : ∀ {J' H' : Hp}, Ext Jc Hc J' H' → H' D = some (.dK (ks.zip acc)) ∧ J' D = none := fun e => by
          have hne : Hc D ≠ none := by rw [h3]; exact fun z => by cases z
          exact ⟨by rw [e.there hne]; exact h3, e.out h4 hne⟩
        have e13 := exn.trans ex3
        cases b with
        | false =>
          rw [if_neg Bool.false_ne_true] at b2 ⊢
          cases b2
          obtain ⟨t1, t2⟩ := there e13
          exact ⟨by omega, J3, ks, ts, acc, F, e2, t1, hkl, t2, ex2.trans e13, ro.later e13 fr, fr.later e13, hDF⟩
        | true =>
          rw [if_pos rfl] at b2 ⊢
          obtain ⟨qt, q1, q2⟩ := R.bind_ok b2
          obtain ⟨yt, y1, y2⟩ := R.bind_ok q2
          obtain ⟨qk, k1, k2⟩ := optR_ok y2
          cases k2
          replace e2 : (if (decide (ks.length < sizeLine) && (!memK qk ks || (flats ts && flat yt))) = true then dcGo (stpD pt sk se sc env) (xs.drop (i + 1)) (putT ks ts qk yt).1 (putT ks ts qk yt).2 else .bad) = .ok p := e2
          split at e2
          · rename_i hz
            rw [Bool.and_eq_true, decide_eq_true_eq] at hz
            refine ⟨J3, env', ex3.good, re2.mono ex3.jj, ?_⟩
            rw [q1]
            intro kv J4 H4 F4 ex4 fr4 ro4
            have rk : RS c X.K (frz J4 H4 F4) qt kv := RO.rs (same_frz fr4.out) qt kv F4 (fun a m => frz_in m) ro4
            have ekv := keyT_rs rk k1
            refine ⟨J4, env', ex4.good, re2.mono (ex3.trans ex4).jj, ?_⟩
            rw [y1]
            intro v J5 H5 F5 ex5 fr5 ro5
            have e14 := e13.trans ex4
            have e15 := e14.trans ex5
            obtain ⟨t1, t2⟩ := there e15
            have hD5 : D ∉ F5 := fun z => by
              have := fr5.new D z
              rw [(there e14).1] at this
              cases this
            refine ⟨ks.zip acc, qk, ekv, t1, by rw [List.length_zip, hkl, Nat.min_self, ← hkl]; exact hz.1, ?_⟩
            rw [putK_zip hkl]
            unfold putT at e2
            by_cases hmem : memK qk ks = true
            · rw [if_pos hmem] at e2 ⊢
              have hfl : flats ts = true ∧ flat yt = true := by
                have := hz.2
                rw [hmem] at this
                simpa using this
              obtain ⟨f1, f2⟩ := flats_ro _ _ _ hfl.1 (ro.later e15 fr)
              obtain ⟨f3, f4⟩ := flat_ro _ _ _ hfl.2 ro5
              refine ⟨by omega, J5, ks, putV ks ts qk yt, putVv ks acc qk v, [], e2, upd_same, by rw [putVv_len]; exact hkl, t2, (ex2.trans e15).setD hD t2 (fun _ z => by cases z), ?_, .nil, by simp⟩
              exact flats_own _ _ (putV_flat hfl.2 hfl.1) (putV_rs f4 f2)
            · rw [if_neg hmem] at e2 ⊢
              have frA := Fr.append (H := H1) (J1 := J4) (H1 := H4) ex5 (ex2.trans e14).hh (fr.later e14) fr5
              have hDA : D ∉ F ++ F5 := fun z => (List.mem_append.mp z).elim hDF hD5
              refine ⟨by omega, J5, ks ++ [qk], ts ++ [yt], acc ++ [v], F ++ F5, e2, upd_same, by simp [hkl], t2, (ex2.trans e15).setD hD t2 (fun _ z => by cases z), ?_, frA.setD, hDA⟩
              refine ROs.setD (ROs.append (ro.later e15 fr) ?_) frA hDA
              simp only [ROs]
              exact ⟨v, [], F5, [], rfl, by simp, ro5, rfl, rfl⟩
          · cases e2
      · have hi3 : i = xs.length := by omega
        subst hi3
        rw [List.drop_length] at h1
        cases h1
        refine .inl ⟨wk2 (Nat.le_refl _), ?_⟩
        refine o1 (.ref D) Jc Hc (D :: F) (ex.trans ex2) ⟨?_, ?_, ?_, ?_⟩ ?_
        · intro b mm
          rcases List.mem_cons.mp mm with rfl | mm
          · exact ex.hh.free hD
          · exact ex.hh.free (fr.new b mm)
        · intro b mm
          rcases List.mem_cons.mp mm with rfl | mm
          · exact h4
          · exact fr.out b mm
        · intro b mm
          rcases List.mem_cons.mp mm with rfl | mm
          · rw [h3]; exact fun z => by cases z
          · exact fr.there b mm
        · exact List.nodup_cons.mpr ⟨hDF, fr.nd⟩
        · simp only [RO]
          exact ⟨D, acc, F, rfl, (show AtO c X.K Hc D (.dk ks) acc from ⟨h3, hkl⟩), h4, rfl, ro⟩
theorem s_dc (ok : CtxOk c C G W k X) (hb : blkC G.N G.sc scope (ownOf G (slots pt)) = true) (hp : chkP (G.inn scope) pt tg = true) (hpl : plainX iter = true) (hi : PI X tg iter (tSI c X.K W si))
    (hk : ∀ X', CtxOk c C (G.inn scope) W0 k X' → PE X' kx (tS c X'.K W0 sk)) (he : ∀ X', CtxOk c C (G.inn scope) W0 k X' → PE X' vx (tS c X'.K W0 se)) (ht : ∀ X', CtxOk c C (G.inn scope) W0 k X' → PTs X' ifs (tSB c X'.K W0 sc)) :
    PE X (.DictComp kx vx [⟨tg, iter, ifs, 0⟩] scope pos) (tS c X.K W (semDc pt si sk se sc)) := by
  have bo : BlkOk X.N X.env.scope scope (ownOf G (slots pt)) := by rw [ok.hN, ok.sc]; exact blkOk_by hb
  refine pe_ofL (pe_dc (tk := tS c X.K W0 sk) (tv := tS c X.K W0 se) (tt := tSB c X.K W0 sc) (g := gP X.K pt) ok.calm ok.nd hi bo (fun s H D cl fp => sound_P (ok.blk scope s H D cl fp) pt tg hp) (fun s H D cl fp => ht _ (ok.blk scope s H D cl fp)) (fun s H D cl fp => hk _ (ok.blk scope s H D cl fp)) (fun s H D cl fp => he _ (ok.blk scope s H D cl fp)) (noFold hpl)) fun σ H Q hl hw => by
    rw [ownOf_snd]
    exact dc_conv ok hp hl hw
theorem ps_ofL {st : Stmt} {t t' : TS} (h : PS X st t) (q : ∀ D σ H, σ.length = X.N.length → t' D σ H → t D σ H) : PS X st t' := ⟨fun pins s σ H D I hw => h.run pins s σ H D I (q D σ H I.len hw)⟩
/-- a dict comprehension stored in a local on one line -/
theorem sw_trueD {kx vx : Expr} {gs : List Comprehension} {scope : Scope} {pos py : Pos} {y : Str} {l : Nat} {env : PySem.Env} (hk : env.scope.kind = .function) (hy : env.scope.names.lookup y = some .local) (hl : (py.line == pos.line) = true)
    (ha : (scope.names.any fun (n, k) => n == y && (k == .local || k == .cell)) = false) : swapsWith (.DictComp kx vx gs scope pos) (some (.Name y py)) l env = pure true := by
  have ky : env.kindOf y = some .local := hy
  have hb : env.blockKind = .function := by unfold PySem.Env.blockKind; rw [hk]; rfl
  unfold swapsWith
  simp only [hb, ky, ha, Expr.pos, hl]
  rfl
theorem ps_setDc {i : Nat} {y : Str} {py : Pos} {own : List (Str × Nat)} {pos spos : Pos} {wi : TI} {g : TG} {tt : TT} {tk tv : TE} (hc : X.calm = true) (hN : X.N.Nodup) (hy : X.N[i]? = some y) (hyl : X.env.scope.names.lookup y = some .local)
    (hsw : swapsWith (.DictComp kx vx [⟨tg, iter, ifs, 0⟩] scope pos) (some (.Name y py)) spos.line X.env = pure true) (hi : PI X tg iter wi) (ok : BlkOk X.N X.env.scope scope own)
    (hg : ∀ (s : Shared) (H : Hp) (C : Addr) (cl : List (Str × Addr)) (fp : List Addr), PG (X.blk s H scope (compEnvC scope cl C X.env) fp) tg g) (ht : ∀ (s : Shared) (H : Hp) (C : Addr) (cl : List (Str × Addr)) (fp : List Addr), PTs (X.blk s H scope (compEnvC scope cl C X.env) fp) ifs tt)
    (hk : ∀ (s : Shared) (H : Hp) (C : Addr) (cl : List (Str × Addr)) (fp : List Addr), PE (X.blk s H scope (compEnvC scope cl C X.env) fp) kx tk)
    (he : ∀ (s : Shared) (H : Hp) (C : Addr) (cl : List (Str × Addr)) (fp : List Addr), PE (X.blk s H scope (compEnvC scope cl C X.env) fp) vx tv) (hs : ∀ x, foldedSetIterable iter X.env x = pure x) :
    PS X (.Assign [.Name y py] (.DictComp kx vx [⟨tg, iter, ifs, 0⟩] scope pos) spos) (tAsg (tDc wi g tt tk tv (own.map (·.2))) (gName i)) := by
  refine ⟨fun pins s σ H D I h => ?_⟩
  rw [exec_Assign_Name_used _ _ _ _ hsw]
  refine wpAny_bind (wpAny_standAt (wpAny_bind ?_))
  show wpAny _ X.A (do let _ ← comprehension (.DictComp kx vx [⟨tg, iter, ifs, 0⟩] scope pos) scope X.env (firstIterPos [⟨tg, iter, ifs, 0⟩] pos) newDict false (eval iter X.env) (some (assign (.Name y py) X.env))) _ _ s
  have h : tDc wi g tt tk tv (own.map (·.2)) σ H (fun x H1 => gName i x σ H1 D.nx) := h
  refine wpAny_bind (thn (dc_core (Qf := fun _ s' => SP X pins D .next s') hc hN I hi ok hg ht hk he hs h fun L C s' m H' I' q hn f => ?_) fun _ s' hq => wpAny_pure (wpAny_pure hq))
  show wpAny _ _ (assign (.Name y py) X.env (.ref L)) _ _ _
  refine wpAny_assign_Name (store_ok2 (v := V.ref L) I' hN hy (.inl hyl) rfl (fun s2 I2 ⟨a, sb, ha⟩ => ?_) (.inr hyl))
  obtain ⟨f0, f1, f2, f3, f4, f5⟩ := f
  have haC : C ≠ a := ha.elim (fun z => z ▸ f1) fun z e => f4 y a z e.symm
  refine ⟨m, hn.sameBut sb haC, fun h3 sb3 => ⟨_, H', I2.turned (t' := s2.toks) (fun b o hb e => (sb3.2 b hb).trans e) f0 f1 f3 f4 f5, q⟩⟩
theorem ss_lc {elt : Expr} {y : Str} {i : Nat} {py spos : Pos} (ok : CtxOk c C G W k X) (hy : X.N[i]? = some y) (hyl : X.env.scope.names.lookup y = some .local) (hsw : swapsWith (.ListComp elt [⟨tg, iter, ifs, 0⟩] scope pos) (some (.Name y py)) spos.line X.env = pure true)
    (hb : blkC G.N G.sc scope (ownOf G (slots pt)) = true) (hp : chkP (G.inn scope) pt tg = true) (hpl : plainX iter = true) (hi : PI X tg iter (tSI c X.K W si))
    (he : ∀ X', CtxOk c C (G.inn scope) W0 k X' → PE X' elt (tS c X'.K W0 se)) (ht : ∀ X', CtxOk c C (G.inn scope) W0 k X' → PTs X' ifs (tSB c X'.K W0 sc)) :
    PS X (.Assign [.Name y py] (.ListComp elt [⟨tg, iter, ifs, 0⟩] scope pos) spos) (tAsg (tS c X.K W (semLc pt si se sc)) (gName i)) := by
  have bo : BlkOk X.N X.env.scope scope (ownOf G (slots pt)) := by rw [ok.hN, ok.sc]; exact blkOk_by hb
  refine ps_ofL (ps_setLc (te := tS c X.K W0 se) (tt := tSB c X.K W0 sc) (g := gP X.K pt) ok.calm ok.nd hy hyl hsw hi bo (fun s H D cl fp => sound_P (ok.blk scope s H D cl fp) pt tg hp) (fun s H D cl fp => ht _ (ok.blk scope s H D cl fp)) (fun s H D cl fp => he _ (ok.blk scope s H D cl fp)) (noFold hpl)) fun D σ H hl hw => ?_
  unfold tAsg
  rw [ownOf_snd]
  exact lc_conv ok hp hl hw
theorem ss_dc {y : Str} {i : Nat} {py spos : Pos} (ok : CtxOk c C G W k X) (hy : X.N[i]? = some y) (hyl : X.env.scope.names.lookup y = some .local) (hsw : swapsWith (.DictComp kx vx [⟨tg, iter, ifs, 0⟩] scope pos) (some (.Name y py)) spos.line X.env = pure true)
    (hb : blkC G.N G.sc scope (ownOf G (slots pt)) = true) (hp : chkP (G.inn scope) pt tg = true) (hpl : plainX iter = true) (hi : PI X tg iter (tSI c X.K W si))
    (hk : ∀ X', CtxOk c C (G.inn scope) W0 k X' → PE X' kx (tS c X'.K W0 sk)) (he : ∀ X', CtxOk c C (G.inn scope) W0 k X' → PE X' vx (tS c X'.K W0 se)) (ht : ∀ X', CtxOk c C (G.inn scope) W0 k X' → PTs X' ifs (tSB c X'.K W0 sc)) :
    PS X (.Assign [.Name y py] (.DictComp kx vx [⟨tg, iter, ifs, 0⟩] scope pos) spos) (tAsg (tS c X.K W (semDc pt si sk se sc)) (gName i)) := by
  have bo : BlkOk X.N X.env.scope scope (ownOf G (slots pt)) := by rw [ok.hN, ok.sc]; exact blkOk_by hb
  refine ps_ofL (ps_setDc (tk := tS c X.K W0 sk) (tv := tS c X.K W0 se) (tt := tSB c X.K W0 sc) (g := gP X.K pt) ok.calm ok.nd hy hyl hsw hi bo (fun s H D cl fp => sound_P (ok.blk scope s H D cl fp) pt tg hp) (fun s H D cl fp => ht _ (ok.blk scope s H D cl fp)) (fun s H D cl fp => hk _ (ok.blk scope s H D cl fp)) (fun s H D cl fp => he _ (ok.blk scope s H D cl fp)) (noFold hpl)) fun D σ H hl hw => ?_
  unfold tAsg
  rw [ownOf_snd]
  exact dc_conv ok hp hl hw
end
/-! ### the theorem -/
theorem chkEs_nil {G : Gc} {es : List IE} (h : chkEs G es [] = true) : es = [] := by
  cases es with
  | nil => rfl
  | cons a es => simp [chkEs] at h
section
variable {c : CA} {C : Calls} {k : Nat}
mutual
theorem sound : ∀ (ie : IE) (G : Gc) (W : WX) (X : Cx) (e : Expr), CtxOk c C G W k X → chkE G ie e = true →
    PE X e (tS c X.K W fun env => ev C env ie) ∧ (tst e = true → PT X e (tSB c X.K W fun env => do let x ← ev C env ie; truth x))
  | .var i, G, W, X, e, ok, h => by
    simp only [chkE] at h
    split at h
    · simp only [Bool.and_eq_true, decide_eq_true_eq] at h
      have p := s_var (c := c) (W := W) (pos := by assumption) ok h.1.1 h.1.2 h.2
      simp only [ev]
      exact ⟨p, fun _ => t_val p rfl⟩
    · cases h
  | .lit v, G, W, X, e, ok, h => by
    simp only [chkE] at h
    simp only [ev]
    split at h
    · exact ⟨s_non, fun _ => t_val s_non rfl⟩
    · have := eq_of_beq h
      subst this
      exact ⟨s_bl, fun _ => t_val s_bl rfl⟩
    · have := eq_of_beq h
      subst this
      exact ⟨s_int, fun _ => t_val s_int rfl⟩
    · simp only [Bool.and_eq_true, decide_eq_true_eq] at h
      obtain ⟨h1, h2⟩ := h
      subst h1
      exact ⟨s_str h2, fun _ => t_val (s_str h2) rfl⟩
    · cases h
  | .glb x q, G, W, X, e, ok, h => by
    simp only [chkE] at h
    simp only [ev]
    split at h
    · simp only [Bool.and_eq_true, decide_eq_true_eq] at h
      obtain ⟨⟨⟨⟨h1, h2⟩, h3⟩, h4⟩, h5⟩ := h
      subst h1
      have p := s_glb (c := c) (W := W) (pos := by assumption) ok h2 h3 h4 h5
      exact ⟨p, fun _ => t_val p rfl⟩
    · cases h
  | .bin op a b, G, W, X, e, ok, h => by
    simp only [chkE] at h
    simp only [ev]
    split at h
    · simp only [Bool.and_eq_true, decide_eq_true_eq] at h
      obtain ⟨⟨h1, h2⟩, h3⟩ := h
      subst h1
      have p := s_bin (pos := by assumption) (op := op) (sound a G W X _ ok h2).1 (sound b G W X _ ok h3).1
      exact ⟨p, fun _ => t_val p rfl⟩
    · cases h
  | .neg a, G, W, X, e, ok, h => by
    simp only [chkE] at h
    simp only [ev]
    split at h
    · have p := s_neg (pos := by assumption) (sound a G W X _ ok h).1
      exact ⟨p, fun _ => t_val p rfl⟩
    · cases h
  | .no a, G, W, X, e, ok, h => by
    simp only [chkE] at h
    simp only [ev]
    split at h
    · exact ⟨s_no (sound a G W X _ ok h).1, fun ht => t_no ((sound a G W X _ ok h).2 ht)⟩
    · cases h
  | .cmp op a b, G, W, X, e, ok, h => by
    simp only [chkE] at h
    simp only [ev]
    split at h
    · simp only [Bool.and_eq_true, decide_eq_true_eq] at h
      obtain ⟨⟨⟨h1, h2⟩, h3⟩, h4⟩ := h
      subst h1
      exact ⟨s_cmp ok h2 (sound a G W X _ ok h3).1 (sound b G W X _ ok h4).1, fun _ => t_cmp ok h2 (sound a G W X _ ok h3).1 (sound b G W X _ ok h4).1⟩
    · cases h
  | .chain o1 o2 a b d, G, W, X, e, ok, h => by
    simp only [chkE] at h
    simp only [ev]
    split at h
    · simp only [Bool.and_eq_true, decide_eq_true_eq] at h
      obtain ⟨⟨⟨⟨⟨⟨h1, h2⟩, h3⟩, h4⟩, h5⟩, h6⟩, h7⟩ := h
      subst h1 h2
      exact ⟨s_chain ok h3 h4 (sound a G W X _ ok h5).1 (sound b G W X _ ok h6).1 (sound d G W X _ ok h7).1, fun _ => t_chain ok h3 h4 (sound a G W X _ ok h5).1 (sound b G W X _ ok h6).1 (sound d G W X _ ok h7).1⟩
    · cases h
  | .bo op es, G, W, X, e, ok, h => by
    simp only [chkE] at h
    simp only [ev]
    split at h
    · simp only [Bool.and_eq_true, decide_eq_true_eq] at h
      obtain ⟨h1, h2⟩ := h
      subst h1
      have p := soundB es G W X op _ (by assumption) ok h2
      exact ⟨p.1, fun ht => (p.2 ht).pt⟩
    · cases h
  | .ifx a b d, G, W, X, e, ok, h => by
    simp only [chkE] at h
    simp only [ev]
    split at h
    · simp only [Bool.and_eq_true, decide_eq_true_eq] at h
      obtain ⟨⟨⟨h1, h2⟩, h3⟩, h4⟩ := h
      exact ⟨s_ifx ((sound a G W X _ ok h2).2 h1) (sound b G W X _ ok h3).1 (sound d G W X _ ok h4).1, fun ht => by simp [tst] at ht⟩
    · cases h
  | .tup es, G, W, X, e, ok, h => by
    simp only [chkE] at h
    simp only [ev]
    split at h
    · have p := s_tup (pos := by assumption) (kk := by assumption) (soundS es G W X _ ok h)
      exact ⟨p, fun _ => t_val p rfl⟩
    · cases h
  | .lst es, G, W, X, e, ok, h => by
    simp only [chkE] at h
    simp only [ev]
    split at h
    · have p := s_lst (pos := by assumption) (soundS es G W X _ ok h)
      exact ⟨p, fun _ => t_val p rfl⟩
    · cases h
  | .sub a i, G, W, X, e, ok, h => by
    simp only [chkE] at h
    simp only [ev]
    split at h
    · simp only [Bool.and_eq_true] at h
      have p := s_sub (pos := by assumption) ok h.1.1 (sound a G W X _ ok h.1.2).1 (sound i G W X _ ok h.2).1
      exact ⟨p, fun _ => t_val p rfl⟩
    · cases h
  | .slc a lo hi, G, W, X, e, ok, h => by
    simp only [chkE] at h
    simp only [ev]
    split at h
    · simp only [Bool.and_eq_true] at h
      exact ⟨s_slc (sound a G W X _ ok h.1.1).1 (soundO lo G W X _ ok h.1.2) (soundO hi G W X _ ok h.2), fun _ => t_val (s_slc (sound a G W X _ ok h.1.1).1 (soundO lo G W X _ ok h.1.2) (soundO hi G W X _ ok h.2)) rfl⟩
    · cases h
  | .att a f, G, W, X, e, ok, h => by
    simp only [chkE] at h
    simp only [ev]
    split at h
    · simp only [Bool.and_eq_true, decide_eq_true_eq] at h
      obtain ⟨⟨h1, h2⟩, h3⟩ := h
      subst h1
      have p := s_att (fn := f) (pos := by assumption) ok h2 (sound a G W X _ ok h3).1
      exact ⟨p, fun _ => t_val p rfl⟩
    · cases h
  | .call f es, G, W, X, e, ok, h => by
    simp only [chkE] at h
    simp only [ev]
    split at h
    · simp only [Bool.and_eq_true, decide_eq_true_eq] at h
      obtain ⟨⟨⟨⟨h1, h2⟩, h3⟩, h4⟩, h5⟩ := h
      subst h1
      exact ⟨s_call ok h2 h3 h4 (chkEs_plain h5) (soundS es G W X _ ok h5) (fun z => by subst z; rw [chkEs_nil h5]; rfl), fun _ => t_val (s_call ok h2 h3 h4 (chkEs_plain h5) (soundS es G W X _ ok h5) (fun z => by subst z; rw [chkEs_nil h5]; rfl)) rfl⟩
    · cases h
  | .mth a m es, G, W, X, e, ok, h => by
    simp only [chkE] at h
    simp only [ev]
    split at h
    · simp only [Bool.and_eq_true, decide_eq_true_eq] at h
      obtain ⟨⟨⟨⟨⟨h1, h2⟩, h3⟩, h4⟩, h5⟩, h6⟩ := h
      subst h1
      have p := s_mth (m := m) ok h2 h3 h4 (chkEs_plain h6) (sound a G W X _ ok h5).1 (soundS es G W X _ ok h6) (fun z => by subst z; rw [chkEs_nil h6]; rfl)
      exact ⟨p, fun _ => t_val p rfl⟩
    · cases h
  | .new f es, G, W, X, e, ok, h => by
    simp only [chkE] at h
    simp only [ev]
    split at h
    · simp only [Bool.and_eq_true, decide_eq_true_eq] at h
      obtain ⟨⟨⟨⟨h1, h2⟩, h3⟩, h4⟩, h5⟩ := h
      subst h1
      exact ⟨s_new ok h2 h3 h4 (chkEs_plain h5) (soundS es G W X _ ok h5) (fun z => by subst z; rw [chkEs_nil h5]; rfl), fun _ => t_val (s_new ok h2 h3 h4 (chkEs_plain h5) (soundS es G W X _ ok h5) (fun z => by subst z; rw [chkEs_nil h5]; rfl)) rfl⟩
    · cases h
  | .b1 f a, G, W, X, e, ok, h => by
    simp only [chkE] at h
    simp only [ev]
    split at h
    · simp only [Bool.and_eq_true, decide_eq_true_eq] at h
      obtain ⟨⟨⟨h1, h2⟩, h3⟩, h4⟩ := h
      subst h1
      exact ⟨s_b1 (b := f) ok h2 h3 (sound a G W X _ ok h4).1, fun _ => t_val (s_b1 (b := f) ok h2 h3 (sound a G W X _ ok h4).1) rfl⟩
    · cases h
  | .b2 mx a b, G, W, X, e, ok, h => by
    simp only [chkE] at h
    simp only [ev]
    split at h
    · simp only [Bool.and_eq_true, decide_eq_true_eq] at h
      obtain ⟨⟨⟨⟨⟨h1, h2⟩, h3⟩, h4⟩, h5⟩, h6⟩ := h
      subst h1
      exact ⟨s_b2 (mx := mx) ok h2 h3 h4 (sound a G W X _ ok h5).1 (sound b G W X _ ok h6).1, fun _ => t_val (s_b2 (mx := mx) ok h2 h3 h4 (sound a G W X _ ok h5).1 (sound b G W X _ ok h6).1) rfl⟩
    · cases h
  | .isi a ty, G, W, X, e, ok, h => by
    simp only [chkE] at h
    simp only [ev]
    split at h
    · simp only [Bool.and_eq_true, decide_eq_true_eq] at h
      obtain ⟨⟨⟨⟨⟨⟨h1, h2⟩, h3⟩, h4⟩, h5⟩, h6⟩, h7⟩ := h
      subst h1 h3
      exact ⟨s_isi ok h2 h4 h7 h5 (sound a G W X _ ok h6).1, fun _ => t_val (s_isi ok h2 h4 h7 h5 (sound a G W X _ ok h6).1) rfl⟩
    · cases h
  | .lc elt tg it ifs, G, W, X, e, ok, h => by
    simp only [chkE] at h
    simp only [ev]
    split at h
    · simp only [Bool.and_eq_true, decide_eq_true_eq] at h
      obtain ⟨⟨⟨⟨⟨⟨⟨h1, h2⟩, h3⟩, h4⟩, h5⟩, h6⟩, h7⟩, h8⟩ := h
      have p := s_lc (pos := by assumption) ok h1 h2 h4 (soundI it G W X _ _ ok h3) (fun X' ok' => (sound elt _ _ X' _ ok' h5).1) (fun X' ok' => soundC ifs _ _ X' _ ok' h6 h7 h8)
      exact ⟨p, fun _ => t_val p rfl⟩
    · cases h
  | .dc kx vx tg it ifs, G, W, X, e, ok, h => by
    simp only [chkE] at h
    simp only [ev]
    split at h
    · simp only [Bool.and_eq_true, decide_eq_true_eq] at h
      obtain ⟨⟨⟨⟨⟨⟨⟨⟨h1, h2⟩, h3⟩, h4⟩, h5⟩, h5'⟩, h6⟩, h7⟩, h8⟩ := h
      have p := s_dc (pos := by assumption) ok h1 h2 h4 (soundI it G W X _ _ ok h3) (fun X' ok' => (sound kx _ _ X' _ ok' h5).1) (fun X' ok' => (sound vx _ _ X' _ ok' h5').1) (fun X' ok' => soundC ifs _ _ X' _ ok' h6 h7 h8)
      exact ⟨p, fun _ => t_val p rfl⟩
    · cases h
  | .srt a, G, W, X, e, ok, h => by
    simp only [chkE] at h
    simp only [ev]
    split at h
    · simp only [Bool.and_eq_true, decide_eq_true_eq] at h
      obtain ⟨⟨⟨h1, h2⟩, h3⟩, h4⟩ := h
      subst h1
      exact ⟨s_srt ok h2 h3 (sound a G W X _ ok h4).1, fun _ => t_val (s_srt ok h2 h3 (sound a G W X _ ok h4).1) rfl⟩
    · cases h
  | .lset a, G, W, X, e, ok, h => by
    simp only [chkE] at h
    simp only [ev]
    split at h
    · simp only [Bool.and_eq_true, decide_eq_true_eq] at h
      obtain ⟨⟨⟨⟨⟨h1, h2⟩, h3⟩, h4⟩, h5⟩, h6⟩ := h
      subst h1 h3
      exact ⟨s_lset ok h2 h4 h5 (sound a G W X _ ok h6).1, fun _ => t_val (s_lset ok h2 h4 h5 (sound a G W X _ ok h6).1) rfl⟩
    · cases h
  | .mxd mx a b, G, W, X, e, ok, h => by
    simp only [chkE] at h
    simp only [ev]
    split at h
    · simp only [Bool.and_eq_true, decide_eq_true_eq] at h
      obtain ⟨⟨⟨⟨⟨h1, h2⟩, h3⟩, h4⟩, h5⟩, h6⟩ := h
      subst h1 h3
      exact ⟨s_mxd ok h2 h4 (sound a G W X _ ok h5).1 (sound b G W X _ ok h6).1, fun _ => t_val (s_mxd ok h2 h4 (sound a G W X _ ok h5).1 (sound b G W X _ ok h6).1) rfl⟩
    · cases h
  | .dk0, G, W, X, e, ok, h => by
    simp only [chkE] at h
    simp only [ev]
    split at h
    · exact ⟨s_dk0, fun _ => t_val s_dk0 rfl⟩
    · cases h
  | .dt0, G, W, X, e, ok, h => by
    simp only [chkE] at h
    simp only [ev]
    split at h
    · exact ⟨s_dt0, fun _ => t_val s_dt0 rfl⟩
    · cases h
  | .gt a b, G, W, X, e, ok, h => by
    simp only [chkE] at h
    simp only [ev]
    split at h
    · simp only [Bool.and_eq_true, decide_eq_true_eq] at h
      obtain ⟨⟨⟨⟨⟨h1, h2⟩, h3⟩, h4⟩, h5⟩, h6⟩ := h
      subst h1
      have p := s_gt (pos := by assumption) ok h2 h3 h4 (sound a G W X _ ok h5).1 (sound b G W X _ ok h6).1
      exact ⟨p, fun _ => t_val p rfl⟩
    · cases h
  | .rv a, G, W, X, e, ok, h => by
    simp only [chkE] at h
    simp only [ev]
    split at h
    · exact ⟨s_rv (sound a G W X _ ok h).1, fun _ => t_val (s_rv (sound a G W X _ ok h).1) rfl⟩
    · cases h
  | .d1 i n, G, W, X, e, ok, h => by
    simp only [chkE] at h
    simp only [ev]
    split at h
    · simp only [Bool.and_eq_true, decide_eq_true_eq] at h
      obtain ⟨⟨⟨h1, h2⟩, h3⟩, h4⟩ := h
      subst h4
      exact ⟨s_d1 ok h1 h2 h3, fun _ => t_val (s_d1 ok h1 h2 h3) rfl⟩
    · cases h
theorem soundS : ∀ (es : List IE) (G : Gc) (W : WX) (X : Cx) (xs : List Expr), CtxOk c C G W k X → chkEs G es xs = true → PA X xs (tSL c X.K W fun env => evs C env es)
  | [], G, W, X, [], ok, h => by simp only [evs]; exact l_nil
  | a :: es, G, W, X, x :: xs, ok, h => by
    simp only [chkEs, Bool.and_eq_true] at h
    simp only [evs]
    exact l_cons h.1.1 (sound a G W X x ok h.1.2).1 (soundS es G W X xs ok h.2)
  | [], G, W, X, _ :: _, ok, h => by simp [chkEs] at h
  | _ :: _, G, W, X, [], ok, h => by simp [chkEs] at h
theorem soundO : ∀ (es : List IE) (G : Gc) (W : WX) (X : Cx) (o : Option Expr), CtxOk c C G W k X → chkO G es o = true → PO X o (tSO c X.K W fun env => evo C env es)
  | [], G, W, X, none, ok, h => by simp only [evo]; exact o_none
  | [a], G, W, X, some x, ok, h => by
    simp only [chkO] at h
    simp only [evo]
    exact o_some (sound a G W X x ok h).1
  | [], G, W, X, some _, ok, h => by simp [chkO] at h
  | [_], G, W, X, none, ok, h => by simp [chkO] at h
  | _ :: _ :: _, G, W, X, none, ok, h => by simp [chkO] at h
  | _ :: _ :: _, G, W, X, some _, ok, h => by simp [chkO] at h
theorem soundC : ∀ (es : List IE) (G : Gc) (W : WX) (X : Cx) (xs : List Expr), CtxOk c C G W k X → chkEs G es xs = true → tstAll xs = true → xs.length < 2 → PTs X xs (tSB c X.K W fun env => evc C env es)
  | [], G, W, X, [], ok, h, _, _ => by
    simp only [evc]
    exact ⟨fun pins s σ H Q I hw => pts_nil.run pins s σ H Q I (tt_nil hw)⟩
  | [a], G, W, X, [x], ok, h, ht, _ => by
    simp only [chkEs, Bool.and_eq_true] at h
    simp only [tstAll, Bool.and_eq_true] at ht
    simp only [evc]
    exact pts_one ((sound a G W X x ok h.1.2).2 ht.1)
  | _, G, W, X, _ :: _ :: _, ok, _, _, h => absurd h (by simp)
  | [], G, W, X, [_], ok, h, _, _ => by simp [chkEs] at h
  | _ :: _, G, W, X, [], ok, h, _, _ => by simp [chkEs] at h
  | _ :: _ :: _, G, W, X, [_], ok, h, _, _ => by simp [chkEs] at h
theorem soundB : ∀ (es : List IE) (G : Gc) (W : WX) (X : Cx) (op : BoolOp) (xs : List Expr) (pos : Pos), CtxOk c C G W k X → chkEs G es xs = true →
    PE X (.BoolOp op xs pos) (tS c X.K W fun env => evb C env op es) ∧ (tstAll xs = true → PW X (.BoolOp op xs pos) (tSB c X.K W fun env => do let x ← evb C env op es; truth x))
  | [], G, W, X, op, [], pos, ok, h => by
    simp only [evb]
    exact ⟨⟨fun pins s σ H Q I hw => by obtain ⟨_, _, _, _, o⟩ := hw; exact o.elim⟩, fun _ => ⟨fun w pins s σ H Q I hw => by obtain ⟨_, _, _, _, o⟩ := hw; exact o.elim⟩⟩
  | [a], G, W, X, op, [x], pos, ok, h => by
    simp only [chkEs, Bool.and_eq_true] at h
    simp only [evb]
    have p := sound a G W X x ok h.1.2
    refine ⟨b_one p.1, fun ht => ?_⟩
    simp only [tstAll, Bool.and_eq_true] at ht
    exact bt_one (p.2 ht.1)
  | a :: b :: es, G, W, X, op, x :: y :: xs, pos, ok, h => by
    have h2 := h
    simp only [chkEs, Bool.and_eq_true] at h
    have p := sound a G W X x ok h.1.2
    have q := soundB (b :: es) G W X op (y :: xs) pos ok (by simp only [chkEs, Bool.and_eq_true]; exact h.2)
    rw [show (fun env => evb C env op (a :: b :: es)) = semB op (fun env => ev C env a) (fun env => evb C env op (b :: es)) from by funext env; simp only [evb, semB]]
    refine ⟨b_cons p.1 q.1, fun ht => ?_⟩
    simp only [tstAll, Bool.and_eq_true] at ht
    have := bt_cons (p.2 ht.1) (q.2 (by simp only [tstAll, Bool.and_eq_true]; exact ht.2))
    exact this
  | [], G, W, X, op, _ :: _, pos, ok, h => by simp [chkEs] at h
  | _ :: _, G, W, X, op, [], pos, ok, h => by simp [chkEs] at h
  | [_], G, W, X, op, _ :: _ :: _, pos, ok, h => by simp [chkEs] at h
  | _ :: _ :: _, G, W, X, op, [_], pos, ok, h => by simp [chkEs] at h
theorem soundI : ∀ (it : It') (G : Gc) (W : WX) (X : Cx) (tg e : Expr), CtxOk c C G W k X → chkI G it tg e = true → PI X tg e (tSI c X.K W fun env => evi C env it)
  | .seq a, G, W, X, tg, e, ok, h => by
    simp only [chkI] at h
    simp only [evi]
    exact pi_seq (sound a G W X e ok h).1
  | .rng1 a, G, W, X, tg, e, ok, h => by
    simp only [chkI] at h
    simp only [evi]
    split at h
    · simp only [Bool.and_eq_true, decide_eq_true_eq] at h
      obtain ⟨⟨⟨h1, h2⟩, h3⟩, h4⟩ := h
      subst h1
      exact pi_rng1 ok (gl_of ok h2) h3 (sound a G W X _ ok h4).1
    · cases h
  | .rng2 a b, G, W, X, tg, e, ok, h => by
    simp only [chkI] at h
    simp only [evi]
    split at h
    · simp only [Bool.and_eq_true, decide_eq_true_eq] at h
      obtain ⟨⟨⟨⟨⟨h1, h2⟩, h3⟩, h4⟩, h5⟩, h6⟩ := h
      subst h1
      exact pi_rng2 ok (gl_of ok h2) h3 h4 (sound a G W X _ ok h5).1 (sound b G W X _ ok h6).1
    · cases h
  | .enm a, G, W, X, tg, e, ok, h => by
    simp only [chkI] at h
    simp only [evi]
    split at h
    · simp only [Bool.and_eq_true, decide_eq_true_eq] at h
      obtain ⟨⟨⟨⟨h1, h2⟩, h3⟩, h4⟩, h5⟩ := h
      subst h1
      unfold isTupE at h5
      split at h5
      · exact pi_enmT ok (gl_of ok h2) h3 (sound a G W X _ ok h4).1 ⟨_, _, _, rfl⟩
      · cases h5
    · cases h
  | .zp a b, G, W, X, tg, e, ok, h => by
    simp only [chkI] at h
    simp only [evi]
    split at h
    · simp only [Bool.and_eq_true, decide_eq_true_eq] at h
      obtain ⟨⟨⟨⟨⟨⟨h1, h2⟩, h3⟩, h4⟩, h5⟩, h6⟩, h7⟩ := h
      subst h1
      unfold isTupE at h7
      split at h7
      · exact pi_zpT ok (gl_of ok h2) h3 h4 (sound a G W X _ ok h5).1 (sound b G W X _ ok h6).1 ⟨_, _, _, rfl⟩
      · cases h7
    · cases h
end
end
end Rb
/-! The slots of a frame, with what each of them owns. -/
namespace Rb
open PySem
open PySem.Spec
open PyProof.Rows
open L2
/-- some slots are read only from now on -/
def frSg (p : Nat → Bool) : Nat → Env → Env
  | _, [] => []
  | k, o :: r => (if p k then o.map strip else o) :: frSg p (k + 1) r
def frS (fv : List Nat) (env : Env) : Env := frSg (fun i => fv.contains i) 0 env
/-- those slots alone -/
def keepSg (p : Nat → Bool) : Nat → Env → Env
  | _, [] => []
  | k, o :: r => (if p k then o else none) :: keepSg p (k + 1) r
def keepS (fv : List Nat) (env : Env) : Env := keepSg (fun i => fv.contains i) 0 env
theorem getS_nil {i : Nat} : getS [] i = none := rfl
theorem getS_zero {o : Option T} {r : Env} : getS (o :: r) 0 = o := by cases o <;> rfl
theorem getS_succ {o : Option T} {r : Env} {i : Nat} : getS (o :: r) (i + 1) = getS r i := rfl
theorem getS_frSg {p : Nat → Bool} : ∀ {env : Env} {k i : Nat}, getS (frSg p k env) i = if p (k + i) then (getS env i).map strip else getS env i
  | [], k, i => by simp [frSg, getS_nil]
  | o :: r, k, 0 => by simp only [frSg, getS_zero, Nat.add_zero]
  | o :: r, k, i + 1 => by
    simp only [frSg, getS_succ]
    rw [getS_frSg, Nat.add_right_comm, Nat.add_assoc]
theorem getS_keepSg {p : Nat → Bool} : ∀ {env : Env} {k i : Nat}, getS (keepSg p k env) i = if p (k + i) then getS env i else none
  | [], k, i => by simp [keepSg, getS_nil]
  | o :: r, k, 0 => by simp only [keepSg, getS_zero, Nat.add_zero]
  | o :: r, k, i + 1 => by
    simp only [keepSg, getS_succ]
    rw [getS_keepSg, Nat.add_right_comm, Nat.add_assoc]
open Classical in
noncomputable def unf (J : Hp) (P : Addr → Prop) : Hp := fun a => if P a then none else J a
open Classical in
noncomputable def frP (J H : Hp) (P : Addr → Prop) : Hp := fun a => if P a then H a else J a
theorem frP_in {J H : Hp} {P : Addr → Prop} {a : Addr} (h : P a) : frP J H P a = H a := if_pos h
theorem frP_out {J H : Hp} {P : Addr → Prop} {a : Addr} (h : ¬ P a) : frP J H P a = J a := if_neg h
theorem unf_in {J : Hp} {P : Addr → Prop} {a : Addr} (h : P a) : unf J P a = none := if_pos h
theorem unf_out {J : Hp} {P : Addr → Prop} {a : Addr} (h : ¬ P a) : unf J P a = J a := if_neg h
/-- how many slots; what the first one holds for ever, if it is fixed -/
structure NZ where
  n : Nat
  z : Option V
structure SL (c : CA) (K : PySem.W.Frag) (n : NZ) (J0 H0 J H : Hp) (σ : L2.St) (env : Env) (Fs : Nat → List Addr) : Prop where
  ext : Ext J0 H0 J H
  len : σ.length = n.n ∧ ∀ v, n.z = some v → σ[0]? = some (some v)
  sl : ∀ i t, getS env i = some t → ∃ v, σ[i]? = some (some v) ∧ RO c K J H t v (Fs i)
  fr : ∀ i, Fr H0 J H (Fs i)
  dj : ∀ i j a, a ∈ Fs i → a ∈ Fs j → i = j
section
variable {c : CA} {K : PySem.W.Frag} {n : NZ} {J0 H0 J H J1 H1 : Hp} {σ : L2.St} {env : Env} {Fs : Nat → List Addr}
abbrev FP (p : Nat → Bool) (Fs : Nat → List Addr) : Addr → Prop := fun a => ∃ i, p i = true ∧ a ∈ Fs i
theorem SL.jn (s : SL c K n J0 H0 J H σ env Fs) {p : Nat → Bool} {a : Addr} (h : FP p Fs a) : J a = none := by
  obtain ⟨i, _, m⟩ := h
  exact (s.fr i).out a m
theorem SL.same_frP (s : SL c K n J0 H0 J H σ env Fs) {p : Nat → Bool} : Same J (frP J H (FP p Fs)) := fun a o h => by
  by_cases m : FP p Fs a
  · rw [s.jn m] at h; cases h
  · rw [frP_out m]; exact h
theorem SL.ext_frP (s : SL c K n J0 H0 J H σ env Fs) {p : Nat → Bool} : Ext J0 H0 (frP J H (FP p Fs)) H := by
  refine ⟨s.ext.jj.trans s.same_frP, s.ext.hh, ⟨fun a o h => ?_, fun a xs h => s.same_frP _ _ (s.ext.good.tup a xs h)⟩, fun a o h => ?_⟩
  · by_cases m : FP p Fs a
    · rw [frP_in m] at h; exact h
    · rw [frP_out m] at h; exact s.ext.good.sub a o h
  · by_cases m : FP p Fs a
    · obtain ⟨i, _, m⟩ := m
      exact .inr ((s.fr i).new a m)
    · rw [frP_out m] at h; exact s.ext.new a o h
theorem SL.out_frP (s : SL c K n J0 H0 J H σ env Fs) {p : Nat → Bool} {i : Nat} (hp : p i = false) {a : Addr} (m : a ∈ Fs i) : frP J H (FP p Fs) a = none := by
  rw [frP_out]
  · exact (s.fr i).out a m
  · rintro ⟨j, h1, h2⟩
    rw [s.dj i j a m h2, h1] at hp
    cases hp
theorem SL.rs_frP (s : SL c K n J0 H0 J H σ env Fs) {p : Nat → Bool} {i : Nat} (hp : p i = true) {t : T} {v : V} (r : RO c K J H t v (Fs i)) : RS c K (frP J H (FP p Fs)) t v :=
  RO.rs s.same_frP t v (Fs i) (fun a m => frP_in ⟨i, hp, m⟩) r
/-- some slots are frozen -/
theorem SL.frz (s : SL c K n J0 H0 J H σ env Fs) (p : Nat → Bool) : SL c K n J0 H0 (frP J H (FP p Fs)) H σ (frSg p 0 env) (fun i => if p i then [] else Fs i) := by
  refine ⟨s.ext_frP, s.len, fun i t h => ?_, fun i => ?_, fun i j a hi hj => ?_⟩
  · rw [getS_frSg, Nat.zero_add] at h
    by_cases hp : p i = true
    · rw [if_pos hp] at h
      cases q : getS env i with
      | none => rw [q] at h; cases h
      | some u =>
        rw [q] at h; cases h
        obtain ⟨v, e, r⟩ := s.sl i u q
        refine ⟨v, e, ?_⟩
        simp only [hp, if_true]
        exact RO_strip u v (s.rs_frP hp r)
    · rw [if_neg hp] at h
      obtain ⟨v, e, r⟩ := s.sl i t h
      refine ⟨v, e, ?_⟩
      simp only [hp, if_neg]
      exact RO.mono s.same_frP t v (Fs i) (fun a m => ⟨s.out_frP (Bool.eq_false_iff.mpr hp) m, rfl⟩) r
  · by_cases hp : p i = true
    · simp only [hp, if_true]; exact .nil
    · simp only [hp, if_neg]
      exact ⟨(s.fr i).new, fun a m => s.out_frP (Bool.eq_false_iff.mpr hp) m, (s.fr i).there, (s.fr i).nd⟩
  · by_cases hp : p i = true
    · simp only [hp, if_true] at hi; cases hi
    · by_cases hq : p j = true
      · simp only [hq, if_true] at hj; cases hj
      · simp only [hp, if_neg] at hi
        simp only [hq, if_neg] at hj
        exact s.dj i j a hi hj
theorem SL.rsenv (s : SL c K n J0 H0 J H σ env Fs) (p : Nat → Bool) : RSenv c K (frP J H (FP p Fs)) σ (keepSg p 0 env) := fun i t h => by
  rw [getS_keepSg, Nat.zero_add] at h
  by_cases hp : p i = true
  · rw [if_pos hp] at h
    obtain ⟨v, e, r⟩ := s.sl i t h
    exact ⟨v, e, s.rs_frP hp r⟩
  · rw [if_neg hp] at h; cases h
theorem keep_all : ∀ {env : Env} {k : Nat}, keepSg (fun _ => true) k env = env
  | [], _ => rfl
  | o :: r, k => by simp only [keepSg, if_true, keep_all]
theorem SL.rsenvA (s : SL c K n J0 H0 J H σ env Fs) : RSenv c K (frP J H (FP (fun _ => true) Fs)) σ env := by
  have h := s.rsenv (fun _ => true)
  rwa [keep_all] at h
/-- behind some steps -/
theorem SL.step (s : SL c K n J0 H0 J H σ env Fs) (e : Ext J H J1 H1) : SL c K n J0 H0 J1 H1 σ env Fs := by
  refine ⟨s.ext.trans e, s.len, fun i t h => ?_, fun i => (s.fr i).later e, s.dj⟩
  obtain ⟨v, e1, r⟩ := s.sl i t h
  exact ⟨v, e1, r.later e (s.fr i)⟩
/-- what was frozen for a while is owned again -/
theorem SL.same_unf (s : SL c K n J0 H0 J H σ env Fs) {p : Nat → Bool} (e : Ext (frP J H (FP p Fs)) H J1 H1) : Same J (unf J1 (FP p Fs)) := fun a o h => by
  have m : ¬ FP p Fs a := fun m => by rw [s.jn m] at h; cases h
  rw [unf_out m]
  exact e.jj a o (s.same_frP a o h)
theorem SL.tup_unf (s : SL c K n J0 H0 J H σ env Fs) {p : Nat → Bool} (e : Ext (frP J H (FP p Fs)) H J1 H1) {a : Addr} {xs : List V} (h : J1 a = some (.tup xs)) : unf J1 (FP p Fs) a = some (.tup xs) := by
  have m : ¬ FP p Fs a := fun m => by
    obtain ⟨i, _, m2⟩ := id m
    have ht := e.good.sub a _ h
    rw [e.there ((s.fr i).there a m2)] at ht
    have := s.ext.good.tup a xs ht
    rw [s.jn m] at this; cases this
  rw [unf_out m]; exact h
theorem SL.ext_unf (s : SL c K n J0 H0 J H σ env Fs) {p : Nat → Bool} (e : Ext (frP J H (FP p Fs)) H J1 H1) : Ext J H (unf J1 (FP p Fs)) H1 := by
  refine ⟨s.same_unf e, e.hh, ⟨fun a o h => ?_, fun a xs h => s.tup_unf e (e.good.tup a xs h)⟩, fun a o h => ?_⟩
  · by_cases m : FP p Fs a
    · rw [unf_in m] at h; cases h
    · rw [unf_out m] at h; exact e.good.sub a o h
  · by_cases m : FP p Fs a
    · rw [unf_in m] at h; cases h
    · rw [unf_out m] at h
      rcases e.new a o h with z | z
      · rw [frP_out m] at z; exact .inl z
      · exact .inr z
theorem SL.back (s : SL c K n J0 H0 J H σ env Fs) {p : Nat → Bool} (e : Ext (frP J H (FP p Fs)) H J1 H1) : SL c K n J0 H0 (unf J1 (FP p Fs)) H1 σ env Fs := s.step (s.ext_unf e)
theorem SL.own_back (s : SL c K n J0 H0 J H σ env Fs) {p : Nat → Bool} (e : Ext (frP J H (FP p Fs)) H J1 H1) {t : T} {v : V} {F : List Addr} (f : Fr H J1 H1 F) (ho : own t = true) (r : RO c K J1 H1 t v F) : RO c K (unf J1 (FP p Fs)) H1 t v F ∧ Fr H (unf J1 (FP p Fs)) H1 F := by
  have k : ∀ a ∈ F, unf J1 (FP p Fs) a = none := fun a m => by
    by_cases z : FP p Fs a
    · exact unf_in z
    · rw [unf_out z]; exact f.out a m
  exact ⟨RO.own (fun a xs h => s.tup_unf e h) t v F ho k r, ⟨f.new, k, f.there, f.nd⟩⟩
/-! changes of the slots -/
theorem SL.less (s : SL c K n J0 H0 J H σ env Fs) (i : Nat) : SL c K n J0 H0 J H σ (env.set i none) Fs := ⟨s.ext, s.len, fun j t h => by
  rcases getS_set h with ⟨_, z⟩ | ⟨_, z⟩
  · cases z
  · exact s.sl j t z, s.fr, s.dj⟩
theorem SL.kill (s : SL c K n J0 H0 J H σ env Fs) : ∀ {is : List Nat}, SL c K n J0 H0 J H σ (Rb.kill is env) Fs := by
  intro is
  induction is generalizing env with
  | nil => exact s
  | cons i is ih => exact ih (s.less i)
def setF (Fs : Nat → List Addr) (i : Nat) (F : List Addr) : Nat → List Addr := fun j => if j = i then F else Fs j
theorem SL.set (s : SL c K n J0 H0 J H σ env Fs) {i : Nat} {t : T} {v : V} {F : List Addr} (hi : i < n.n) (hz : n.z = none ∨ i ≠ 0) (r : RO c K J H t v F) (f : Fr H0 J H F) (d : ∀ j a, j ≠ i → a ∈ Fs j → a ∉ F) :
    SL c K n J0 H0 J H (σ.set i (some v)) (env.set i (some t)) (setF Fs i F) := by
  refine ⟨s.ext, ⟨by rw [List.length_set]; exact s.len.1, fun w hw => ?_⟩, fun j u h => ?_, fun j => ?_, fun j k a hj hk => ?_⟩
  · rcases hz with hz | hz
    · rw [hz] at hw; cases hw
    · rw [List.getElem?_set_ne hz]; exact s.len.2 w hw
  · rcases getS_set h with ⟨rfl, z⟩ | ⟨ne, z⟩
    · cases z
      refine ⟨v, by rw [List.getElem?_set_self (by rw [s.len.1]; exact hi)], ?_⟩
      simp only [setF, if_true]; exact r
    · obtain ⟨w, e, q⟩ := s.sl j u z
      refine ⟨w, by rw [List.getElem?_set_ne ne]; exact e, ?_⟩
      simp only [setF, if_neg ne.symm]; exact q
  · unfold setF; split
    · exact f
    · exact s.fr j
  · unfold setF at hj hk
    by_cases e1 : j = i
    · rw [if_pos e1] at hj
      by_cases e2 : k = i
      · rw [e1, e2]
      · rw [if_neg e2] at hk; exact absurd hj (d k a e2 hk)
    · rw [if_neg e1] at hj
      by_cases e2 : k = i
      · rw [if_pos e2] at hk; exact absurd hk (d j a e1 hj)
      · rw [if_neg e2] at hk; exact s.dj j k a hj hk
end
end Rb
/-! A node of one's own, found by a path and written anew. -/
namespace Rb
open PySem
open PySem.Spec
open PyProof.Rows
open L2
def kidsV : Option HO → Option (List V)
  | some (.lst vs) => some vs
  | some (.tup vs) => some vs
  | some (.dK kvs) => some (kvs.map (·.2))
  | some (.dT kvs) => some (kvs.map (·.2))
  | some (.ins _ _ fs) => some (fs.map (·.2))
  | _ => none
def vAt (H : Hp) : List Nat → V → Option V
  | [], v => some v
  | j :: is, v => match v with
    | .ref a => match kidsV (H a) with
      | some vs => match vs[j]? with
        | some w => vAt H is w
        | none => none
      | none => none
    | _ => none
def nodeAt : List Nat → T → Option T
  | [], t => some t
  | j :: is, t => match t with
    | .nd _ true xs => match xs[j]? with
      | some x => nodeAt is x
      | none => none
    | _ => none
def putAt : List Nat → T → T → T
  | [], u, _ => u
  | j :: is, u, t => match t with
    | .nd g o xs => match xs[j]? with
      | some x => .nd g o (xs.set j (putAt is u x))
      | none => t
    | _ => t
section
variable {c : CA} {K : PySem.W.Frag} {J H H' : Hp}
theorem zip_snd {α : Type} : ∀ {ks : List α} {vs : List V}, ks.length = vs.length → (ks.zip vs).map (·.2) = vs
  | [], [], _ => rfl
  | k :: ks, v :: vs, h => by
    rw [List.zip_cons_cons, List.map_cons, zip_snd (by simpa using h)]
  | [], _ :: _, h => by simp at h
  | _ :: _, [], h => by simp at h
theorem kids_of {a : Addr} {g : Tag} {vs : List V} (h : AtO c K H a g vs) : kidsV (H a) = some vs := by
  cases g with
  | tup => rw [show H a = some (.tup vs) from h]; rfl
  | lst => rw [show H a = some (.lst vs) from h]; rfl
  | ext => exact h.elim
  | dk ks => rw [h.1]; exact congrArg some (zip_snd h.2)
  | dt ks => rw [h.1]; exact congrArg some (zip_snd h.2)
  | obj C fs =>
    obtain ⟨Ca, dx, h1, h2, h3⟩ := h
    rw [h2]; exact congrArg some (zip_snd (by rw [List.length_map]; exact h3))
theorem ROs.nth : ∀ {xs : List T} {vs : List V} {F : List Addr} {j : Nat} {x : T}, ROs c K J H xs vs F → xs[j]? = some x → ∃ (y : V) (F1 Fj F2 : List Addr), vs[j]? = some y ∧ F = F1 ++ Fj ++ F2 ∧ RO c K J H x y Fj ∧
    ∀ (H' : Hp) (x' : T) (Fj' : List Addr), (∀ b ∈ F1 ++ F2, J b = none ∧ H' b = H b) → RO c K J H' x' y Fj' → ROs c K J H' (xs.set j x') vs (F1 ++ Fj' ++ F2)
  | [], vs, F, j, x, h, e => by simp at e
  | t :: ts, vs, F, 0, x, h, e => by
    simp at e; subst e
    simp only [ROs] at h
    obtain ⟨v, r, F1, F2, rfl, rfl, h1, h2⟩ := h
    refine ⟨v, [], F1, F2, rfl, by simp, h1, fun H' x' Fj' k r' => ?_⟩
    simp only [List.set_cons_zero, ROs]
    exact ⟨v, r, Fj', F2, rfl, by simp, r', ROs.mono (Same.refl J) ts r F2 (fun b m => k b (List.mem_append_right _ m)) h2⟩
  | t :: ts, vs, F, j + 1, x, h, e => by
    simp only [ROs] at h
    obtain ⟨v, r, F1, F2, rfl, rfl, h1, h2⟩ := h
    obtain ⟨y, G1, Gj, G2, e1, rfl, e3, e4⟩ := ROs.nth h2 (by simpa using e)
    refine ⟨y, F1 ++ G1, Gj, G2, by simpa using e1, by simp [List.append_assoc], e3, fun H' x' Fj' k r' => ?_⟩
    simp only [List.set_cons_succ, ROs]
    refine ⟨v, r, F1, G1 ++ Fj' ++ G2, rfl, by simp [List.append_assoc], RO.mono (Same.refl J) t v F1 (fun b m => k b (by simp [m])) h1, e4 H' x' Fj' (fun b m => k b ?_) r'⟩
    rcases List.mem_append.mp m with m | m <;> simp [m]
theorem AtO.nt {a : Addr} {g : Tag} {vs : List V} (h : AtO c K H a g vs) (n : g ≠ .tup) : ∀ xs, H a ≠ some (.tup xs) := by
  intro xs z
  cases g with
  | tup => exact n rfl
  | lst => rw [show H a = some (.lst vs) from h] at z; cases z
  | ext => exact h.elim
  | dk ks => rw [h.1] at z; cases z
  | dt ks => rw [h.1] at z; cases z
  | obj C fs =>
    obtain ⟨Ca, dx, h1, h2, h3⟩ := h
    rw [h2] at z; cases z
theorem RO.node {g : Tag} {xs : List T} {v : V} {F : List Addr} (h : RO c K J H (.nd g true xs) v F) (n : g ≠ .tup) : ∃ (a : Addr) (vs : List V) (F' : List Addr), v = .ref a ∧ AtO c K H a g vs ∧ J a = none ∧ F = a :: F' ∧ ROs c K J H xs vs F' := by
  cases g with
  | tup => exact absurd rfl n
  | _ => simpa only [RO] using h
theorem RO.mk {g : Tag} {xs : List T} {a : Addr} {vs : List V} {F : List Addr} (n : g ≠ .tup) (h1 : AtO c K H a g vs) (h2 : J a = none) (h3 : ROs c K J H xs vs F) : RO c K J H (.nd g true xs) (.ref a) (a :: F) := by
  cases g with
  | tup => exact absurd rfl n
  | _ =>
    simp only [RO]
    exact ⟨a, vs, F, rfl, h1, h2, rfl, h3⟩
structure Foc (c : CA) (K : PySem.W.Frag) (J H : Hp) (is : List Nat) (t : T) (v : V) (F : List Addr) (g : Tag) (xs : List T) (a : Addr) (vs : List V) (Fx : List Addr) : Prop where
  val : vAt H is v = some (.ref a)
  at_ : AtO c K H a g vs
  out : J a = none
  kids : ROs c K J H xs vs Fx
  sub : ∀ b ∈ a :: Fx, b ∈ F
  nd : (a :: Fx).Nodup
  put : ∀ (H' : Hp) (g' : Tag) (xs' : List T) (vs' : List V) (Fx' : List Addr), (∀ b ∈ F, b ≠ a → H' b = H b) → AtO c K H' a g' vs' → g' ≠ .tup → ROs c K J H' xs' vs' Fx' → (a :: Fx').Nodup → (∀ b ∈ Fx', b ∈ Fx ∨ b ∉ F) →
    ∃ F', RO c K J H' (putAt is (.nd g' true xs') t) v F' ∧ F'.Nodup ∧ ∀ b ∈ F', b ∈ F ∨ b ∈ Fx'
theorem RO.focus (sj : Same J H) {g : Tag} {xs : List T} (gn : g ≠ .tup) : ∀ (is : List Nat) (t : T) (v : V) (F : List Addr), RO c K J H t v F → F.Nodup → (∀ b ∈ F, J b = none) → nodeAt is t = some (.nd g true xs) → ∃ a vs Fx, Foc c K J H is t v F g xs a vs Fx
  | [], t, v, F, r, nd, hj, e => by
    simp only [nodeAt] at e; cases e
    obtain ⟨a, vs, Fx, rfl, h1, h2, rfl, h3⟩ := r.node gn
    refine ⟨a, vs, Fx, rfl, h1, h2, h3, fun b m => m, nd, fun H' g' xs' vs' Fx' k ha gn' ro nd' sb => ?_⟩
    refine ⟨a :: Fx', RO.mk gn' ha h2 ro, nd', fun b m => ?_⟩
    rcases List.mem_cons.mp m with rfl | m
    · exact .inl List.mem_cons_self
    · exact .inr m
  | j :: is, t, v, F, r, nd, hj, e => by
    simp only [nodeAt] at e
    split at e
    · rename_i g0 xs0
      split at e
      · rename_i x ex
        by_cases gt : g0 = .tup
        · subst gt
          simp only [RO] at r
          obtain ⟨a0, vs0, rfl, h1, h2⟩ := r
          obtain ⟨y, F1, Fj, F2, e1, rfl, e3, e4⟩ := h2.nth ex
          have nj : Fj.Nodup := (List.nodup_append.mp (List.nodup_append.mp nd).1).2.1
          obtain ⟨a, vs, Fx, f⟩ := RO.focus sj gn is x y Fj e3 nj (fun b m => hj b (by simp [m])) e
          have hk : kidsV (H a0) = some vs0 := by rw [sj _ _ h1]; rfl
          refine ⟨a, vs, Fx, by simp only [vAt, hk, e1]; exact f.val, f.at_, f.out, f.kids, fun b m => by simp [f.sub b m], f.nd, fun H' g' xs' vs' Fx' k ha gn' ro nd' sb => ?_⟩
          have apart : ∀ b, b ∈ F1 ++ F2 → b ∉ Fj := fun b m mj => by
            rw [List.nodup_append] at nd
            obtain ⟨n1, n2, n3⟩ := nd
            rw [List.nodup_append] at n1
            rcases List.mem_append.mp m with m | m
            · exact n1.2.2 b m b mj rfl
            · exact n3 b (List.mem_append_right _ mj) b m rfl
          obtain ⟨Fj', ro', nd2, sb2⟩ := f.put H' g' xs' vs' Fx' (fun b m => k b (by simp [m])) ha gn' ro nd' (fun b m => (sb b m).imp id fun z m' => z (by simp [m']))
          have am : a ∈ Fj := f.sub a List.mem_cons_self
          refine ⟨F1 ++ Fj' ++ F2, ?_, ?_, fun b m => ?_⟩
          · simp only [putAt, ex, RO]
            refine ⟨a0, vs0, rfl, h1, e4 H' _ Fj' (fun b m => ⟨hj b ?_, k b ?_ fun z => ?_⟩) ro'⟩
            · rcases List.mem_append.mp m with m | m <;> simp [m]
            · rcases List.mem_append.mp m with m | m <;> simp [m]
            · subst z; exact apart b m am
          · have new : ∀ b ∈ Fj', b ∉ F1 ++ F2 := fun b m m' => by
              rcases sb2 b m with z | z
              · exact apart b m' z
              · rcases sb b z with y | y
                · exact apart b m' (f.sub b (List.mem_cons_of_mem _ y))
                · exact y (by rcases List.mem_append.mp m' with q | q <;> simp [q])
            rw [List.nodup_append] at nd ⊢
            obtain ⟨n1, n2, n3⟩ := nd
            rw [List.nodup_append] at n1 ⊢
            refine ⟨⟨n1.1, nd2, fun p hp q hq z => ?_⟩, n2, fun p hp q hq z => ?_⟩
            · subst z; exact new p hq (List.mem_append_left _ hp)
            · subst z
              rcases List.mem_append.mp hp with hp | hp
              · exact n3 p (List.mem_append_left _ hp) p hq rfl
              · exact new p hp (List.mem_append_right _ hq)
          · rcases List.mem_append.mp m with m | m
            · rcases List.mem_append.mp m with m | m
              · simp [m]
              · rcases sb2 b m with z | z
                · simp [z]
                · exact .inr z
            · simp [m]
        · obtain ⟨a0, vs0, F0, rfl, h1, h2, rfl, h3⟩ := r.node gt
          obtain ⟨y, F1, Fj, F2, e1, rfl, e3, e4⟩ := h3.nth ex
          rw [List.nodup_cons] at nd
          obtain ⟨nd0, nd⟩ := nd
          have nj : Fj.Nodup := (List.nodup_append.mp (List.nodup_append.mp nd).1).2.1
          obtain ⟨a, vs, Fx, f⟩ := RO.focus sj gn is x y Fj e3 nj (fun b m => hj b (by simp [m])) e
          refine ⟨a, vs, Fx, by simp only [vAt, kids_of h1, e1]; exact f.val, f.at_, f.out, f.kids, fun b m => by simp [f.sub b m], f.nd, fun H' g' xs' vs' Fx' k ha gn' ro nd' sb => ?_⟩
          have apart : ∀ b, b ∈ F1 ++ F2 → b ∉ Fj := fun b m mj => by
            rw [List.nodup_append] at nd
            obtain ⟨n1, n2, n3⟩ := nd
            rw [List.nodup_append] at n1
            rcases List.mem_append.mp m with m | m
            · exact n1.2.2 b m b mj rfl
            · exact n3 b (List.mem_append_right _ mj) b m rfl
          obtain ⟨Fj', ro', nd2, sb2⟩ := f.put H' g' xs' vs' Fx' (fun b m => k b (by simp [m])) ha gn' ro nd' (fun b m => (sb b m).imp id fun z m' => z (by simp [m']))
          have am : a ∈ Fj := f.sub a List.mem_cons_self
          have a0n : a0 ≠ a := fun z => nd0 (by subst z; simp [am])
          refine ⟨a0 :: (F1 ++ Fj' ++ F2), ?_, ?_, fun b m => ?_⟩
          · simp only [putAt, ex]
            refine RO.mk gt (h1.stay (k a0 (by simp) a0n)) h2 (e4 H' _ Fj' (fun b m => ⟨hj b ?_, k b ?_ fun z => ?_⟩) ro')
            · rcases List.mem_append.mp m with m | m <;> simp [m]
            · rcases List.mem_append.mp m with m | m <;> simp [m]
            · subst z; exact apart b m am
          · have new : ∀ b ∈ Fj', b ∉ F1 ++ F2 := fun b m m' => by
              rcases sb2 b m with z | z
              · exact apart b m' z
              · rcases sb b z with y | y
                · exact apart b m' (f.sub b (List.mem_cons_of_mem _ y))
                · exact y (by rcases List.mem_append.mp m' with q | q <;> simp [q])
            rw [List.nodup_cons]
            refine ⟨fun m => ?_, ?_⟩
            · rcases List.mem_append.mp m with m | m
              · rcases List.mem_append.mp m with m | m
                · exact nd0 (by simp [m])
                · rcases sb2 a0 m with z | z
                  · exact nd0 (by simp [z])
                  · rcases sb a0 z with y | y
                    · exact nd0 (by simp [f.sub a0 (List.mem_cons_of_mem _ y)])
                    · exact y (by simp)
              · exact nd0 (by simp [m])
            · rw [List.nodup_append] at nd ⊢
              obtain ⟨n1, n2, n3⟩ := nd
              rw [List.nodup_append] at n1 ⊢
              refine ⟨⟨n1.1, nd2, fun p hp q hq z => ?_⟩, n2, fun p hp q hq z => ?_⟩
              · subst z; exact new p hq (List.mem_append_left _ hp)
              · subst z
                rcases List.mem_append.mp hp with hp | hp
                · exact n3 p (List.mem_append_left _ hp) p hq rfl
                · exact new p hp (List.mem_append_right _ hq)
          · rcases List.mem_cons.mp m with rfl | m
            · simp
            rcases List.mem_append.mp m with m | m
            · rcases List.mem_append.mp m with m | m
              · simp [m]
              · rcases sb2 b m with z | z
                · simp [z]
                · exact .inr z
            · simp [m]
      · cases e
    · cases e
end
end Rb
/-! Values, tests and iterators of statements. -/
namespace Rb
open PySem
open PySem.Spec
open PyProof.Rows
open L2
/-- a value of a statement: a slot's own one given away; one that is owned alone; one that freezes those slots -/
inductive Lf where
  | mv (i : Nat) | rd (e : IE) | es (fv : List Nat) (e : IE)
inductive VR where
  | ok (t : T) (env : Env) | er (x : Exn) (env : Env) | bad
inductive BR where
  | ok (b : Bool) | er (x : Exn) (env : Env) | bad
inductive LR where
  | ok (ts : List T) (env : Env) | er (x : Exn) (env : Env) | bad
def evL (C : Calls) (env : Env) : Lf → VR
  | .mv i => match getS env i with
    | some t => .ok t (env.set i none)
    | none => .bad
  | .rd e => match ev C env e with
    | .ok t => if own t then .ok t env else .bad
    | .err x => .er x env
    | .bad => .bad
  | .es fv e => match ev C (keepS fv env) e with
    | .ok t => .ok t (frS fv env)
    | .err x => .er x env
    | .bad => .bad
def toBR (env : Env) : R Bool → BR
  | .ok b => .ok b
  | .err x => .er x env
  | .bad => .bad
def evC (C : Calls) (env : Env) (e : IE) : BR := toBR env (do
  let x ← ev C env e
  truth x)
def isRng : It' → Bool
  | .rng1 _ => true
  | .rng2 _ _ => true
  | _ => false
def toLR (env : Env) (fr : Env) : R (List T) → LR
  | .ok b => .ok b fr
  | .err x => .er x env
  | .bad => .bad
def evI (C : Calls) (env : Env) (fv : List Nat) (it : It') : LR := if isRng it then toLR env env (evi C env it) else toLR env (frS fv env) (evi C (keepS fv env) it)
/-- a list that is one's own: the slots stay -/
def childsO : T → Option (List T)
  | .nd .lst _ xs => some xs
  | .nd .tup _ xs => some xs
  | _ => none
def evIo (C : Calls) (env : Env) (e : IE) : LR := match ev C env e with
  | .ok t => if own t then (match childsO t with
    | some ts => .ok ts env
    | none => .bad) else .bad
  | .err x => .er x env
  | .bad => .bad
section
variable (c : CA) (K : PySem.W.Frag) (n : NZ) (J0 H0 : Hp)
def ErV (Jb : Hp) (σ : L2.St) (env : Env) (x : Exn) (W : WX) : Prop := ∀ cls d J H Fs, SL c K n J0 H0 J H σ env Fs → Same Jb J → EX c K x cls d H → W cls d σ H
def OutV (W : WX) (Jb Hb : Hp) (σ : L2.St) (Q : VK) : VR → Prop
  | .ok t env => ∀ v J H Fs F, SL c K n J0 H0 J H σ env Fs → Same Jb J → Same Hb H → RO c K J H t v F → Fr H0 J H F → (∀ i a, a ∈ Fs i → a ∉ F) → Q v H
  | .er x env => ErV c K n J0 H0 Jb σ env x W
  | .bad => False
def OutB (W : WX) (Jb : Hp) (σ : L2.St) (env : Env) (Q : Bool → Hp → Prop) : BR → Prop
  | .ok b => ∀ J H Fs, SL c K n J0 H0 J H σ env Fs → Same Jb J → Q b H
  | .er x env => ErV c K n J0 H0 Jb σ env x W
  | .bad => False
def OutL (W : WX) (Jb : Hp) (σ : L2.St) (Q : L2.It → Hp → Prop) : LR → Prop
  | .ok ts env => ∀ it Jw J H Fs, SL c K n J0 H0 J H σ env Fs → Same Jb J → Walk c K it Jw ts → Same Jw J → Q it H
  | .er x env => ErV c K n J0 H0 Jb σ env x W
  | .bad => False
end
section
variable (c : CA) (K : PySem.W.Frag) (W : WX) (n : NZ)
def tLf (sem : Env → VR) : TE := fun σ H Q => ∃ (J0 H0 J : Hp) (env : Env) (Fs : Nat → List Addr), SL c K n J0 H0 J H σ env Fs ∧ OutV c K n J0 H0 W J H σ Q (sem env)
def tBf (sem : Env → BR) : TT := fun σ H Q => ∃ (J0 H0 J : Hp) (env : Env) (Fs : Nat → List Addr), SL c K n J0 H0 J H σ env Fs ∧ OutB c K n J0 H0 W J σ env Q (sem env)
def tIf' (sem : Env → LR) : TI := fun σ H Q => ∃ (J0 H0 J : Hp) (env : Env) (Fs : Nat → List Addr), SL c K n J0 H0 J H σ env Fs ∧ OutL c K n J0 H0 W J σ Q (sem env)
end
section
variable {c : CA} {K : PySem.W.Frag} {n : NZ} {J0 H0 J H : Hp} {σ : L2.St} {env : Env} {Fs : Nat → List Addr} {W : WX}
theorem frAll {J1 H1 : Hp} {F : List Addr} (s : SL c K n J0 H0 J H σ env Fs) (hh : Same H H1) (f : Fr H J1 H1 F) : Fr H0 J1 H1 F ∧ ∀ i a, a ∈ Fs i → a ∉ F :=
  ⟨⟨fun a m => s.ext.hh.free (f.new a m), f.out, f.there, f.nd⟩, fun i a m m' => (s.fr i).there a m (f.new a m')⟩
theorem ErV.post {x : Exn} (s : SL c K n J0 H0 J H σ env Fs) {p : Nat → Bool} (h : ErV c K n J0 H0 J σ env x W) : PostE c K (frP J H (FP p Fs)) H x (fun cls d H' => W cls d σ H') := fun cls d J' H' e he =>
  h cls d _ H' Fs (s.back e) (s.same_unf e) he
/-- a value owned alone -/
theorem rd_ok {se : Env → R T} {Q : VK} (s : SL c K n J0 H0 J H σ env Fs)
    (h : OutV c K n J0 H0 W J H σ Q (match se env with | .ok t => if own t then .ok t env else .bad | .err x => .er x env | .bad => .bad)) : tS c K W se σ H Q := by
  refine ⟨_, env, (s.ext_frP (p := fun _ => true)).good, s.rsenvA, ?_⟩
  cases q : se env with
  | bad => rw [q] at h; exact h
  | err x => rw [q] at h; exact ErV.post s h
  | ok t =>
    rw [q] at h
    simp only at h
    split at h
    · rename_i ho
      intro v J' H' F e f r
      obtain ⟨r2, f2⟩ := s.own_back e f ho r
      obtain ⟨f3, d⟩ := frAll s e.hh f2
      exact h v _ H' Fs F (s.back e) (s.same_unf e) e.hh r2 f3 d
    · exact h.elim
/-- a value that freezes -/
theorem es_ok {se : Env → R T} {Q : VK} {fv : List Nat} (s : SL c K n J0 H0 J H σ env Fs)
    (h : OutV c K n J0 H0 W J H σ Q (match se (keepS fv env) with | .ok t => .ok t (frS fv env) | .err x => .er x env | .bad => .bad)) : tS c K W se σ H Q := by
  refine ⟨_, keepS fv env, (s.ext_frP (p := fun i => fv.contains i)).good, s.rsenv (fun i => fv.contains i), ?_⟩
  cases q : se (keepS fv env) with
  | bad => rw [q] at h; exact h
  | err x => rw [q] at h; exact ErV.post s h
  | ok t =>
    rw [q] at h
    intro v J' H' F e f r
    have s2 := (s.frz fun i => fv.contains i)
    obtain ⟨f3, d⟩ := frAll s2 e.hh f
    exact h v _ H' _ F (s2.step e) (s.same_frP.trans e.jj) e.hh r f3 d
theorem mv_ok {i : Nat} {Q : VK} (s : SL c K n J0 H0 J H σ env Fs)
    (h : OutV c K n J0 H0 W J H σ Q (match getS env i with | some t => .ok t (env.set i none) | none => .bad)) : tVar i σ H Q := by
  cases q : getS env i with
  | none => rw [q] at h; exact h.elim
  | some t =>
    rw [q] at h
    obtain ⟨v, e, r⟩ := s.sl i t q
    refine ⟨v, e, h v J H (setF Fs i []) (Fs i) ?_ (Same.refl J) (Same.refl H) r (s.fr i) fun j a m m' => ?_⟩
    · refine ⟨s.ext, s.len, fun j u hj => ?_, fun j => ?_, fun j k a hj hk => ?_⟩
      · rcases getS_set hj with ⟨_, z⟩ | ⟨ne, z⟩
        · cases z
        · obtain ⟨w, e1, e2⟩ := s.sl j u z
          refine ⟨w, e1, ?_⟩
          simp only [setF, if_neg ne.symm]; exact e2
      · unfold setF; split
        · exact .nil
        · exact s.fr j
      · unfold setF at hj hk
        split at hj
        · cases hj
        · split at hk
          · cases hk
          · exact s.dj j k a hj hk
    · unfold setF at m
      split at m
      · cases m
      · rename_i ne
        exact ne (s.dj j i a m m')
/-- a test -/
theorem bf_ok {se : Env → R Bool} {Q : Bool → Hp → Prop} (s : SL c K n J0 H0 J H σ env Fs) (h : OutB c K n J0 H0 W J σ env Q (toBR env (se env))) : tSB c K W se σ H Q := by
  refine ⟨_, env, (s.ext_frP (p := fun _ => true)).good, s.rsenvA, ?_⟩
  cases q : se env with
  | bad => rw [q] at h; exact h
  | err x => rw [q] at h; exact ErV.post s h
  | ok b =>
    rw [q] at h
    exact fun J' H' e => h _ H' Fs (s.back e) (s.same_unf e)
theorem ir_ok {se : Env → R (List T)} {Q : L2.It → Hp → Prop} (s : SL c K n J0 H0 J H σ env Fs) (h : OutL c K n J0 H0 W J σ Q (toLR env env (se env))) : tSR c K W se σ H Q := by
  refine ⟨_, env, (s.ext_frP (p := fun _ => true)).good, s.rsenvA, ?_⟩
  cases q : se env with
  | bad => rw [q] at h; exact h
  | err x => rw [q] at h; exact ErV.post s h
  | ok b =>
    rw [q] at h
    exact fun it J' H' e wk => h it _ _ H' Fs (s.back e) (s.same_unf e) (wk _) (Same.refl _)
theorem if_ok {se : Env → R (List T)} {Q : L2.It → Hp → Prop} {fv : List Nat} (s : SL c K n J0 H0 J H σ env Fs) (h : OutL c K n J0 H0 W J σ Q (toLR env (frS fv env) (se (keepS fv env)))) : tSI c K W se σ H Q := by
  refine ⟨_, keepS fv env, (s.ext_frP (p := fun i => fv.contains i)).good, s.rsenv (fun i => fv.contains i), ?_⟩
  cases q : se (keepS fv env) with
  | bad => rw [q] at h; exact h
  | err x => rw [q] at h; exact ErV.post s h
  | ok b =>
    rw [q] at h
    exact fun it J' H' e wk => h it J' J' H' _ ((s.frz fun i => fv.contains i).step e) (s.same_frP.trans e.jj) wk (Same.refl _)
end
section
variable {c : CA} {C : Calls} {G : Gc} {W : WX} {k : Nat} {X : Cx} {n : NZ}
def chkL (G : Gc) : Lf → Expr → Bool
  | .mv i, e => chkE G (.var i) e
  | .rd x, e => chkE G x e
  | .es _ x, e => chkE G x e
theorem sound_L (ok : CtxOk c C G W k X) : ∀ (l : Lf) (e : Expr), chkL G l e = true → PE X e (tLf c X.K W n fun env => evL C env l)
  | .rd x, e, h => pe_of (sound x G W X e ok h).1 fun σ H Q ⟨J0, H0, J, env, Fs, s, o⟩ => rd_ok (n := n) s o
  | .es fv x, e, h => pe_of (sound x G W X e ok h).1 fun σ H Q ⟨J0, H0, J, env, Fs, s, o⟩ => es_ok (n := n) (fv := fv) s o
  | .mv i, e, h => by
    simp only [chkL, chkE] at h
    split at h
    · simp only [Bool.and_eq_true, decide_eq_true_eq] at h
      obtain ⟨⟨h1, h2⟩, h3⟩ := h
      obtain ⟨d1, d2, _⟩ := nodbg_of h3
      exact pe_of (pe_var (by rw [ok.hN]; exact h1) (vis_of ok h2) d1 d2) fun σ H Q ⟨J0, H0, J, env, Fs, s, o⟩ => mv_ok (n := n) s o
    · cases h
theorem sound_B (ok : CtxOk c C G W k X) (x : IE) (e : Expr) (h : chkE G x e = true) (ht : tst e = true) : PT X e (tBf c X.K W n fun env => evC C env x) :=
  pt_of ((sound x G W X e ok h).2 ht) fun σ H Q ⟨J0, H0, J, env, Fs, s, o⟩ => bf_ok (n := n) s o
theorem sound_It (ok : CtxOk c C G W k X) (it : It') (fv : List Nat) (t e : Expr) (h : chkI G it t e = true) : PI X t e (tIf' c X.K W n fun env => evI C env fv it) := by
  cases it with
  | rng1 a =>
    simp only [chkI] at h
    split at h
    · simp only [Bool.and_eq_true, decide_eq_true_eq] at h
      obtain ⟨⟨⟨h1, h2⟩, h3⟩, h4⟩ := h
      subst h1
      exact pi_of (pi_rng1R ok (gl_of ok h2) h3 (sound a G W X _ ok h4).1) fun σ H Q ⟨J0, H0, J, env, Fs, s, o⟩ => ir_ok (n := n) s (by simpa only [evI, isRng, if_true, evi] using o)
    · cases h
  | rng2 a b =>
    simp only [chkI] at h
    split at h
    · simp only [Bool.and_eq_true, decide_eq_true_eq] at h
      obtain ⟨⟨⟨⟨⟨h1, h2⟩, h3⟩, h4⟩, h5⟩, h6⟩ := h
      subst h1
      exact pi_of (pi_rng2R ok (gl_of ok h2) h3 h4 (sound a G W X _ ok h5).1 (sound b G W X _ ok h6).1) fun σ H Q ⟨J0, H0, J, env, Fs, s, o⟩ => ir_ok (n := n) s (by simpa only [evI, isRng, if_true, evi] using o)
    · cases h
  | seq a => exact pi_of (soundI (.seq a) G W X t e ok h) fun σ H Q ⟨J0, H0, J, env, Fs, s, o⟩ => if_ok (n := n) (fv := fv) s o
  | enm a => exact pi_of (soundI (.enm a) G W X t e ok h) fun σ H Q ⟨J0, H0, J, env, Fs, s, o⟩ => if_ok (n := n) (fv := fv) s o
  | zp a b => exact pi_of (soundI (.zp a b) G W X t e ok h) fun σ H Q ⟨J0, H0, J, env, Fs, s, o⟩ => if_ok (n := n) (fv := fv) s o
end
end Rb
/-! Paths in statements; objects written anew. -/
namespace Rb
open PySem
open PySem.Spec
open PyProof.Rows
open L2
def idxK {κ : Type} [DecidableEq κ] : List κ → κ → Option Nat
  | [], _ => none
  | k :: ks, q => if k = q then some 0 else (idxK ks q).map (· + 1)
def stepI : T → T → Option Nat
  | .nd .lst true xs, .int i => ixN xs.length i
  | .nd (.dk ks) true _, k => match keyT k with
    | some q => idxK ks q
    | none => none
  | .nd (.dt ks) true _, .nd .tup _ ys => match keysT ys with
    | some q => idxK ks q
    | none => none
  | _, _ => none
def kidN : T → Nat → Option T
  | .nd _ _ xs, j => xs[j]?
  | _, _ => none
def nxt (p : List Nat × T) (k : T) : R (List Nat × T) := if own k then match stepI p.2 k with
  | some j => match kidN p.2 j with
    | some x => .ok (p.1 ++ [j], x)
    | none => .bad
  | none => .bad else .bad
/-- the way of a path: the indices, the last first -/
def resR (C : Calls) (env : Env) (t : T) : List IE → R (List Nat × T)
  | [] => .ok ([], t)
  | e :: r => do
    let p ← resR C env t r
    let k ← ev C env e
    nxt p k
theorem idx_val {κ : Type} [DecidableEq κ] {q : κ} {vs : List V} : ∀ {ks : List κ} {vs : List V}, ks.length = vs.length → valV (ks.zip vs) q = (idxK ks q).bind fun j => vs[j]?
  | [], [], _ => rfl
  | k :: ks, v :: vs, h => by
    rw [List.zip_cons_cons]
    by_cases e : k = q
    · rw [valV_pos (p := (k, v)) e]
      simp [idxK, e]
    · rw [valV_neg (p := (k, v)) e, idx_val (vs := vs) (by simpa using h)]
      simp only [idxK, if_neg e]
      cases idxK ks q <;> simp
  | [], _ :: _, h => by simp at h
  | _ :: _, [], h => by simp at h
theorem nodeAt_snoc : ∀ {is : List Nat} {t u : T} {g : Tag} {xs : List T} {j : Nat}, nodeAt is t = some (.nd g true xs) → xs[j]? = some u → nodeAt (is ++ [j]) t = some u
  | [], t, u, g, xs, j, h, e => by
    simp only [nodeAt] at h; cases h
    simp only [List.nil_append, nodeAt, e]
  | i :: is, t, u, g, xs, j, h, e => by
    simp only [nodeAt] at h
    split at h
    · split at h
      · rename_i y ey
        simp only [List.cons_append, nodeAt, ey]
        exact nodeAt_snoc h e
      · cases h
    · cases h
theorem vAt_snoc {H : Hp} {a : Addr} {vs : List V} {w : V} {j : Nat} : ∀ {is : List Nat} {v : V}, vAt H is v = some (.ref a) → kidsV (H a) = some vs → vs[j]? = some w → vAt H (is ++ [j]) v = some w
  | [], v, h, hk, e => by
    simp only [vAt] at h; cases h
    simp only [List.nil_append, vAt, hk, e]
  | i :: is, v, h, hk, e => by
    simp only [vAt] at h
    split at h
    · split at h
      · rename_i ws ew
        split at h
        · rename_i y ey
          simp only [List.cons_append, vAt, ew, ey]
          exact vAt_snoc h hk e
        · cases h
      · cases h
    · cases h
theorem vAt_mono {H H' : Hp} (s : Same H H') : ∀ {is : List Nat} {v w : V}, vAt H is v = some w → vAt H' is v = some w
  | [], v, w, h => h
  | i :: is, v, w, h => by
    simp only [vAt] at h
    split at h
    · rename_i a
      split at h
      · rename_i ws ew
        split at h
        · rename_i y ey
          have : kidsV (H' a) = some ws := by
            cases q : H a with
            | none => rw [q] at ew; simp [kidsV] at ew
            | some o => rw [s _ _ q, ← q]; exact ew
          simp only [vAt, this, ey]
          exact vAt_mono s h
        · cases h
      · cases h
    · cases h
theorem kidN_get {g : Tag} {o : Bool} {xs : List T} {j : Nat} {x : T} (h : kidN (.nd g o xs) j = some x) : xs[j]? = some x := h
section
variable {c : CA} {K : PySem.W.Frag} {n : NZ} {J0 H0 J H : Hp} {σ : L2.St} {env : Env} {Fs : Nat → List Addr} {W : WX}
theorem SL.focus (s : SL c K n J0 H0 J H σ env Fs) {i : Nat} {t : T} {v : V} (hv : getS env i = some t) (hσ : σ[i]? = some (some v)) {is : List Nat} {g : Tag} {xs : List T} (gn : g ≠ .tup) (hn : nodeAt is t = some (.nd g true xs)) :
    ∃ a vs Fx, Foc c K J H is t v (Fs i) g xs a vs Fx := by
  obtain ⟨w, e, r⟩ := s.sl i t hv
  rw [hσ] at e; cases e
  exact RO.focus s.ext.good.sub gn is t v (Fs i) r (s.fr i).nd (s.fr i).out hn
theorem SL.write (s : SL c K n J0 H0 J H σ env Fs) {i : Nat} {t : T} {v : V} (hv : getS env i = some t) (hσ : σ[i]? = some (some v)) {is : List Nat} {g : Tag} {xs : List T} {a : Addr} {vs : List V} {Fx : List Addr} (f : Foc c K J H is t v (Fs i) g xs a vs Fx)
    {o : HO} {g' : Tag} {xs' : List T} {vs' : List V} {Fx' Fw : List Addr} (no : ∀ ys, o ≠ .tup ys) (ha : AtO c K (upd H a o) a g' vs') (gn' : g' ≠ .tup) (ro : ROs c K J (upd H a o) xs' vs' Fx') (nd : Fx'.Nodup) (sb : ∀ b ∈ Fx', b ∈ Fx ∨ b ∈ Fw) (fw : Fr H0 J H Fw) (dw : ∀ j b, b ∈ Fs j → b ∉ Fw) :
    ∃ Fs', SL c K n J0 H0 J (upd H a o) σ (env.set i (some (putAt is (.nd g' true xs') t))) Fs' := by
  have am : a ∈ Fs i := f.sub a List.mem_cons_self
  have a0 : H0 a = none := (s.fr i).new a am
  have naFx : a ∉ Fx := (List.nodup_cons.mp f.nd).1
  obtain ⟨F', r', nd', sb'⟩ := f.put (upd H a o) g' xs' vs' Fx' (fun b _ ne => upd_ne ne) ha gn' ro (List.nodup_cons.mpr ⟨fun m => (sb a m).elim naFx (dw i a am), nd⟩) (fun b m => (sb b m).imp id fun z m' => dw i b m' z)
  have sub2 : ∀ b ∈ F', b ∈ Fs i ∨ b ∈ Fw := fun b m => (sb' b m).elim .inl fun z => (sb b z).elim (fun y => .inl (f.sub b (List.mem_cons_of_mem _ y))) .inr
  have there : ∀ b, H b ≠ none → upd H a o b ≠ none := fun b h => by
    by_cases e : b = a
    · subst e; rw [upd_same]; exact fun z => by cases z
    · rw [upd_ne e]; exact h
  have frOld : ∀ j, Fr H0 J (upd H a o) (Fs j) := fun j => ⟨(s.fr j).new, (s.fr j).out, fun b m => there b ((s.fr j).there b m), (s.fr j).nd⟩
  refine ⟨setF Fs i F', s.ext.setD a0 f.out no, s.len, fun j u h => ?_, fun j => ?_, fun j k b hj hk => ?_⟩
  · rcases getS_set h with ⟨rfl, z⟩ | ⟨ne, z⟩
    · cases z
      refine ⟨v, hσ, ?_⟩
      simp only [setF, if_true]; exact r'
    · obtain ⟨w, e, q⟩ := s.sl j u z
      refine ⟨w, e, ?_⟩
      simp only [setF, if_neg ne.symm]
      exact RO.mono (Same.refl J) u w (Fs j) (fun b m => ⟨(s.fr j).out b m, upd_ne fun e => ne (s.dj i j a am (e ▸ m))⟩) q
  · unfold setF; split
    · refine ⟨fun b m => ?_, fun b m => ?_, fun b m => ?_, nd'⟩
      · rcases sub2 b m with z | z
        · exact (s.fr i).new b z
        · exact fw.new b z
      · rcases sub2 b m with z | z
        · exact (s.fr i).out b z
        · exact fw.out b z
      · rcases sub2 b m with z | z
        · exact there b ((s.fr i).there b z)
        · exact there b (fw.there b z)
    · exact frOld j
  · unfold setF at hj hk
    by_cases e1 : j = i
    · rw [if_pos e1] at hj
      by_cases e2 : k = i
      · rw [e1, e2]
      · rw [if_neg e2] at hk
        rcases sub2 b hj with z | z
        · rw [e1]; exact s.dj i k b z hk
        · exact absurd z (dw k b hk)
    · rw [if_neg e1] at hj
      by_cases e2 : k = i
      · rw [if_pos e2] at hk
        rcases sub2 b hk with z | z
        · rw [e2]; exact s.dj j i b hj z
        · exact absurd z (dw j b hj)
      · rw [if_neg e2] at hk; exact s.dj j k b hj hk
end
section
variable (c : CA) (K : PySem.W.Frag) (W : WX) (n : NZ) (i : Nat)
def OutP (J0 H0 Jb Hb : Hp) (σ : L2.St) (env : Env) (Fs : Nat → List Addr) (Q : VK) : R (List Nat × T) → Prop
  | .ok p => ∀ v w J H, SL c K n J0 H0 J H σ env Fs → Ext Jb Hb J H → σ[i]? = some (some v) → vAt H p.1 v = some w → Q w H
  | .err x => ErV c K n J0 H0 Jb σ env x W
  | .bad => False
/-- where a path begins -/
def resS (C : Calls) (env : Env) (i : Nat) (ps : List IE) : R (List Nat × T) := match getS env i with
  | some t => resR C env t ps
  | none => .bad
def tPth (C : Calls) (ps : List IE) : TE := fun σ H Q => ∃ (J0 H0 J : Hp) (env : Env) (Fs : Nat → List Addr), SL c K n J0 H0 J H σ env Fs ∧ OutP c K W n i J0 H0 J H σ env Fs Q (resS C env i ps)
end
def chkPth (G : Gc) (i : Nat) : List IE → Expr → Bool
  | [], e => chkE G (.var i) e
  | x :: r, e => match e with
    | .Subscript o y _ => plainX y && chkE G x y && chkPth G i r o
    | _ => false
section
variable {c : CA} {K : PySem.W.Frag} {n : NZ} {J0 H0 J H : Hp} {σ : L2.St} {env : Env} {Fs : Nat → List Addr} {W : WX}
theorem resR_node {C : Calls} {t : T} : ∀ {r : List IE} {is : List Nat} {u : T}, resR C env t r = .ok (is, u) → nodeAt is t = some u
  | [], is, u, h => by simp only [resR] at h; cases h; rfl
  | e :: r, is, u, h => by
    simp only [resR] at h
    obtain ⟨p, h1, h2⟩ := R.bind_ok h
    obtain ⟨k, h3, h4⟩ := R.bind_ok h2
    obtain ⟨is0, u0⟩ := p
    unfold nxt at h4
    split at h4
    · split at h4
      · rename_i j hj
        split at h4
        · rename_i x hx
          cases h4
          have := resR_node (is := is0) (u := u0) h1
          simp only at hj hx
          unfold stepI at hj
          split at hj
          · exact nodeAt_snoc this (kidN_get hx)
          · exact nodeAt_snoc this (kidN_get hx)
          · exact nodeAt_snoc this (kidN_get hx)
          · cases hj
        · cases h4
      · cases h4
    · cases h4
theorem out_p {r : R (List Nat × T)} {f : List Nat × T → R (List Nat × T)} {Q Q' : VK} {i : Nat} (h : OutP c K W n i J0 H0 J H σ env Fs Q (r >>= f))
    (k : ∀ p, r = .ok p → OutP c K W n i J0 H0 J H σ env Fs Q (f p) → OutP c K W n i J0 H0 J H σ env Fs Q' (.ok p)) : OutP c K W n i J0 H0 J H σ env Fs Q' r := by
  cases r with
  | ok p => exact k p rfl h
  | err x => exact h
  | bad => exact h
end
/-- an item of a list or a dict, by values -/
def rItP (K : PySem.W.Frag) : R2 := fun x y H Q => rIxL K x y H Q ∨ ∃ d z, x = .ref d ∧ DGet H d y (some z) ∧ Q z H
theorem ix_P {X : Cx} (hu : X.A.units + 1 < cLine) : IxR X (rItP X.K) := by
  intro value slice pins s σ H x y v u Q I rx ry h hs
  rcases h with h | ⟨d, z, rfl, dg, q⟩
  · exact ix_list value slice pins s σ H _ _ v u Q I rx ry h hs
  · exact ix_dict hu value slice pins s σ H _ _ v u Q I rx ry ⟨d, z, rfl, dg, q⟩ hs
section
variable {c : CA} {C : Calls} {G : Gc} {W : WX} {k : Nat} {X : Cx} {n : NZ}
theorem sound_Pth (ok : CtxOk c C G W k X) (i : Nat) : ∀ (ps : List IE) (e : Expr), chkPth G i ps e = true → PE X e (tPth c X.K W n i C ps)
  | [], e, h => by
    simp only [chkPth, chkE] at h
    split at h
    · simp only [Bool.and_eq_true, decide_eq_true_eq] at h
      obtain ⟨⟨h1, h2⟩, h3⟩ := h
      obtain ⟨d1, d2, _⟩ := nodbg_of h3
      refine pe_of (pe_var (by rw [ok.hN]; exact h1) (vis_of ok h2) d1 d2) fun σ H Q ⟨J0, H0, J, env, Fs, s, o⟩ => ?_
      unfold resS at o
      split at o
      · rename_i t ht
        obtain ⟨v, e1, _⟩ := s.sl i t ht
        exact ⟨v, e1, o v v J H s (Ext.refl s.ext.good) e1 rfl⟩
      · exact o.elim
    · cases h
  | x :: r, e, h => by
    simp only [chkPth] at h
    split at h
    · simp only [Bool.and_eq_true] at h
      obtain ⟨⟨h1, h2⟩, h3⟩ := h
      refine pe_of (pe_ix (ix_P (by have := ok.hu; omega)) (sound_Pth ok i r _ h3) (sound x G W X _ ok h2).1 (plainIx h1)) fun σ H Q ⟨J0, H0, J, env, Fs, s, o⟩ => ?_
      unfold resS at o
      split at o
      · rename_i t ht
        simp only [resR] at o
        refine ⟨J0, H0, J, env, Fs, s, ?_⟩
        have o2 := out_p o (Q' := fun x1 H1 => tS c X.K W (fun env => ev C env x) σ H1 fun y H2 => rItP X.K x1 y H2 Q) ?_
        · unfold resS; rw [ht]; exact o2
        · intro p hp o3 v w J1 H1 s1 sx hσ hva
          replace o3 : OutP c X.K W n i J0 H0 J H σ env Fs Q (ev C env x >>= fun k => nxt p k) := o3
          refine ⟨_, env, (s1.ext_frP (p := fun _ => true)).good, s1.rsenvA, ?_⟩
          show Out c X.K _ H1 (ev C env x) _ _
          cases q : ev C env x with
          | bad => rw [q] at o3; exact o3
          | err z =>
            rw [q] at o3
            exact ErV.post s1 fun cls d J' H' Fs' a b c' => o3 cls d J' H' Fs' a (sx.jj.trans b) c'
          | ok kt =>
            rw [q] at o3
            replace o3 : OutP c X.K W n i J0 H0 J H σ env Fs Q (nxt p kt) := o3
            unfold nxt at o3
            split at o3
            · rename_i hown
              split at o3
              · rename_i j hj
                split at o3
                · rename_i y hy
                  intro y1 J2 H2 F2 e2 f2 r2
                  obtain ⟨r3, f3⟩ := s1.own_back e2 f2 hown r2
                  have s2 := s1.back e2
                  have hn := resR_node (is := p.1) (u := p.2) hp
                  have fin : ∀ {g : Tag} {xs : List T} {a : Addr} {vs : List V} {z : V}, p.2 = .nd g true xs → w = .ref a → AtO c X.K H2 a g vs → vs[j]? = some z → Q z H2 := fun {g xs a vs z} hp2 hw ha hz => by
                    refine o3 v z _ H2 s2 (sx.trans (s1.ext_unf e2)) hσ ?_
                    subst hw
                    exact vAt_snoc (vAt_mono e2.hh hva) (kids_of ha) hz
                  have foc : ∀ {g : Tag} {xs : List T}, g ≠ .tup → p.2 = .nd g true xs → ∃ (a : Addr) (vs : List V), w = .ref a ∧ AtO c X.K H2 a g vs ∧ xs.length = vs.length := fun {g xs} gn hp2 => by
                    rw [hp2] at hn
                    obtain ⟨a, vs, Fx, f⟩ := s2.focus ht hσ gn hn
                    have := f.val
                    rw [vAt_mono e2.hh hva] at this
                    cases this
                    exact ⟨a, vs, rfl, f.at_, f.kids.length⟩
                  obtain ⟨pis, pt⟩ := p
                  simp only at hj hy fin foc
                  unfold stepI at hj
                  split at hj
                  · rename_i xs i0
                    obtain ⟨a, vs, rfl, ha, hl⟩ := foc (by decide) rfl
                    simp only [RO] at r3
                    obtain ⟨rfl, _⟩ := r3
                    rw [hl] at hj
                    have hjv : ∃ z, vs[j]? = some z := by
                      have hjlt := (ixN_seq hj).2.1
                      exact ⟨vs[j], List.getElem?_eq_getElem hjlt⟩
                    obtain ⟨z, hz⟩ := hjv
                    exact .inl ⟨a, vs, i0, z, rfl, rfl, SqL.of ha, by unfold atI; rw [hj]; exact hz, fin rfl rfl ha hz⟩
                  · rename_i ks xs
                    split at hj
                    · rename_i q0 hq0
                      obtain ⟨a, vs, rfl, ha, hl⟩ := foc (by intro z; cases z) rfl
                      have hy2 := kidN_get hy
                      have hjv : ∃ z, vs[j]? = some z := by
                        have := (List.getElem?_eq_some_iff.mp hy2).1
                        exact ⟨vs[j]'(by omega), List.getElem?_eq_getElem (by omega)⟩
                      obtain ⟨z, hz⟩ := hjv
                      refine .inr ⟨a, z, rfl, ?_, fin rfl rfl ha hz⟩
                      have rk : RS c X.K (unf J2 (FP (fun _ => true) Fs)) kt y1 := by
                        have : flat kt = true := by
                          unfold keyT at hq0
                          split at hq0 <;> first | rfl | cases hq0
                        exact (flat_ro kt y1 F2 this r3).2
                      rw [keyT_rs rk hq0]
                      have := DGet.k (k := q0) ha.1
                      rwa [idx_val (vs := vs) ha.2, hj, Option.bind_some, hz] at this
                    · cases hj
                  · rename_i ks xs o' ys
                    split at hj
                    · rename_i q0 hq0
                      obtain ⟨a, vs, rfl, ha, hl⟩ := foc (by intro z; cases z) rfl
                      have hy2 := kidN_get hy
                      have hjv : ∃ z, vs[j]? = some z := by
                        have := (List.getElem?_eq_some_iff.mp hy2).1
                        exact ⟨vs[j]'(by omega), List.getElem?_eq_getElem (by omega)⟩
                      obtain ⟨z, hz⟩ := hjv
                      refine .inr ⟨a, z, rfl, ?_, fin rfl rfl ha hz⟩
                      have ff : ∀ {l : List T} {q : List Key}, keysT l = some q → flats l = true := by
                        intro l
                        induction l with
                        | nil => intro q _; rfl
                        | cons t l ih =>
                          intro q h
                          simp only [keysT] at h
                          split at h
                          · rename_i k1 k2 e1 e2
                            simp only [flats, Bool.and_eq_true]
                            refine ⟨?_, ih e2⟩
                            unfold keyT at e1
                            split at e1 <;> first | rfl | cases e1
                          · cases h
                      have fl : flat (.nd .tup o' ys) = true := by simp only [flat]; exact ff hq0
                      have rk := (flat_ro _ y1 F2 fl r3).2
                      obtain ⟨b, ws, rfl, j2, hb2, q2⟩ := rs_tup s2.ext.good rk
                      have := DGet.t (k := q0) ha.1 (b := b) (by rw [hb2, keysT_rs q2 hq0])
                      rwa [idx_val (vs := vs) ha.2, hj, Option.bind_some, hz] at this
                    · cases hj
                  · cases hj
                · exact o3.elim
              · exact o3.elim
            · exact o3.elim
      · exact o.elim
    · cases h
end
end Rb
/-! Statements: what they do. -/
namespace Rb
open PySem
open PySem.Spec
open PyProof.Rows
open L2
inductive IS where
  | pas | brk | cnt | nev | retN
  | asg (p : Pat) (l : Lf)
  | aug (i : Nat) (add : Bool) (e : IE)
  | ext (i : Nat) (l : Lf)
  | app (i : Nat) (ps : List IE) (l : Lf)
  | put (i : Nat) (ps : List IE) (k : IE) (l : Lf)
  | clr (i : Nat) (ps : List IE)
  | ret (l : Lf)
  | exp (e : IE)
  | iff (c : IE) (a b : List IS)
  | floop (p : Pat) (ow : Bool) (fv : List Nat) (it : It') (kl : List Nat) (b : List IS)
  | whl (c : IE) (kl : List Nat) (b : List IS)
  | fld (f : String) (l : Lf)
  | par (i j : Nat) (a b : IE)
  | pop0 (i j : Nat)
inductive SR where
  | nx (env : Env) | rt (t : T) | bk (env : Env) | ct (env : Env) | er (x : Exn) (env : Env) | bad
def SR.seq (r : SR) (f : Env → SR) : SR := match r with
  | .nx env => f env
  | .rt t => .rt t
  | .bk env => .bk env
  | .ct env => .ct env
  | .er x env => .er x env
  | .bad => .bad
def VR.go (r : VR) (f : T → Env → SR) : SR := match r with
  | .ok t env => f t env
  | .er x env => .er x env
  | .bad => .bad
def BR.go (r : BR) (f : Bool → SR) : SR := match r with
  | .ok b => f b
  | .er x env => .er x env
  | .bad => .bad
def LR.go (r : LR) (f : List T → Env → SR) : SR := match r with
  | .ok ts env => f ts env
  | .er x env => .er x env
  | .bad => .bad
def optS : Option Env → SR
  | some env => .nx env
  | none => .bad
def asgT (p : Pat) (t : T) (env : Env) : Option Env := match p with
  | .nm i => some (env.set i (some t))
  | .tp ps => asgP (.tp ps) (strip t) env
def forGo (p : Pat) (kl : List Nat) (f : Env → SR) : List T → Env → SR
  | [], env => .nx env
  | t :: ts, env => match asgP p (strip t) env with
    | none => .bad
    | some e1 => match f e1 with
      | .nx e2 => forGo p kl f ts (kill kl e2)
      | .ct e2 => forGo p kl f ts (kill kl e2)
      | .bk e2 => .nx (kill kl e2)
      | .rt t => .rt t
      | .er x e => .er x e
      | .bad => .bad
def whGo (cd : Env → BR) (kl : List Nat) (f : Env → SR) : Nat → Env → SR
  | 0, _ => .bad
  | n + 1, env => match cd env with
    | .ok true => match f env with
      | .nx e2 => whGo cd kl f n (kill kl e2)
      | .ct e2 => whGo cd kl f n (kill kl e2)
      | .bk e2 => .nx (kill kl e2)
      | .rt t => .rt t
      | .er x e => .er x e
      | .bad => .bad
    | .ok false => .nx env
    | .er x e => .er x e
    | .bad => .bad
def wFuel : Nat := 1000000000
def resGo (r : R (List Nat × T)) (env : Env) (f : List Nat → T → SR) : SR := match r with
  | .ok p => f p.1 p.2
  | .err x => .er x env
  | .bad => .bad
def augT (add : Bool) (a : Int) : T → Option T
  | .int b => some (.int (if add then a + b else a - b))
  | _ => none
def isLst : T → Bool
  | .nd .lst true _ => true
  | _ => false
def appT : T → T → Option T
  | .nd .lst true xs, u => if xs.length < sizeLine then some (.nd .lst true (xs ++ [u])) else none
  | _, _ => none
def extT : Option T → T → Option T
  | some (.nd .lst true xs), .nd .lst o ys => if xs.length + ys.length ≤ sizeLine then some (.nd .lst true (xs ++ if o then ys else strips ys)) else none
  | _, _ => none
def putTr : T → T → T → Option T
  | .nd .lst true xs, .int i, u => match ixN xs.length i with
    | some j => some (.nd .lst true (xs.set j u))
    | none => none
  | .nd (.dk ks) true xs, k, u => match keyT k with
    | some q => if decide (ks.length < sizeLine) && (!memK q ks || decide ks.Nodup) then some (.nd (.dk (putT ks xs q u).1) true (putT ks xs q u).2) else none
    | none => none
  | .nd (.dt ks) true xs, .nd .tup _ ys, u => match keysT ys with
    | some q => if decide (ks.length < sizeLine) && (!memK q ks || decide ks.Nodup) then some (.nd (.dt (putT ks xs q u).1) true (putT ks xs q u).2) else none
    | none => none
  | _, _, _ => none
def clrT : T → Option T
  | .nd .lst true _ => some (.nd .lst true [])
  | .nd (.dk _) true _ => some (.nd (.dk []) true [])
  | _ => none
/-- a node of a slot is written anew -/
def modS (env : Env) (i : Nat) (is : List Nat) (f : T → Option T) : SR := match getS env i with
  | some t => match nodeAt is t with
    | some u => match f u with
      | some w => .nx (env.set i (some (putAt is w t)))
      | none => .bad
    | none => .bad
  | none => .bad
def fldT (C : Calls) (f : String) (u : T) : T → Option T
  | .nd (.obj cn fs) true xs => if C.fld cn f && decide (fs.length < 1000) && (!memK f fs || decide fs.Nodup) then some (.nd (.obj cn (putT fs xs f u).1) true (putT fs xs f u).2) else none
  | _ => none
def evF (C : Calls) (env : Env) (ow : Bool) (fv : List Nat) (it : It') : LR := match ow, it with
  | true, .seq e => evIo C env e
  | true, _ => .bad
  | false, it => evI C env fv it
mutual
def exec (C : Calls) : IS → Env → SR
  | .pas, env => .nx env
  | .brk, env => .bk env
  | .cnt, env => .ct env
  | .nev, _ => .bad
  | .retN, _ => .rt .non
  | .asg p l, env => (evL C env l).go fun t e => optS (asgT p t e)
  | .aug i add e, env => match getS env i with
    | some (.int a) => (evL C env (.rd e)).go fun t e => optS ((augT add a t).map fun u => e.set i (some u))
    | _ => .bad
  | .ext i l, env => match getS env i with
    | some _ => (evL C env l).go fun t e => optS ((extT (getS e i) t).map fun u => e.set i (some u))
    | none => .bad
  | .app i ps l, env => resGo (resS C env i ps) env fun is u => if isLst u then (evL C env l).go fun t e => modS e i is fun w => appT w t else .bad
  | .put i ps k l, env => (evL C env l).go fun t e => resGo (resS C e i ps) e fun is _ => (evL C e (.rd k)).go fun q e2 => modS e2 i is fun w => putTr w q t
  | .clr i ps, env => resGo (resS C env i ps) env fun is _ => modS env i is clrT
  | .ret l, env => (evL C env l).go fun t _ => .rt t
  | .exp e, env => match ev C env e with
    | .ok _ => .nx env
    | .err x => .er x env
    | .bad => .bad
  | .iff c a b, env => (evC C env c).go fun k => if k then execs C a env else execs C b env
  | .floop p ow fv it kl b, env => (evF C env ow fv it).go fun ts e => forGo p kl (fun e => execs C b e) ts e
  | .whl c kl b, env => whGo (fun e => evC C e c) kl (fun e => execs C b e) wFuel env
  | .fld f l, env => (evL C env l).go fun t e => modS e 0 [] (fldT C f t)
  | .par i j a b, env => match evs C env [a, b] with
    | .ok [t, u] => if own t && own u && decide (i ≠ j) then .nx ((env.set i (some t)).set j (some u)) else .bad
    | .err x => .er x env
    | _ => .bad
  | .pop0 i j, env => match getS env j with
    | some (.nd .lst true (x :: xs)) => if atomT x && decide (i ≠ j) then .nx ((env.set j (some (.nd .lst true xs))).set i (some x)) else .bad
    | _ => .bad
def execs (C : Calls) : List IS → Env → SR
  | [], env => .nx env
  | s :: ss, env => (exec C s env).seq fun e => execs C ss e
end
/-! ### the checker -/
def swT (y : Str) (py : Pos) : Expr → Bool
  | .ListComp _ _ sc pos => (py.line == pos.line) && !(sc.names.any fun (n, k) => n == y && (k == .local || k == .cell))
  | .SetComp _ _ sc pos => (py.line == pos.line) && !(sc.names.any fun (n, k) => n == y && (k == .local || k == .cell))
  | .DictComp _ _ _ sc pos => (py.line == pos.line) && !(sc.names.any fun (n, k) => n == y && (k == .local || k == .cell))
  | _ => false
theorem sw_false {e : Expr} {y : Str} {py : Pos} {l : Nat} {env : PySem.Env} (h : swT y py e = false) : swapsWith e (some (.Name y py)) l env = pure false := by
  have key : ∀ (a b c d : Bool), (c && d) = false → (a && b && c && d) = false := by decide
  cases e with
  | ListComp elt gs sc pos =>
    unfold swapsWith
    exact congrArg pure (key _ _ _ _ h)
  | SetComp elt gs sc pos =>
    unfold swapsWith
    exact congrArg pure (key _ _ _ _ h)
  | DictComp a b gs sc pos =>
    unfold swapsWith
    exact congrArg pure (key _ _ _ _ h)
  | _ => rfl
theorem sw_cell {e : Expr} {y : Str} {py : Pos} {l : Nat} {env : PySem.Env} (h : env.scope.names.lookup y = some .cell) : swapsWith e (some (.Name y py)) l env = pure false := by
  have hk : env.kindOf y = some .cell := h
  have key : ∀ (a c d : Bool), (a && (some NameKind.cell == some NameKind.local) && c && d) = false := by decide
  cases e with
  | ListComp elt gs sc pos =>
    unfold swapsWith
    rw [← hk] at key
    exact congrArg pure (key _ _ _)
  | SetComp elt gs sc pos =>
    unfold swapsWith
    rw [← hk] at key
    exact congrArg pure (key _ _ _)
  | DictComp a b gs sc pos =>
    unfold swapsWith
    rw [← hk] at key
    exact congrArg pure (key _ _ _)
  | _ => rfl
theorem sw_other {e t : Expr} {l : Nat} {env : PySem.Env} (h : ∀ x p, t ≠ .Name x p) : swapsWith e (some t) l env = pure false := by
  cases e <;> first | rfl | (cases t <;> first | rfl | exact absurd rfl (h _ _))
theorem sw_none {e : Expr} {l : Nat} {env : PySem.Env} (h : (match e with | .ListComp _ _ _ _ => false | .SetComp _ _ _ _ => false | .DictComp _ _ _ _ _ => false | _ => true) = true) : swapsWith e none l env = pure false := by
  cases e <;> first | rfl | (simp at h)
def notComp : Expr → Bool
  | .ListComp _ _ _ _ => false
  | .SetComp _ _ _ _ => false
  | .DictComp _ _ _ _ _ => false
  | _ => true
def notTup : Expr → Bool
  | .Tuple _ _ _ => false
  | _ => true
def isCompL : Lf → Bool
  | .rd (.lc _ _ _ _) => true
  | .rd (.dc _ _ _ _ _) => true
  | .es _ (.lc _ _ _ _) => true
  | .es _ (.dc _ _ _ _ _) => true
  | _ => false
def Gc.lc (G : Gc) (x : Str) : Bool := decide (G.osc.names.lookup x = some .local) && (match G.osc.kind with | .function => true | _ => false)
def Gc.ce (G : Gc) (x : Str) : Bool := match G.osc.names.lookup x with
  | some .cell => true
  | _ => false
mutual
def nozP : Pat → Bool
  | .nm i => decide (i ≠ 0)
  | .tp ps => nozPs ps
def nozPs : List Pat → Bool
  | [] => true
  | p :: ps => nozP p && nozPs ps
end
mutual
def chkS (G : Gc) : IS → Stmt → Bool
  | .pas, s => match s with
    | .Pass _ => true
    | .Expr (.Constant (.str _) _ _) _ => true
    | _ => false
  | .brk, s => match s with
    | .Break _ => true
    | _ => false
  | .cnt, s => match s with
    | .Continue _ => true
    | _ => false
  | .nev, _ => true
  | .retN, s => match s with
    | .Return none _ => true
    | _ => false
  | .asg p l, s => match s with
    | .Assign [t] e _ => match p, t with
      | .nm i, .Name y py => decide (G.N[i]? = some y) && G.loc y && chkL G l e && (!swT y py e || (G.lc y && isCompL l) || G.ce y) && (!G.self || decide (i ≠ 0))
      | .tp ps, t => chkP G (.tp ps) t && notTup e && chkL G l e && (!G.self || nozP (.tp ps))
      | _, _ => false
    | _ => false
  | .aug i add x, s => match s with
    | .AugAssign (.Name y _) op e _ => decide (G.N[i]? = some y) && G.loc y && decide (op = if add then .Add else .Sub) && chkE G x e && (!G.self || decide (i ≠ 0))
    | _ => false
  | .ext i l, s => match s with
    | .AugAssign (.Name y _) .Add e _ => decide (G.N[i]? = some y) && G.loc y && chkL G l e
    | _ => false
  | .app i ps l, s => match s with
    | .Expr (.Call (.Attribute o m apos) [e] [] pos) _ => decide (m = "append") && (apos.endLine == pos.line) && plainX o && plainX e && chkPth G i ps o && chkL G l e
    | _ => false
  | .put i ps k l, s => match s with
    | .Assign [.Subscript o x _] e _ => chkPth G i ps o && plainX x && chkE G k x && chkL G l e
    | _ => false
  | .clr i ps, s => match s with
    | .Expr (.Call (.Attribute o m apos) [] [] pos) _ => decide (m = "clear") && (apos.endLine == pos.line) && plainX o && chkPth G i ps o
    | _ => false
  | .ret l, s => match s with
    | .Return (some e) _ => chkL G l e
    | _ => false
  | .exp x, s => match s with
    | .Expr e _ => notComp e && chkE G x e
    | _ => false
  | .iff c a b, s => match s with
    | .If e p q _ => tst e && chkE G c e && chkSs G a p && chkSs G b q
    | _ => false
  | .floop p ow fv it kl b, s => match s with
    | .For t i body [] _ => chkP G p t && plainX i && chkI G it t i && chkSs G b body && (!G.self || nozP p)
    | _ => false
  | .whl c kl b, s => match s with
    | .While e body [] _ => tst e && chkE G c e && chkSs G b body
    | _ => false
  | .fld f l, s => match s with
    | .Assign [.Attribute o f' _] e _ => decide (f' = Str.ofString f) && chkE G (.var 0) o && chkL G l e
    | _ => false
  | .par i j a b, s => match s with
    | .Assign [.Tuple [.Name x px, .Name y py] _ _] (.Tuple [e, f] _ _) _ => decide (G.N[i]? = some x) && G.lc x && decide (G.N[j]? = some y) && G.lc y && decide (x ≠ y) && decide (px.line = py.line) && !([e, f].all (foldedForSure 8)) && !([e, f].all (constantsAlone 8)) && chkEs G [a, b] [e, f] && (!G.self || (decide (i ≠ 0) && decide (j ≠ 0)))
    | _ => false
  | .pop0 i j, s => match s with
    | .Assign [.Name x px] (.Call (.Attribute o m apos) [.Constant (.int 0) _ _] [] pos) _ => decide (m = "pop") && (apos.endLine == pos.line) && plainX o && decide (G.N[i]? = some x) && G.loc x && chkE G (.var j) o && (!G.self || (decide (i ≠ 0) && decide (j ≠ 0)))
    | _ => false
def chkSs (G : Gc) : List IS → List Stmt → Bool
  | [], [] => true
  | s :: ss, t :: ts => chkS G s t && chkSs G ss ts
  | _, _ => false
end
end Rb
/-! Statements: the rules, one by one. -/
namespace Rb
open PySem
open PySem.Spec
open PyProof.Rows
open L2
section
variable (c : CA) (K : PySem.W.Frag) (n : NZ) (J0 H0 : Hp) (W : WX)
def OutS (Jb : Hp) (D : Ends) : SR → Prop
  | .nx env => ∀ σ J H Fs, SL c K n J0 H0 J H σ env Fs → Same Jb J → D.nx σ H
  | .bk env => ∀ σ J H Fs, SL c K n J0 H0 J H σ env Fs → Same Jb J → D.bk σ H
  | .ct env => ∀ σ J H Fs, SL c K n J0 H0 J H σ env Fs → Same Jb J → D.ct σ H
  | .rt t => ∀ v J H F, Ext J0 H0 J H → Same Jb J → RO c K J H t v F → Fr H0 J H F → D.rt v H
  | .er x env => ∀ cls d σ J H Fs, SL c K n J0 H0 J H σ env Fs → Same Jb J → EX c K x cls d H → W cls d σ H
  | .bad => False
end
def tX (c : CA) (K : PySem.W.Frag) (W : WX) (n : NZ) (sem : Env → SR) : TS := fun D σ H => ∃ (J0 H0 J : Hp) (env : Env) (Fs : Nat → List Addr), SL c K n J0 H0 J H σ env Fs ∧ OutS c K n J0 H0 W J D (sem env)
theorem ps_of {X : Cx} {st : Stmt} {t t' : TS} (h : PS X st t) (q : ∀ D σ H, t' D σ H → t D σ H) : PS X st t' := ⟨fun pins s σ H D I hw => h.run pins s σ H D I (q D σ H hw)⟩
theorem pss_of {X : Cx} {st : List Stmt} {t t' : TS} (h : PSs X st t) (q : ∀ D σ H, t' D σ H → t D σ H) : PSs X st t' := ⟨fun pins s σ H D I hw => h.run pins s σ H D I (q D σ H hw)⟩
section
variable {c : CA} {K : PySem.W.Frag} {n : NZ} {J0 H0 J H Jb Jb' : Hp} {σ : L2.St} {env : Env} {Fs : Nat → List Addr} {W : WX} {D : Ends}
theorem OutS.mono {r : SR} (h : OutS c K n J0 H0 W Jb D r) (s : Same Jb Jb') : OutS c K n J0 H0 W Jb' D r := by
  cases r with
  | nx env => exact fun σ J H Fs a b => h σ J H Fs a (s.trans b)
  | bk env => exact fun σ J H Fs a b => h σ J H Fs a (s.trans b)
  | ct env => exact fun σ J H Fs a b => h σ J H Fs a (s.trans b)
  | rt t => exact fun v J H F a b => h v J H F a (s.trans b)
  | er x env => exact fun cls d σ J H Fs a b => h cls d σ J H Fs a (s.trans b)
  | bad => exact h
theorem OutS.erV {x : Exn} (h : OutS c K n J0 H0 W Jb D (.er x env)) : ErV c K n J0 H0 Jb σ env x W := fun cls d J H Fs a b e => h cls d σ J H Fs a b e
theorem out_go {r : VR} {f : T → Env → SR} {Q : VK} {Hb : Hp} (h : OutS c K n J0 H0 W Jb D (r.go f))
    (k : ∀ t env v J H Fs F, r = .ok t env → SL c K n J0 H0 J H σ env Fs → Same Jb J → Same Hb H → RO c K J H t v F → Fr H0 J H F → (∀ i a, a ∈ Fs i → a ∉ F) → OutS c K n J0 H0 W J D (f t env) → Q v H) : OutV c K n J0 H0 W Jb Hb σ Q r := by
  cases r with
  | ok t env => exact fun v J H Fs F a b b2 d e g => k t env v J H Fs F rfl a b b2 d e g (OutS.mono h b)
  | er x env => exact OutS.erV h
  | bad => exact h
theorem out_goB {r : BR} {f : Bool → SR} {Q : Bool → Hp → Prop} (h : OutS c K n J0 H0 W Jb D (r.go f)) (k : ∀ b J H Fs, r = .ok b → SL c K n J0 H0 J H σ env Fs → Same Jb J → OutS c K n J0 H0 W J D (f b) → Q b H) : OutB c K n J0 H0 W Jb σ env Q r := by
  cases r with
  | ok b => exact fun J H Fs a e => k b J H Fs rfl a e (OutS.mono h e)
  | er x env => exact OutS.erV h
  | bad => exact h
theorem out_goL {r : LR} {f : List T → Env → SR} {Q : L2.It → Hp → Prop} (h : OutS c K n J0 H0 W Jb D (r.go f)) (k : ∀ ts env it Jw J H Fs, SL c K n J0 H0 J H σ env Fs → Same Jb J → Walk c K it Jw ts → Same Jw J → OutS c K n J0 H0 W J D (f ts env) → Q it H) : OutL c K n J0 H0 W Jb σ Q r := by
  cases r with
  | ok ts env => exact fun it Jw J H Fs a b w e => k ts env it Jw J H Fs a b w e (OutS.mono h b)
  | er x env => exact OutS.erV h
  | bad => exact h
/-- what a value owns is read from now on -/
theorem SL.frzF (s : SL c K n J0 H0 J H σ env Fs) {F : List Addr} (f : Fr H0 J H F) (d : ∀ i a, a ∈ Fs i → a ∉ F) : SL c K n J0 H0 (Rb.frz J H F) H σ env Fs := by
  have sm : Same J (Rb.frz J H F) := same_frz f.out
  refine ⟨s.ext.frz f, s.len, fun i t h => ?_, fun i => ⟨(s.fr i).new, fun a m => by rw [frz_out (d i a m)]; exact (s.fr i).out a m, (s.fr i).there, (s.fr i).nd⟩, s.dj⟩
  obtain ⟨v, e, r⟩ := s.sl i t h
  exact ⟨v, e, RO.mono sm t v (Fs i) (fun a m => ⟨by rw [frz_out (d i a m)]; exact (s.fr i).out a m, rfl⟩) r⟩
mutual
def inZ (n : NZ) : Pat → Bool
  | .nm i => decide (i < n.n) && (n.z.isNone || decide (i ≠ 0))
  | .tp ps => inZs n ps
def inZs (n : NZ) : List Pat → Bool
  | [] => true
  | p :: ps => inZ n p && inZs n ps
end
mutual
theorem inZ_of {n : NZ} (hz : ∀ q : Pat, True) : ∀ (p : Pat), inP n.n p = true → (n.z.isNone || nozP p) = true → inZ n p = true
  | .nm i, h, h2 => by
    simp only [inP] at h
    simp only [nozP] at h2
    simp only [inZ, Bool.and_eq_true]
    exact ⟨h, h2⟩
  | .tp ps, h, h2 => by
    simp only [inP] at h
    simp only [nozP] at h2
    simp only [inZ]
    exact inZs_of hz ps h h2
theorem inZs_of {n : NZ} (hz : ∀ q : Pat, True) : ∀ (ps : List Pat), inPs n.n ps = true → (n.z.isNone || nozPs ps) = true → inZs n ps = true
  | [], _, _ => rfl
  | p :: ps, h, h2 => by
    simp only [inPs, Bool.and_eq_true] at h
    simp only [inZs, Bool.and_eq_true]
    rw [Bool.or_eq_true] at h2
    refine ⟨inZ_of hz p h.1 ?_, inZs_of hz ps h.2 ?_⟩
    · rw [Bool.or_eq_true]
      exact h2.imp id fun z => by simp only [nozPs, Bool.and_eq_true] at z; exact z.1
    · rw [Bool.or_eq_true]
      exact h2.imp id fun z => by simp only [nozPs, Bool.and_eq_true] at z; exact z.2
end
mutual
theorem pat_sl (hn : Good J H) : ∀ (p : Pat) (t : T) (v : V) (env env' : Env) (Fs : Nat → List Addr) (σ : L2.St) (S : L2.St → Hp → Prop), SL c K n J0 H0 J H σ env Fs → RS c K J t v → asgP p (strip t) env = some env' → inZ n p = true →
    (∀ σ' Fs', SL c K n J0 H0 J H σ' env' Fs' → S σ' H) → gP K p v σ H S
  | .nm i, t, v, env, env', Fs, σ, S, s, r, e, hi, k => by
    simp only [asgP] at e; cases e
    simp only [inZ, Bool.and_eq_true, Bool.or_eq_true, Option.isNone_iff_eq_none, decide_eq_true_eq] at hi
    simp only [gP, gName]
    exact k _ _ (s.set hi.1 hi.2 (RO_strip t v r) .nil fun _ _ _ _ z => nomatch z)
  | .tp ps, t, v, env, env', Fs, σ, S, s, r, e, hi, k => by
    cases t with
    | nd g o xs =>
      simp only [strip, asgP] at e
      split at e
      · rename_i g0 xs0 q
        cases q
        obtain ⟨a, vs, rfl, j1, h1, q1⟩ := rs_tup hn r
        simp only [inZ] at hi
        simp only [gP, gTup]
        have hl := asgPs_len (c := c) (K := K) (J := J) (H := H) _ _ _ _ e
        rw [strips_map, List.length_map] at hl
        exact ⟨a, vs, rfl, SqT.of h1, by rw [← q1.length, hl], pats_sl hn ps xs vs env env' Fs σ S s q1 e hi k⟩
      · cases e
    | _ => simp [strip, asgP] at e
theorem pats_sl (hn : Good J H) : ∀ (ps : List Pat) (ts : List T) (vs : List V) (env env' : Env) (Fs : Nat → List Addr) (σ : L2.St) (S : L2.St → Hp → Prop), SL c K n J0 H0 J H σ env Fs → RSs c K J ts vs → asgPs ps (strips ts) env = some env' → inZs n ps = true →
    (∀ σ' Fs', SL c K n J0 H0 J H σ' env' Fs' → S σ' H) → gPs K ps vs σ H S
  | [], [], vs, env, env', Fs, σ, S, s, r, e, hi, k => by
    simp only [strips, asgPs] at e; cases e
    simp only [RSs] at r; subst r
    simp only [gPs, gNil]
    exact ⟨trivial, k σ Fs s⟩
  | p :: ps, t :: ts, vs, env, env', Fs, σ, S, s, r, e, hi, k => by
    simp only [strips, asgPs] at e
    simp only [RSs] at r
    obtain ⟨v, r', rfl, r1, r2⟩ := r
    simp only [inZs, Bool.and_eq_true] at hi
    simp only [gPs, gCons]
    split at e
    · rename_i env1 e1
      refine ⟨v, r', rfl, pat_sl hn p t v env env1 Fs σ _ s r1 e1 hi.1 fun σ1 Fs1 s1 => ?_⟩
      exact pats_sl hn ps ts r' env1 env' Fs1 σ1 S s1 r2 e hi.2 k
    · cases e
  | [], _ :: _, vs, env, env', Fs, σ, S, s, r, e, hi, k => by simp [strips, asgPs] at e
  | _ :: _, [], vs, env, env', Fs, σ, S, s, r, e, hi, k => by simp [strips, asgPs] at e
end
end
section
variable {c : CA} {C : Calls} {G : Gc} {W : WX} {k : Nat} {X : Cx} {n : NZ} {J0 H0 J H Jb : Hp} {σ : L2.St} {env : Env} {Fs : Nat → List Addr} {D : Ends}
def teL (c : CA) (K : PySem.W.Frag) (W : WX) (C : Calls) : Lf → TE
  | .mv i => tVar i
  | .rd x => tS c K W fun env => ev C env x
  | .es _ x => tS c K W fun env => ev C env x
theorem teL_of {K : PySem.W.Frag} (s : SL c K n J0 H0 J H σ env Fs) {Q : VK} : ∀ {l : Lf}, OutV c K n J0 H0 W J H σ Q (evL C env l) → teL c K W C l σ H Q
  | .mv i, o => mv_ok s o
  | .rd x, o => rd_ok s o
  | .es fv x, o => es_ok (fv := fv) s o
theorem pe_L (ok : CtxOk c C G W k X) : ∀ {l : Lf} {e : Expr}, chkL G l e = true → PE X e (teL c X.K W C l)
  | .rd x, e, h => (sound x G W X e ok h).1
  | .es fv x, e, h => (sound x G W X e ok h).1
  | .mv i, e, h => by
    simp only [chkL, chkE] at h
    split at h
    · simp only [Bool.and_eq_true, decide_eq_true_eq] at h
      obtain ⟨⟨h1, h2⟩, h3⟩ := h
      obtain ⟨d1, d2, _⟩ := nodbg_of h3
      exact pe_var (by rw [ok.hN]; exact h1) (vis_of ok h2) d1 d2
    · cases h
/-- an index that is owned alone, all slots staying -/
theorem rdx_ok {K : PySem.W.Frag} {se : Env → R T} {Q : VK} (s : SL c K n J0 H0 J H σ env Fs)
    (h : match se env with | .ok t => own t = true ∧ ∀ v J' H' F, SL c K n J0 H0 J' H' σ env Fs → Ext J H J' H' → RO c K J' H' t v F → Fr H J' H' F → Q v H' | .err x => ErV c K n J0 H0 J σ env x W | .bad => False) : tS c K W se σ H Q := by
  refine ⟨_, env, (s.ext_frP (p := fun _ => true)).good, s.rsenvA, ?_⟩
  cases q : se env with
  | bad => rw [q] at h; exact h
  | err x => rw [q] at h; exact ErV.post s h
  | ok t =>
    rw [q] at h
    intro v J' H' F e f r
    obtain ⟨r2, f2⟩ := s.own_back e f h.1 r
    exact h.2 v _ H' F (s.back e) (s.ext_unf e) r2 f2
/-- a value that is dropped -/
theorem drop_ok {K : PySem.W.Frag} {se : Env → R T} {Q : VK} (s : SL c K n J0 H0 J H σ env Fs)
    (h : match se env with | .ok _ => ∀ v J' H', SL c K n J0 H0 J' H' σ env Fs → Same J J' → Q v H' | .err x => ErV c K n J0 H0 J σ env x W | .bad => False) : tS c K W se σ H Q := by
  refine ⟨_, env, (s.ext_frP (p := fun _ => true)).good, s.rsenvA, ?_⟩
  cases q : se env with
  | bad => rw [q] at h; exact h
  | err x => rw [q] at h; exact ErV.post s h
  | ok t =>
    rw [q] at h
    intro v J' H' F e f r
    exact h v _ H' (s.back e) (s.same_unf e)
theorem lc_of (ok : CtxOk c C G W k X) {x : Str} (h : G.lc x = true) : X.env.scope.names.lookup x = some .local := by
  simp only [Gc.lc, Bool.and_eq_true, decide_eq_true_eq] at h
  exact ok.keep x _ (by decide) h.1
/-- name = value -/
theorem ps_nm (ok : CtxOk c C G W k X) (hk : X.env.scope.kind = .function) {i : Nat} {y : Str} {py spos : Pos} {l : Lf} {e : Expr} (hy : G.N[i]? = some y) (hl : G.loc y = true) (h : chkL G l e = true) (hs : (!swT y py e || (G.lc y && isCompL l) || G.ce y) = true) :
    PS X (.Assign [.Name y py] e spos) (tAsg (teL c X.K W C l) (gName i)) := by
  have hN : X.N[i]? = some y := by rw [ok.hN]; exact hy
  obtain ⟨l1, l2⟩ := loc_of ok hl
  rw [Bool.or_eq_true] at hs
  rcases hs with hs | hs
  case inr =>
    have hce : X.env.scope.names.lookup y = some .cell := by
      unfold Gc.ce at hs
      split at hs
      · rename_i e1; exact ok.keep y _ (by decide) e1
      · cases hs
    exact ps_set ok.nd hN l1 (pe_L ok h) (sw_cell hce) l2
  rw [Bool.or_eq_true] at hs
  cases q : swT y py e with
  | false => exact ps_set ok.nd hN l1 (pe_L ok h) (sw_false q) l2
  | true =>
    rw [q] at hs
    rcases hs with hs | hs
    · cases hs
    · rw [Bool.and_eq_true] at hs
      have hyl := lc_of ok hs.1
      have main : ∀ x, (match x with | IE.lc _ _ _ _ => true | IE.dc _ _ _ _ _ => true | _ => false) = true → chkE G x e = true → PS X (.Assign [.Name y py] e spos) (tAsg (tS c X.K W fun env => ev C env x) (gName i)) := by
        intro x hx h
        cases x with
        | lc elt tg it ifs =>
          simp only [chkE] at h
          simp only [ev]
          split at h
          · simp only [Bool.and_eq_true, decide_eq_true_eq] at h
            obtain ⟨⟨⟨⟨⟨⟨⟨h1, h2⟩, h3⟩, h4⟩, h5⟩, h6⟩, h7⟩, h8⟩ := h
            simp only [swT, Bool.and_eq_true, Bool.not_eq_true'] at q
            exact ss_lc ok hN hyl (sw_true hk hyl q.1 q.2) h1 h2 h4 (soundI it G W X _ _ ok h3) (fun X' ok' => (sound elt _ _ X' _ ok' h5).1) (fun X' ok' => soundC ifs _ _ X' _ ok' h6 h7 h8)
          · cases h
        | dc kx vx tg it ifs =>
          simp only [chkE] at h
          simp only [ev]
          split at h
          · simp only [Bool.and_eq_true, decide_eq_true_eq] at h
            obtain ⟨⟨⟨⟨⟨⟨⟨⟨h1, h2⟩, h3⟩, h4⟩, h5⟩, h5'⟩, h6⟩, h7⟩, h8⟩ := h
            simp only [swT, Bool.and_eq_true, Bool.not_eq_true'] at q
            exact ss_dc ok hN hyl (sw_trueD hk hyl q.1 q.2) h1 h2 h4 (soundI it G W X _ _ ok h3) (fun X' ok' => (sound kx _ _ X' _ ok' h5).1) (fun X' ok' => (sound vx _ _ X' _ ok' h5').1) (fun X' ok' => soundC ifs _ _ X' _ ok' h6 h7 h8)
          · cases h
        | _ => cases hx
      cases l with
      | mv i => cases hs.2
      | rd x => exact main x (by cases x <;> first | rfl | exact absurd hs.2 (by simp [isCompL])) h
      | es fv x => exact main x (by cases x <;> first | rfl | exact absurd hs.2 (by simp [isCompL])) h
/-- the first slot is fixed in such a def alone -/
theorem zz {z : Option V} {b : Bool} (hz : z = none ∨ G.self = true) (h : (!G.self || b) = true) : (z.isNone || b) = true := by
  rcases hz with rfl | hz
  · rfl
  · rw [hz] at h
    rw [Bool.or_eq_true]
    exact .inr h
theorem x_asg (ok : CtxOk c C G W k X) {z : Option V} (hz : z = none ∨ G.self = true) (hk : X.env.scope.kind = .function) {p : Pat} {l : Lf} {st : Stmt} (h : chkS G (.asg p l) st = true) : PS X st (tX c X.K W ⟨X.N.length, z⟩ (exec C (.asg p l))) := by
  simp only [chkS] at h
  split at h
  · rename_i t e pos
    split at h
    · rename_i i y py
      rw [Bool.and_eq_true] at h
      obtain ⟨h, h5⟩ := h
      simp only [Bool.and_eq_true, decide_eq_true_eq] at h
      obtain ⟨⟨⟨h1, h2⟩, h3⟩, h4⟩ := h
      have h5' := zz hz h5
      rw [Bool.or_eq_true, Option.isNone_iff_eq_none, decide_eq_true_eq] at h5'
      refine ps_of (ps_nm ok hk h1 h2 h3 h4) fun D σ H ⟨J0, H0, J, env, Fs, s, o⟩ => teL_of s (out_go o fun t env v J1 H1 Fs1 F _ s1 sj _ r f d o1 => ?_)
      have hi : i < X.N.length := by rw [ok.hN]; exact (List.getElem?_eq_some_iff.mp h1).1
      exact o1 _ _ _ _ (s1.set hi h5' r f fun j a _ m => d j a m) (Same.refl _)
    · rename_i ps
      simp only [Bool.and_eq_true] at h
      obtain ⟨⟨⟨h1, h2⟩, h3⟩, h5⟩ := h
      have hin := chkP_in (.tp ps) t h1
      have ht : ∃ es kk pp, t = .Tuple es kk pp := by
        simp only [chkP] at h1
        split at h1
        · exact ⟨_, _, _, rfl⟩
        · cases h1
      obtain ⟨es, kk, pp, rfl⟩ := ht
      have hsw : swappedStores [.Tuple es kk pp] e X.env = pure none := by
        cases e <;> first | rfl | exact absurd h2 (by simp [notTup])
      have hs0 : ∀ l env, swapsWith e (some (.Tuple es kk pp)) l env = pure false := fun l env => sw_other fun _ _ z => Expr.noConfusion z
      have hs1 : ∀ l env, swapsWithSole [.Tuple es kk pp] e l env = pure false := fun l env => hs0 l env
      refine ps_of (ps_asg (pe_L ok h3) (sound_P ok _ _ h1) (hs1 _ _) hsw (by rfl)) fun D σ H ⟨J0, H0, J, env, Fs, s, o⟩ => teL_of s (out_go o fun t env v J1 H1 Fs1 F _ s1 sj _ r f d o1 => ?_)
      have s2 := s1.frzF f d
      have rs : RS c X.K (Rb.frz J1 H1 F) t v := RO.rs (same_frz f.out) t v F (fun a m => frz_in m) r
      unfold asgT at o1
      cases q : asgP (.tp ps) (strip t) env with
      | none => simp only [q] at o1; exact o1.elim
      | some env' =>
        simp only [q] at o1
        rw [← ok.hN] at hin
        have hin := inZ_of (n := ⟨X.N.length, z⟩) (fun _ => trivial) _ hin (zz hz h5)
        exact pat_sl s2.ext.good _ _ _ _ _ _ _ _ s2 rs q hin fun σ' Fs' s' => o1 σ' _ _ _ s' (same_frz f.out)
    · cases h
  · cases h
/-- a list of one's own is walked -/
theorem pi_own (ok : CtxOk c C G W k X) {x : IE} {e tg : Expr} (h : chkE G x e = true) : PI X tg e (tIf' c X.K W n fun env => evIo C env x) := by
  have he := (sound x G W X e ok h).1
  refine ⟨fun pins s σ H R' I ⟨J0, H0, J, env, Fs, sl, o⟩ => ?_⟩
  replace o : OutL c X.K n J0 H0 W J σ R' (evIo C env x) := o
  unfold evIo at o
  have bad : ∀ {Q : VK}, (∀ t, ev C env x ≠ .ok t) → tS c X.K W (fun env => ev C env x) σ H Q := fun {Q} ne => rdx_ok sl (by
    show match ev C env x with | .ok t => _ | .err x => _ | .bad => _
    cases q : ev C env x with
    | ok t => exact absurd q (ne t)
    | err z => rw [q] at o; exact o
    | bad => rw [q] at o; exact o)
  cases q : ev C env x with
  | bad => exact (pi_list he).run pins s σ H R' I (bad fun t z => by rw [q] at z; cases z)
  | err z => exact (pi_list he).run pins s σ H R' I (bad fun t z => by rw [q] at z; cases z)
  | ok t =>
    rw [q] at o
    simp only at o
    split at o
    · rename_i hown
      have go : ∀ {Q : VK}, (∀ v J' H', SL c X.K n J0 H0 J' H' σ env Fs → Same J J' → RS c X.K J' t v → Q v H') → tS c X.K W (fun env => ev C env x) σ H Q := fun {Q} hq => rdx_ok sl (by
        show match ev C env x with | .ok t => _ | .err x => _ | .bad => _
        rw [q]
        refine ⟨hown, fun v J' H' F s' ex r f => ?_⟩
        obtain ⟨f2, d⟩ := frAll sl ex.hh f
        exact hq v _ H' (s'.frzF f2 d) (ex.jj.trans (same_frz f.out)) (RO.rs (same_frz f.out) t v F (fun a m => frz_in m) r))
      cases t with
      | nd g ow xs =>
        cases g with
        | lst =>
          refine (pi_list he).run pins s σ H R' I (go fun v J' H' s' sj rs => ?_)
          obtain ⟨p, vs, rfl, j1, h1, q1⟩ := rs_lst s'.ext.good rs
          exact ⟨p, rfl, ⟨vs, SqL.of h1⟩, o _ J' J' H' Fs s' sj (walk_list (SqL.of j1) q1) (Same.refl _)⟩
        | tup =>
          refine (pi_tup he).run pins s σ H R' I (go fun v J' H' s' sj rs => ?_)
          obtain ⟨p, vs, rfl, j1, h1, q1⟩ := rs_tup s'.ext.good rs
          exact ⟨p, rfl, ⟨vs, SqT.of h1⟩, o _ J' J' H' Fs s' sj (walk_tup j1 q1) (Same.refl _)⟩
        | _ => exact o.elim
      | _ => exact o.elim
    · exact o.elim
end
end Rb
/-! Statements: the other rules; the theorem. -/
namespace Rb
open PySem
open PySem.Spec
open PyProof.Rows
open L2
section
variable {c : CA} {C : Calls} {G : Gc} {W : WX} {k : Nat} {X : Cx} {n : NZ} {J0 H0 J H Jb : Hp} {σ : L2.St} {env : Env} {Fs : Nat → List Addr} {D : Ends}
theorem x_aug (ok : CtxOk c C G W k X) {z : Option V} (hz : z = none ∨ G.self = true) {i : Nat} {add : Bool} {x : IE} {st : Stmt} (h : chkS G (.aug i add x) st = true) : PS X st (tX c X.K W ⟨X.N.length, z⟩ (exec C (.aug i add x))) := by
  simp only [chkS] at h
  split at h
  · rename_i y py op e pos
    rw [Bool.and_eq_true] at h
    obtain ⟨h, h5⟩ := h
    simp only [Bool.and_eq_true, decide_eq_true_eq] at h
    obtain ⟨⟨⟨h1, h2⟩, h3⟩, h4⟩ := h
    have h5' := zz hz h5
    rw [Bool.or_eq_true, Option.isNone_iff_eq_none, decide_eq_true_eq] at h5'
    obtain ⟨l1, l2⟩ := loc_of ok h2
    have hN : X.N[i]? = some y := by rw [ok.hN]; exact h1
    have hi : i < X.N.length := (List.getElem?_eq_some_iff.mp hN).1
    have base : PS X (.AugAssign (.Name y py) op e pos) (tAug i (teL c X.K W C (.rd x)) (ipI fun a b => if add then a + b else a - b)) := by
      subst h3
      cases add with
      | true => exact ps_aug ok.nd hN l1 (pe_L ok (l := .rd x) h4) ip_add l2
      | false => exact ps_aug ok.nd hN l1 (pe_L ok (l := .rd x) h4) ip_sub l2
    refine ps_of base fun D σ H ⟨J0, H0, J, env, Fs, s, o⟩ => ?_
    simp only [exec] at o
    split at o
    · rename_i a ha
      obtain ⟨v, e1, r1⟩ := s.sl i _ ha
      simp only [RO] at r1
      obtain ⟨rfl, _⟩ := r1
      refine ⟨.int a, e1, teL_of s (out_go o fun t env1 v J1 H1 Fs1 F _ s1 sj _ r f d o1 => ?_)⟩
      cases t with
      | int b =>
        simp only [RO] at r
        obtain ⟨rfl, rfl⟩ := r
        refine ⟨a, b, rfl, rfl, ?_⟩
        exact o1 _ _ _ _ (s1.set (v := .int _) hi h5' (by simp [RO]) .nil fun _ _ _ _ z => nomatch z) (Same.refl _)
      | _ => exact o1.elim
    · exact o.elim
  · cases h
/-- what is asked of a list whose parts are given away -/
theorem lst_parts {K : PySem.W.Frag} {o : Bool} {ys : List T} {v : V} {F : List Addr} (g : Good J H) (f : Fr H0 J H F) (r : RO c K J H (.nd .lst o ys) v F) :
    ∃ (b : Addr) (zs : List V) (Fy : List Addr), v = .ref b ∧ H b = some (.lst zs) ∧ ROs c K J H (if o then ys else strips ys) zs Fy ∧ Fr H0 J H Fy ∧ (∀ a ∈ Fy, a ∈ F) ∧ ys.length = zs.length := by
  cases o with
  | false =>
    simp only [RO] at r
    obtain ⟨⟨b, zs, rfl, h1, h2⟩, rfl⟩ := r
    exact ⟨b, zs, [], rfl, g.sub _ _ h1, by rw [if_neg Bool.false_ne_true]; exact ros_strips h2, .nil, fun _ m => m, h2.length⟩
  | true =>
    simp only [RO] at r
    obtain ⟨b, zs, Fy, rfl, h1, h2, rfl, h3⟩ := r
    exact ⟨b, zs, Fy, rfl, h1, by rw [if_pos rfl]; exact h3, ⟨fun a m => f.new a (List.mem_cons_of_mem _ m), fun a m => f.out a (List.mem_cons_of_mem _ m), fun a m => f.there a (List.mem_cons_of_mem _ m), (List.nodup_cons.mp f.nd).2⟩, fun a m => List.mem_cons_of_mem _ m, h3.length⟩
/-- a list of one's own with more at its end -/
theorem SL.grow {K : PySem.W.Frag} (s : SL c K n J0 H0 J H σ env Fs) {i : Nat} {t : T} {v : V} (hv : getS env i = some t) (hσ : σ[i]? = some (some v)) {is : List Nat} {xs : List T} {a : Addr} {vs : List V} {Fx : List Addr} (fo : Foc c K J H is t v (Fs i) .lst xs a vs Fx)
    {us : List T} {ws : List V} {F : List Addr} (r : ROs c K J H us ws F) (f : Fr H0 J H F) (d : ∀ j b, b ∈ Fs j → b ∉ F) :
    ∃ Fs', SL c K n J0 H0 J (upd H a (.lst (vs ++ ws))) σ (env.set i (some (putAt is (.nd .lst true (xs ++ us)) t))) Fs' := by
  have am : a ∈ Fs i := fo.sub a List.mem_cons_self
  have naFx : a ∉ Fx := (List.nodup_cons.mp fo.nd).1
  have naF : a ∉ F := d i a am
  refine s.write hv hσ fo (o := .lst (vs ++ ws)) (g' := .lst) (xs' := xs ++ us) (vs' := vs ++ ws) (Fx' := Fx ++ F) (Fw := F) (fun _ z => by cases z) (show AtO c K _ a .lst _ from upd_same) (by intro z; cases z) ?_ ?_ (fun b m => List.mem_append.mp m) f d
  · refine ROs.append ?_ ?_
    · exact ROs.mono (Same.refl J) xs vs Fx (fun b m => ⟨(s.fr i).out b (fo.sub b (List.mem_cons_of_mem _ m)), upd_ne fun e => naFx (e ▸ m)⟩) fo.kids
    · exact ROs.mono (Same.refl J) us ws F (fun b m => ⟨f.out b m, upd_ne fun e => naF (e ▸ m)⟩) r
  · rw [List.nodup_append]
    exact ⟨(List.nodup_cons.mp fo.nd).2, f.nd, fun p hp q hq z => by subst z; exact d i p (fo.sub p (List.mem_cons_of_mem _ hp)) hq⟩
theorem x_ext (ok : CtxOk c C G W k X) {z : Option V} (hz : z = none ∨ G.self = true) {i : Nat} {l : Lf} {st : Stmt} (h : chkS G (.ext i l) st = true) : PS X st (tX c X.K W ⟨X.N.length, z⟩ (exec C (.ext i l))) := by
  simp only [chkS] at h
  split at h
  · rename_i y py e pos
    simp only [Bool.and_eq_true, decide_eq_true_eq] at h
    obtain ⟨⟨h1, h2⟩, h3⟩ := h
    obtain ⟨l1, l2⟩ := loc_of ok h2
    have hN : X.N[i]? = some y := by rw [ok.hN]; exact h1
    have hi : i < X.N.length := (List.getElem?_eq_some_iff.mp hN).1
    refine ps_of (ps_aug ok.nd hN l1 (pe_L ok h3) (ti := rExt2) iop_ext l2) fun D σ H ⟨J0, H0, J, env, Fs, s, o⟩ => ?_
    simp only [exec] at o
    split at o
    · rename_i t0 ht0
      obtain ⟨v0, e1, r1⟩ := s.sl i _ ht0
      refine ⟨v0, e1, teL_of s (out_go o fun t env1 v J1 H1 Fs1 F _ s1 sj _ r f d o1 => ?_)⟩
      cases q : getS env1 i with
      | none => rw [q] at o1; exact o1.elim
      | some t1 =>
        rw [q] at o1
        cases t1 with
        | nd g ow xs =>
          cases g with
          | lst =>
            cases ow with
            | true =>
              cases t with
              | nd g2 ow2 ys =>
                cases g2 with
                | lst =>
                  simp only [extT] at o1
                  split at o1
                  · rename_i hz
                    obtain ⟨a, vs, Fx, fo⟩ := s1.focus q e1 (is := []) (g := .lst) (by intro z; cases z) rfl
                    have hva := fo.val
                    simp only [vAt] at hva
                    cases hva
                    obtain ⟨b, zs, Fy, rfl, hb, ro, fy, sy, hly⟩ := lst_parts s1.ext.good f r
                    obtain ⟨Fs2, s2⟩ := s1.grow q e1 fo ro fy fun j b m m' => d j b m (sy b m')
                    refine ⟨a, b, vs, zs, rfl, rfl, fo.at_, hb, by rw [← fo.kids.length, ← hly]; exact hz, ?_⟩
                    have hσ : σ.set i (some (.ref a)) = σ := by
                      apply List.ext_getElem?
                      intro j
                      by_cases e : i = j
                      · subst e; rw [List.getElem?_set_self (by rw [s1.len.1]; exact hi)]; exact e1.symm
                      · rw [List.getElem?_set_ne e]
                    show D.nx (σ.set i (some (.ref a))) _
                    rw [hσ]
                    exact o1 _ _ _ _ s2 (Same.refl _)
                  · exact o1.elim
                | _ => exact o1.elim
              | _ => exact o1.elim
            | false => exact o1.elim
          | _ => exact o1.elim
        | _ => exact o1.elim
    · exact o.elim
  · cases h
/-- what is asked of a path's end -/
theorem out_p2 {K : PySem.W.Frag} {r : R (List Nat × T)} {f : List Nat → T → SR} {i : Nat} {Q : VK} (h : OutS c K n J0 H0 W J D (resGo r env f))
    (q : ∀ is u v w J1 H1, r = .ok (is, u) → SL c K n J0 H0 J1 H1 σ env Fs → Ext J H J1 H1 → σ[i]? = some (some v) → vAt H1 is v = some w → OutS c K n J0 H0 W J1 D (f is u) → Q w H1) : OutP c K W n i J0 H0 J H σ env Fs Q r := by
  cases r with
  | ok p => exact fun v w J1 H1 a b d e => q p.1 p.2 v w J1 H1 rfl a b d e (OutS.mono h b.jj)
  | err x => exact OutS.erV h
  | bad => exact h
theorem resS_some {C : Calls} {env : Env} {i : Nat} {ps : List IE} {p : List Nat × T} (h : resS C env i ps = .ok p) : ∃ t, getS env i = some t ∧ resR C env t ps = .ok p := by
  unfold resS at h
  split at h
  · rename_i t e
    exact ⟨t, e, h⟩
  · cases h
theorem out_mod {K : PySem.W.Frag} {i : Nat} {is : List Nat} {f : T → Option T} (h : OutS c K n J0 H0 W Jb D (modS env i is f)) : ∃ t u w, getS env i = some t ∧ nodeAt is t = some u ∧ f u = some w ∧ OutS c K n J0 H0 W Jb D (.nx (env.set i (some (putAt is w t)))) := by
  unfold modS at h
  split at h
  · rename_i t ht
    split at h
    · rename_i u hu
      split at h
      · rename_i w hw
        exact ⟨t, u, w, ht, hu, hw, h⟩
      · exact h.elim
    · exact h.elim
  · exact h.elim
theorem tyList {K : PySem.W.Frag} {a : Addr} {vs : List V} (h : H a = some (.lst vs)) : tyV K "list" (.ref a) H := .inl ⟨rfl, vs, SqL.of h⟩
theorem x_app (ok : CtxOk c C G W k X) {z : Option V} (hz : z = none ∨ G.self = true) {i : Nat} {ps : List IE} {l : Lf} {st : Stmt} (h : chkS G (.app i ps l) st = true) : PS X st (tX c X.K W ⟨X.N.length, z⟩ (exec C (.app i ps l))) := by
  simp only [chkS] at h
  split at h
  · rename_i o m apos e pos pos2
    simp only [Bool.and_eq_true, decide_eq_true_eq] at h
    obtain ⟨⟨⟨⟨⟨h1, h2⟩, h3⟩, h4⟩, h5⟩, h6⟩ := h
    subst h1
    have hst := starEach_cons (es := []) (env := X.env) h4
    refine ps_of (ps_expr (pe_bm PySem.F.plainAttrs_list PySem.F.slot_list_append PySem.F.type_list_append mt_append (sound_Pth (n := ⟨X.N.length, z⟩) ok i ps o h5) (pa_cons (pe_L ok h6) pa_nil hst) (attrBase h3) ?_ h2 hst rfl)) fun D σ H ⟨J0, H0, J, env, Fs, s, o⟩ => ?_
    · rw [hst]; rfl
    simp only [exec] at o
    refine ⟨J0, H0, J, env, Fs, s, out_p2 o fun is u v w J1 H1 hr s1 ex hσ hw o1 => ?_⟩
    obtain ⟨t, ht, hr2⟩ := resS_some hr
    have hnode := resR_node hr2
    split at o1
    · rename_i hu
      unfold isLst at hu
      split at hu
      · obtain ⟨a, vs, Fx, fo⟩ := s1.focus ht hσ (g := .lst) (by intro z; cases z) hnode
        have := fo.val
        rw [hw] at this
        cases this
        refine ⟨tyList fo.at_, teL_of s1 (out_go o1 fun t2 env2 v2 J2 H2 Fs2 F _ s2 sj sh r f d o2 => ?_)⟩
        obtain ⟨t3, u3, w3, ht3, hu3, hw3, o3⟩ := out_mod o2
        unfold appT at hw3
        split at hw3
        · rename_i xs3
          split at hw3
          · rename_i hz
            cases hw3
            obtain ⟨a3, vs3, Fx3, fo3⟩ := s2.focus ht3 hσ (g := .lst) (by intro z; cases z) hu3
            have e3 := fo3.val
            rw [vAt_mono sh hw] at e3
            cases e3
            obtain ⟨Fs4, s4⟩ := s2.grow ht3 hσ fo3 (us := [t2]) (ws := [v2]) (F := F) (by simp only [ROs]; exact ⟨v2, [], F, [], rfl, by simp, r, rfl, rfl⟩) f d
            exact ⟨_, _, _, rfl, rfl, fo3.at_, by rw [← fo3.kids.length]; exact hz, o3 _ _ _ _ s4 (Same.refl _)⟩
          · cases hw3
        · cases hw3
      · cases hu
    · exact o1.elim
  · cases h
end
end Rb
/-! Statements: items and fields stored; blocks and loops; the theorem. -/
namespace Rb
open PySem
open PySem.Spec
open PyProof.Rows
open L2
section
variable {c : CA} {K : PySem.W.Frag} {J H : Hp} {u : T} {w : V} {Fw : List Addr}
theorem ROs.setN (r : RO c K J H u w Fw) (nw : Fw.Nodup) : ∀ {xs : List T} {vs : List V} {F : List Addr} {j : Nat}, ROs c K J H xs vs F → F.Nodup → (∀ b ∈ F, b ∉ Fw) → j < xs.length →
    ∃ F', ROs c K J H (xs.set j u) (vs.set j w) F' ∧ F'.Nodup ∧ ∀ b ∈ F', b ∈ F ∨ b ∈ Fw
  | [], vs, F, j, h, nd, d, hj => by simp at hj
  | t :: ts, vs, F, 0, h, nd, d, hj => by
    simp only [ROs] at h
    obtain ⟨v, r', F1, F2, rfl, rfl, h1, h2⟩ := h
    refine ⟨Fw ++ F2, ?_, ?_, fun b m => ?_⟩
    · simp only [List.set_cons_zero, ROs]
      exact ⟨w, r', Fw, F2, rfl, rfl, r, h2⟩
    · rw [List.nodup_append] at nd ⊢
      exact ⟨nw, nd.2.1, fun p hp q hq z => by subst z; exact d p (List.mem_append_right _ hq) hp⟩
    · rcases List.mem_append.mp m with m | m
      · exact .inr m
      · exact .inl (List.mem_append_right _ m)
  | t :: ts, vs, F, j + 1, h, nd, d, hj => by
    simp only [ROs] at h
    obtain ⟨v, r', F1, F2, rfl, rfl, h1, h2⟩ := h
    rw [List.nodup_append] at nd
    obtain ⟨F', g1, g2, g3⟩ := ROs.setN r nw h2 nd.2.1 (fun b m => d b (List.mem_append_right _ m)) (by simpa using hj)
    refine ⟨F1 ++ F', ?_, ?_, fun b m => ?_⟩
    · simp only [List.set_cons_succ, ROs]
      exact ⟨v, _, F1, F', rfl, rfl, h1, g1⟩
    · rw [List.nodup_append]
      refine ⟨nd.1, g2, fun p hp q hq z => ?_⟩
      subst z
      rcases g3 p hq with y | y
      · exact nd.2.2 p hp p y rfl
      · exact d p (List.mem_append_left _ hp) y
    · rcases List.mem_append.mp m with m | m
      · exact .inl (List.mem_append_left _ m)
      · exact (g3 b m).imp (List.mem_append_right _) id
section
variable {κ : Type} [DecidableEq κ]
theorem putV_out {α : Type} {q : κ} {t : T} : ∀ {ks : List κ} {xs : List T}, q ∉ ks → putV ks xs q t = xs
  | [], xs, _ => by cases xs <;> rfl
  | k :: ks, [], _ => rfl
  | k :: ks, x :: xs, h => by
    simp only [List.mem_cons, not_or] at h
    simp only [putV, if_neg (Ne.symm h.1), putV_out (α := α) h.2]
theorem putVv_out {q : κ} {t : V} : ∀ {ks : List κ} {xs : List V}, q ∉ ks → putVv ks xs q t = xs
  | [], xs, _ => by cases xs <;> rfl
  | k :: ks, [], _ => rfl
  | k :: ks, x :: xs, h => by
    simp only [List.mem_cons, not_or] at h
    simp only [putVv, if_neg (Ne.symm h.1), putVv_out h.2]
theorem ROs.putN (r : RO c K J H u w Fw) (nw : Fw.Nodup) {q : κ} : ∀ {ks : List κ} {xs : List T} {vs : List V} {F : List Addr}, ROs c K J H xs vs F → F.Nodup → (∀ b ∈ F, b ∉ Fw) → ks.Nodup →
    ∃ F', ROs c K J H (putV ks xs q u) (putVv ks vs q w) F' ∧ F'.Nodup ∧ ∀ b ∈ F', b ∈ F ∨ b ∈ Fw
  | [], xs, vs, F, h, nd, d, hk => ⟨F, by cases xs <;> cases vs <;> exact h, nd, fun b m => .inl m⟩
  | k :: ks, [], vs, F, h, nd, d, hk => by
    simp only [ROs] at h
    obtain ⟨rfl, rfl⟩ := h
    exact ⟨[], by simp [putV, putVv, ROs], List.nodup_nil, fun b m => .inl m⟩
  | k :: ks, t :: ts, vs, F, h, nd, d, hk => by
    simp only [ROs] at h
    obtain ⟨v, r', F1, F2, rfl, rfl, h1, h2⟩ := h
    rw [List.nodup_cons] at hk
    rw [List.nodup_append] at nd
    by_cases e : k = q
    · subst e
      refine ⟨Fw ++ F2, ?_, ?_, fun b m => ?_⟩
      · simp only [putV, putVv, if_true, putV_out (α := V) hk.1, putVv_out hk.1, ROs]
        exact ⟨w, r', Fw, F2, rfl, rfl, r, h2⟩
      · rw [List.nodup_append]
        exact ⟨nw, nd.2.1, fun p hp q hq z => by subst z; exact d p (List.mem_append_right _ hq) hp⟩
      · rcases List.mem_append.mp m with m | m
        · exact .inr m
        · exact .inl (List.mem_append_right _ m)
    · obtain ⟨F', g1, g2, g3⟩ := ROs.putN r nw (q := q) h2 nd.2.1 (fun b m => d b (List.mem_append_right _ m)) hk.2
      refine ⟨F1 ++ F', ?_, ?_, fun b m => ?_⟩
      · simp only [putV, putVv, if_neg e, ROs]
        exact ⟨v, _, F1, F', rfl, rfl, h1, g1⟩
      · rw [List.nodup_append]
        refine ⟨nd.1, g2, fun p hp q hq z => ?_⟩
        subst z
        rcases g3 p hq with y | y
        · exact nd.2.2 p hp p y rfl
        · exact d p (List.mem_append_left _ hp) y
      · rcases List.mem_append.mp m with m | m
        · exact .inl (List.mem_append_left _ m)
        · exact (g3 b m).imp (List.mem_append_right _) id
/-- the parts behind a store in a dict, in its place or at the end -/
def putVT (ks : List κ) (vs : List V) (q : κ) (w : V) : List V := if memK q ks then putVv ks vs q w else vs ++ [w]
theorem putT_zip {ks : List κ} {xs : List T} {vs : List V} {q : κ} (h : ks.length = vs.length) : putK (ks.zip vs) q w = (putT ks xs q u).1.zip (putVT ks vs q w) ∧ (putT ks xs q u).1.length = (putVT ks vs q w).length := by
  rw [putK_zip h]
  unfold putT putVT
  cases e : memK q ks with
  | true => exact ⟨rfl, (by rw [if_pos rfl, if_pos rfl, putVv_len]; exact h)⟩
  | false => exact ⟨rfl, (by rw [if_neg Bool.false_ne_true, if_neg Bool.false_ne_true]; simp [h])⟩
theorem ROs.putAll (r : RO c K J H u w Fw) (nw : Fw.Nodup) {q : κ} {ks : List κ} {xs : List T} {vs : List V} {F : List Addr} (h : ROs c K J H xs vs F) (nd : F.Nodup) (d : ∀ b ∈ F, b ∉ Fw) (hk : (!memK q ks || decide ks.Nodup) = true) :
    ∃ F', ROs c K J H (putT ks xs q u).2 (putVT ks vs q w) F' ∧ F'.Nodup ∧ ∀ b ∈ F', b ∈ F ∨ b ∈ Fw := by
  unfold putT putVT
  cases e : memK q ks with
  | true =>
    rw [e] at hk
    simp only [if_true]
    exact ROs.putN r nw h nd d (of_decide_eq_true hk)
  | false =>
    simp only [Bool.false_eq_true, if_false]
    refine ⟨F ++ Fw, ROs.append h (by simp only [ROs]; exact ⟨w, [], Fw, [], rfl, by simp, r, rfl, rfl⟩), ?_, fun b m => List.mem_append.mp m⟩
    rw [List.nodup_append]
    exact ⟨nd, nw, fun p hp q hq z => by subst z; exact d p hp hq⟩
end
end
section
variable {c : CA} {C : Calls} {G : Gc} {W : WX} {k : Nat} {X : Cx} {n : NZ} {J0 H0 J H Jb : Hp} {σ : L2.St} {env : Env} {Fs : Nat → List Addr} {D : Ends}
/-- a node is written with new parts -/
theorem SL.remake {K : PySem.W.Frag} (s : SL c K n J0 H0 J H σ env Fs) {i : Nat} {t : T} {v : V} (hv : getS env i = some t) (hσ : σ[i]? = some (some v)) {is : List Nat} {g : Tag} {xs : List T} {a : Addr} {vs : List V} {Fx : List Addr} (fo : Foc c K J H is t v (Fs i) g xs a vs Fx)
    {o : HO} {g' : Tag} {xs' : List T} {vs' : List V} {Fw F' : List Addr} (no : ∀ ys, o ≠ .tup ys) (ha : AtO c K (upd H a o) a g' vs') (gn' : g' ≠ .tup) (f : Fr H0 J H Fw) (d : ∀ j b, b ∈ Fs j → b ∉ Fw)
    (ro : ROs c K J H xs' vs' F') (nd : F'.Nodup) (sb : ∀ b ∈ F', b ∈ Fx ∨ b ∈ Fw) :
    ∃ Fs', SL c K n J0 H0 J (upd H a o) σ (env.set i (some (putAt is (.nd g' true xs') t))) Fs' := by
  have am : a ∈ Fs i := fo.sub a List.mem_cons_self
  have naFx : a ∉ Fx := (List.nodup_cons.mp fo.nd).1
  refine s.write hv hσ fo no ha gn' (ROs.mono (Same.refl J) xs' vs' F' (fun b m => ?_) ro) nd sb f d
  rcases sb b m with z | z
  · exact ⟨(s.fr i).out b (fo.sub b (List.mem_cons_of_mem _ z)), upd_ne fun e => naFx (e ▸ z)⟩
  · exact ⟨f.out b z, upd_ne fun e => d i a am (e ▸ z)⟩
theorem Fr.step {J1 H1 : Hp} {F : List Addr} (f : Fr H0 J H F) (e : Ext J H J1 H1) : Fr H0 J1 H1 F := ⟨f.new, fun a m => e.out (f.out a m) (f.there a m), fun a m => by rw [e.there (f.there a m)]; exact f.there a m, f.nd⟩
theorem x_put (ok : CtxOk c C G W k X) {z : Option V} (hz : z = none ∨ G.self = true) {i : Nat} {ps : List IE} {x : IE} {l : Lf} {st : Stmt} (h : chkS G (.put i ps x l) st = true) : PS X st (tX c X.K W ⟨X.N.length, z⟩ (exec C (.put i ps x l))) := by
  simp only [chkS] at h
  split at h
  · rename_i o y tpos e pos
    simp only [Bool.and_eq_true] at h
    obtain ⟨⟨⟨h1, h2⟩, h3⟩, h4⟩ := h
    have hs0 : ∀ l env, swapsWith e (some (.Subscript o y tpos)) l env = pure false := fun l env => sw_other fun _ _ z => Expr.noConfusion z
    have hs1 : ∀ l env, swapsWithSole [.Subscript o y tpos] e l env = pure false := fun l env => hs0 l env
    have set2 : PSet X (fun o i v H Q => rSetL o i v H Q ∨ rSetD o i v H Q) := fun pins s σ H o i v ov iv u Q I ro ri rv h => h.elim (set_list pins s σ H o i v ov iv u Q I ro ri rv) (set_dict (by have := ok.hu; omega) pins s σ H o i v ov iv u Q I ro ri rv)
    have has : ∀ v, assign (.Subscript o y tpos) X.env v = (do
      let ov ← holding [v] (eval o X.env)
      let iv ← holding [v, ov] (eval y X.env)
      standAt tpos
      holding [v, ov, iv] (setItem ov iv v)
      release [v, ov, iv] []) := by
      intro v
      cases y <;> first | rfl | (simp [plainX] at h2)
    refine ps_of (ps_asg (pe_L ok h4) (pg_sub (sound_Pth (n := ⟨X.N.length, z⟩) ok i ps o h1) (sound x G W X y ok h3).1 set2 has) (hs1 _ _) rfl rfl) fun D σ H ⟨J0, H0, J, env, Fs, s, oo⟩ => teL_of s (out_go oo fun t env1 v J1 H1 Fs1 F _ s1 sj sh r f d o1 => ?_)
    refine ⟨J0, H0, J1, env1, Fs1, s1, out_p2 o1 fun is u v0 w J2 H2 hr s2 ex hσ hw o2 => ?_⟩
    obtain ⟨t0, ht, hr2⟩ := resS_some hr
    refine rdx_ok s2 ?_
    simp only [evL] at o2
    show match ev C env1 x with | .ok t => _ | .err x => _ | .bad => _
    cases q : ev C env1 x with
    | bad => rw [q] at o2; exact o2.elim
    | err z => rw [q] at o2; exact OutS.erV o2
    | ok kt =>
      rw [q] at o2
      simp only at o2 ⊢
      split at o2
      · rename_i hown
        refine ⟨hown, fun y1 J3 H3 F3 s3 ex3 r3 f3 => ?_⟩
        obtain ⟨t3, u3, w3, ht3, hu3, hw3, o3⟩ := out_mod (OutS.mono o2 ex3.jj)
        rw [ht] at ht3; cases ht3
        have f' := (f.step ex).step ex3
        have fx := fun (b : Addr) (m : b ∈ F) => f.there b m
        have r' : RO c X.K J3 H3 t v F := by
          have e13 := ex.trans ex3
          exact RO.mono e13.jj t v F (fun b m => ⟨e13.out (f.out b m) (f.there b m), e13.there (f.there b m)⟩) r
        unfold putTr at hw3
        split at hw3
        · rename_i xs j0
          split at hw3
          · rename_i j hj
            cases hw3
            obtain ⟨a, vs, Fx, fo⟩ := s3.focus ht hσ (g := .lst) (by intro z; cases z) hu3
            have e3 := fo.val
            rw [vAt_mono ex3.hh hw] at e3
            cases e3
            simp only [RO] at r3
            obtain ⟨rfl, _⟩ := r3
            have hjl : j < xs.length := (ixN_seq hj).2.1
            obtain ⟨F', g1, g2, g3⟩ := fo.kids.setN r' f.nd (j := j) (List.nodup_cons.mp fo.nd).2 (fun b m => d i b (fo.sub b (List.mem_cons_of_mem _ m))) hjl
            obtain ⟨Fs4, s4⟩ := s3.remake ht hσ fo (o := .lst (vs.set j v)) (g' := .lst) (xs' := xs.set j t) (vs' := vs.set j v) (Fw := F) (fun _ z => by cases z) (show AtO c X.K _ a .lst _ from upd_same) (by intro z; cases z) f' d g1 g2 g3
            exact .inl ⟨a, vs, j0, j, rfl, rfl, fo.at_, by rw [← fo.kids.length]; exact hj, o3 _ _ _ _ s4 (Same.refl _)⟩
          · cases hw3
        · rename_i ks xs
          split at hw3
          · rename_i q0 hq0
            split at hw3
            · rename_i hz
              rw [Bool.and_eq_true, decide_eq_true_eq] at hz
              cases hw3
              obtain ⟨a, vs, Fx, fo⟩ := s3.focus ht hσ (g := .dk ks) (by intro z; cases z) hu3
              have e3 := fo.val
              rw [vAt_mono ex3.hh hw] at e3
              cases e3
              have fl : flat kt = true := by
                unfold keyT at hq0
                split at hq0 <;> first | rfl | cases hq0
              have hky := keyT_rs (flat_ro kt y1 F3 fl r3).2 hq0
              obtain ⟨F', g1, g2, g3⟩ := ROs.putAll r' f.nd (q := q0) (ks := ks) fo.kids (List.nodup_cons.mp fo.nd).2 (fun b m => d i b (fo.sub b (List.mem_cons_of_mem _ m))) hz.2
              obtain ⟨z1, z2⟩ := putT_zip (u := t) (w := v) (xs := xs) (q := q0) fo.at_.2
              obtain ⟨Fs4, s4⟩ := s3.remake ht hσ fo (o := .dK (putK (ks.zip vs) q0 v)) (g' := .dk (putT ks xs q0 t).1) (Fw := F) (fun _ z => by cases z) (show AtO c X.K _ a (.dk _) _ from ⟨by rw [upd_same, z1], z2⟩) (by intro z; cases z) f' d g1 g2 g3
              exact .inr ⟨a, _, rfl, by rw [hky]; exact DPut.k fo.at_.1 (by rw [List.length_zip, ← fo.at_.2, Nat.min_self]; exact hz.1), o3 _ _ _ _ s4 (Same.refl _)⟩
            · cases hw3
          · cases hw3
        · rename_i ks xs o' ys
          split at hw3
          · rename_i q0 hq0
            split at hw3
            · rename_i hz
              rw [Bool.and_eq_true, decide_eq_true_eq] at hz
              cases hw3
              obtain ⟨a, vs, Fx, fo⟩ := s3.focus ht hσ (g := .dt ks) (by intro z; cases z) hu3
              have e3 := fo.val
              rw [vAt_mono ex3.hh hw] at e3
              cases e3
              have ff : ∀ {l : List T} {q : List Key}, keysT l = some q → flats l = true := by
                intro l
                induction l with
                | nil => intro q _; rfl
                | cons t l ih =>
                  intro q h
                  simp only [keysT] at h
                  split at h
                  · rename_i k1 k2 e1 e2
                    simp only [flats, Bool.and_eq_true]
                    refine ⟨?_, ih e2⟩
                    unfold keyT at e1
                    split at e1 <;> first | rfl | cases e1
                  · cases h
              have fl : flat (.nd .tup o' ys) = true := by simp only [flat]; exact ff hq0
              obtain ⟨b, ws, rfl, j2, hb2, q2⟩ := rs_tup s3.ext.good (flat_ro _ y1 F3 fl r3).2
              obtain ⟨F', g1, g2, g3⟩ := ROs.putAll r' f.nd (q := q0) (ks := ks) fo.kids (List.nodup_cons.mp fo.nd).2 (fun b m => d i b (fo.sub b (List.mem_cons_of_mem _ m))) hz.2
              obtain ⟨z1, z2⟩ := putT_zip (u := t) (w := v) (xs := xs) (q := q0) fo.at_.2
              obtain ⟨Fs4, s4⟩ := s3.remake ht hσ fo (o := .dT (putK (ks.zip vs) q0 v)) (g' := .dt (putT ks xs q0 t).1) (Fw := F) (fun _ z => by cases z) (show AtO c X.K _ a (.dt _) _ from ⟨by rw [upd_same, z1], z2⟩) (by intro z; cases z) f' d g1 g2 g3
              exact .inr ⟨a, _, rfl, DPut.t fo.at_.1 (b := b) (by rw [hb2, keysT_rs q2 hq0]) (by rw [List.length_zip, ← fo.at_.2, Nat.min_self]; exact hz.1), o3 _ _ _ _ s4 (Same.refl _)⟩
            · cases hw3
          · cases hw3
        · cases hw3
      · exact o2.elim
  · cases h
end
end Rb
/-! Statements: the rest, blocks, loops; the theorem. -/
namespace Rb
open PySem
open PySem.Spec
open PyProof.Rows
open L2
theorem pe_or {X : Cx} {e : Expr} {t t' : TE} (h : PE X e t) (h' : PE X e t') : PE X e (fun σ H Q => t σ H Q ∨ t' σ H Q) := ⟨fun pins s σ H Q I hw => hw.elim (h.run pins s σ H Q I) (h'.run pins s σ H Q I)⟩
theorem putF_zip {f : String} {y : V} : ∀ {fs : List String} {vs : List V}, fs.length = vs.length → (memK f fs = false ∨ fs.Nodup) → putF (Str.ofString f) y ((fs.map Str.ofString).zip vs) = if memK f fs then (fs.map Str.ofString).zip (putVv fs vs f y) else ((fs ++ [f]).map Str.ofString).zip (vs ++ [y])
  | [], [], _, _ => by simp [putF, memK]
  | g :: fs, v :: vs, h, hk => by
    rw [List.map_cons, List.zip_cons_cons]
    show (if Str.ofString g = Str.ofString f then _ else _) = _
    by_cases e : g = f
    · subst e
      rw [if_pos rfl]
      have hn : g ∉ fs := by
        rcases hk with hk | hk
        · simp [memK] at hk
        · exact (List.nodup_cons.mp hk).1
      simp [memK, putVv, putVv_out hn]
    · rw [if_neg fun z => e (ofString_inj z)]
      have hk2 : memK f fs = false ∨ fs.Nodup := hk.imp (fun z => by simpa [memK, Ne.symm e] using z) fun z => (List.nodup_cons.mp z).2
      rw [putF_zip (by simpa using h) hk2]
      have hm : memK f (g :: fs) = memK f fs := by simp [memK, Ne.symm e]
      rw [hm]
      cases q : memK f fs with
      | true => simp [putVv, e]
      | false => simp
  | [], _ :: _, h, _ => by simp at h
  | _ :: _, [], h, _ => by simp at h
section
variable {c : CA} {C : Calls} {G : Gc} {W : WX} {k : Nat} {X : Cx} {n : NZ} {J0 H0 J H Jb : Hp} {σ : L2.St} {env : Env} {Fs : Nat → List Addr} {D : Ends}
theorem x_clr (ok : CtxOk c C G W k X) {z : Option V} (hz : z = none ∨ G.self = true) {i : Nat} {ps : List IE} {st : Stmt} (h : chkS G (.clr i ps) st = true) : PS X st (tX c X.K W ⟨X.N.length, z⟩ (exec C (.clr i ps))) := by
  simp only [chkS] at h
  split at h
  · rename_i o m apos pos pos2
    simp only [Bool.and_eq_true, decide_eq_true_eq] at h
    obtain ⟨⟨⟨h1, h2⟩, h3⟩, h5⟩ := h
    subst h1
    refine ps_of (ps_expr (pe_or (pe_bm0 PySem.F.plainAttrs_list PySem.F.slot_list_clear PySem.F.type_list_clear mt_clear (sound_Pth (n := ⟨X.N.length, z⟩) ok i ps o h5) (attrBase h3) h2) (pe_dclear (sound_Pth (n := ⟨X.N.length, z⟩) ok i ps o h5) (attrBase h3) h2)) rfl) fun D σ H ⟨J0, H0, J, env, Fs, s, o⟩ => ?_
    simp only [exec] at o
    cases hr : resS C env i ps with
    | bad => rw [hr] at o; exact o.elim
    | err z =>
      rw [hr] at o
      exact .inl ⟨J0, H0, J, env, Fs, s, by rw [hr]; exact OutS.erV o⟩
    | ok p =>
      rw [hr] at o
      obtain ⟨t, u, w, ht, hu, hw, o2⟩ := out_mod (show OutS c X.K ⟨X.N.length, z⟩ J0 H0 W J D (modS env i p.1 clrT) from o)
      unfold clrT at hw
      split at hw
      · cases hw
        refine .inl ⟨J0, H0, J, env, Fs, s, ?_⟩
        rw [hr]
        intro v w J1 H1 s1 ex hσ hva
        obtain ⟨a, vs, Fx, fo⟩ := s1.focus ht hσ (g := .lst) (by intro z; cases z) hu
        have e3 := fo.val
        rw [hva] at e3
        cases e3
        obtain ⟨Fs4, s4⟩ := s1.remake ht hσ fo (o := .lst []) (g' := .lst) (xs' := []) (vs' := []) (Fw := []) (F' := []) (fun _ z => by cases z) (show AtO c X.K _ a .lst _ from upd_same) (by intro z; cases z) .nil (fun _ _ _ z => nomatch z) (by simp [ROs]) List.nodup_nil (fun _ z => nomatch z)
        exact ⟨tyList fo.at_, a, vs, rfl, rfl, fo.at_, o2 _ _ _ _ s4 ex.jj⟩
      · cases hw
        rename_i ks xs
        refine .inr ⟨J0, H0, J, env, Fs, s, ?_⟩
        rw [hr]
        intro v w J1 H1 s1 ex hσ hva
        obtain ⟨a, vs, Fx, fo⟩ := s1.focus ht hσ (g := .dk ks) (by intro z; cases z) hu
        have e3 := fo.val
        rw [hva] at e3
        cases e3
        obtain ⟨Fs4, s4⟩ := s1.remake ht hσ fo (o := .dK []) (g' := .dk []) (xs' := []) (vs' := []) (Fw := []) (F' := []) (fun _ z => by cases z) (show AtO c X.K _ a (.dk []) _ from ⟨upd_same, rfl⟩) (by intro z; cases z) .nil (fun _ _ _ z => nomatch z) (by simp [ROs]) List.nodup_nil (fun _ z => nomatch z)
        exact ⟨.inr (.inr (.inl ⟨rfl, .inl ⟨_, fo.at_.1⟩⟩)), a, _, rfl, rfl, fo.at_.1, o2 _ _ _ _ s4 ex.jj⟩
      · cases hw
  · cases h
theorem x_ret (ok : CtxOk c C G W k X) {z : Option V} (hz : z = none ∨ G.self = true) {l : Lf} {st : Stmt} (h : chkS G (.ret l) st = true) : PS X st (tX c X.K W ⟨X.N.length, z⟩ (exec C (.ret l))) := by
  simp only [chkS] at h
  split at h
  · refine ps_of (ps_ret (pe_L ok h)) fun D σ H ⟨J0, H0, J, env, Fs, s, o⟩ => teL_of s (out_go o fun t env1 v J1 H1 Fs1 F _ s1 sj _ r f d o1 => ?_)
    exact o1 v J1 H1 F s1.ext (Same.refl _) r f
  · cases h
theorem x_exp (ok : CtxOk c C G W k X) {z : Option V} (hz : z = none ∨ G.self = true) {x : IE} {st : Stmt} (h : chkS G (.exp x) st = true) : PS X st (tX c X.K W ⟨X.N.length, z⟩ (exec C (.exp x))) := by
  simp only [chkS] at h
  split at h
  · rename_i e pos
    rw [Bool.and_eq_true] at h
    refine ps_of (ps_expr (sound x G W X e ok h.2).1 (sw_none (by have := h.1; unfold notComp at this; exact this))) fun D σ H ⟨J0, H0, J, env, Fs, s, o⟩ => drop_ok s ?_
    simp only [exec] at o
    show match ev C env x with | .ok t => _ | .err x => _ | .bad => _
    cases q : ev C env x with
    | bad => rw [q] at o; exact o.elim
    | err z => rw [q] at o; exact OutS.erV o
    | ok t =>
      rw [q] at o
      exact fun v J' H' s' sj => o σ J' H' Fs s' sj
  · cases h
theorem x_fld (ok : CtxOk c C G W k X) {z : Option V} (hz : z = none ∨ G.self = true) {f : String} {l : Lf} {st : Stmt} (h : chkS G (.fld f l) st = true) : PS X st (tX c X.K W ⟨X.N.length, z⟩ (exec C (.fld f l))) := by
  simp only [chkS] at h
  split at h
  · rename_i o f' tpos e pos
    simp only [Bool.and_eq_true, decide_eq_true_eq] at h
    obtain ⟨⟨h1, h2⟩, h3⟩ := h
    subst h1
    have hs0 : ∀ l env, swapsWith e (some (.Attribute o (Str.ofString f) tpos)) l env = pure false := fun l env => sw_other fun _ _ z => Expr.noConfusion z
    refine ps_of (ps_fld (sound_Pth (n := ⟨X.N.length, z⟩) ok 0 [] o h2) (pe_L ok h3) (hs0 _ _)) fun D σ H ⟨J0, H0, J, env, Fs, s, o⟩ => teL_of s (out_go o fun t env1 v J1 H1 Fs1 F _ s1 sj _ r fr d o1 => ?_)
    obtain ⟨t0, u, w, ht, hu, hw, o2⟩ := out_mod o1
    simp only [nodeAt] at hu; cases hu
    refine ⟨J0, H0, J1, env1, Fs1, s1, ?_⟩
    unfold resS
    rw [ht]
    intro v0 w0 J2 H2 s2 ex hσ hva
    cases t0 with
    | nd g ow xs =>
      cases g with
      | obj cn fs =>
        cases ow with
        | true =>
          simp only [fldT] at hw
          split at hw
          · rename_i hz
            simp only [Bool.and_eq_true, decide_eq_true_eq] at hz
            obtain ⟨⟨z1, z2⟩, z3⟩ := hz
            cases hw
            obtain ⟨a, vs, Fx, fo⟩ := s2.focus ht hσ (is := []) (g := .obj cn fs) (by intro z; cases z) rfl
            have e3 := fo.val
            rw [hva] at e3
            cases e3
            have ha := fo.at_
            obtain ⟨Ca, dx, c1, c2, c3⟩ := ha
            obtain ⟨k1, k2⟩ := ok.prog.fld cn f z1 Ca c1
            have hk : memK f fs = false ∨ fs.Nodup := by
              rw [Bool.or_eq_true, Bool.not_eq_true'] at z3
              exact z3.imp id of_decide_eq_true
            have r' : RO c X.K J2 H2 t v F := RO.mono ex.jj t v F (fun b m => ⟨ex.out (fr.out b m) (fr.there b m), ex.there (fr.there b m)⟩) r
            obtain ⟨F', g1, g2, g3⟩ := ROs.putAll r' fr.nd (q := f) (ks := fs) fo.kids (List.nodup_cons.mp fo.nd).2 (fun b m => d 0 b (fo.sub b (List.mem_cons_of_mem _ m))) z3
            have hp := putF_zip (f := f) (y := v) c3 hk
            have hp2 : putF (Str.ofString f) v ((fs.map Str.ofString).zip vs) = ((putT fs xs f t).1.map Str.ofString).zip (putVT fs vs f v) := by
              rw [hp]
              unfold putT putVT
              cases memK f fs <;> rfl
            have hl := (putT_zip (u := t) (w := v) (xs := xs) (q := f) c3).2
            obtain ⟨Fs4, s4⟩ := s2.remake ht hσ fo (o := .ins Ca dx (putF (Str.ofString f) v ((fs.map Str.ofString).zip vs))) (g' := .obj cn (putT fs xs f t).1) (Fw := F) (fun _ z => by cases z) (show AtO c X.K _ a (.obj _ _) _ from ⟨Ca, dx, c1, by rw [upd_same, hp2], hl⟩) (by intro z; cases z) (fr.step ex) d g1 g2 g3
            exact ⟨a, Ca, dx, _, rfl, c2, k1, k2, by rw [List.length_zip, List.length_map, ← c3, Nat.min_self]; exact z2, o2 _ _ _ _ s4 ex.jj⟩
          · cases hw
        | false => cases hw
      | _ => cases hw
    | _ => cases hw
  · cases h
end
end Rb
/-! Two more statements. -/
namespace Rb
open PySem
open PySem.Spec
open PyProof.Rows
open L2
section
variable {c : CA} {C : Calls} {G : Gc} {W : WX} {k : Nat} {X : Cx} {n : NZ} {J0 H0 J H Jb : Hp} {σ : L2.St} {env : Env} {Fs : Nat → List Addr} {D : Ends}
theorem sw_par {x y : Str} {px py pt pt2 : Pos} {kt k2} {a b : Expr} {env : PySem.Env} (hk : env.scope.kind = .function) (hx : env.scope.names.lookup x = some .local) (hy : env.scope.names.lookup y = some .local) (hl : px.line = py.line) (hne : x ≠ y)
    (h1 : [a, b].all (foldedForSure 8) = false) (h2 : [a, b].all (constantsAlone 8) = false) (h3 : plainX a = true) (h4 : plainX b = true) :
    swappedStores [.Tuple [.Name x px, .Name y py] kt pt] (.Tuple [a, b] k2 pt2) env = pure (some [x, y]) := by
  have kx : env.kindOf x = some .local := hx
  have ky : env.kindOf y = some .local := hy
  have hb : env.blockKind = .function := by unfold PySem.Env.blockKind; rw [hk]; rfl
  have ed : ([x, y] : List Str).eraseDups = [x, y] := by
    have : (y == x) = false := by simpa using fun e => hne e.symm
    simp [List.eraseDups, List.eraseDupsBy, List.eraseDupsBy.loop, this]
  have h1' : ¬ (foldedForSure 8 a = true ∧ foldedForSure 8 b = true) := by
    intro z
    simp [z.1, z.2] at h1
  have h2' : ¬ (constantsAlone 8 a = true ∧ constantsAlone 8 b = true) := by
    intro z
    simp [z.1, z.2] at h2
  unfold swappedStores
  simp [hb, kx, ky, hl, ed, List.filterMap_cons, Expr.pos, h1', h2']
  intro z
  exfalso
  rcases z with z | z
  · revert z h3
    clear h1 h2 h1' h2'
    cases a <;> simp [plainX]
  · revert z h4
    clear h1 h2 h1' h2'
    cases b <;> simp [plainX]
/-- a, b = x, y -/
theorem x_par (ok : CtxOk c C G W k X) {z : Option V} (hz : z = none ∨ G.self = true) (hk : X.env.scope.kind = .function) {i j : Nat} {a b : IE} {st : Stmt} (h : chkS G (.par i j a b) st = true) : PS X st (tX c X.K W ⟨X.N.length, z⟩ (exec C (.par i j a b))) := by
  simp only [chkS] at h
  split at h
  · rename_i x px y py kt pt e f k2 pt2 pos
    rw [Bool.and_eq_true] at h
    obtain ⟨h, h9⟩ := h
    simp only [Bool.and_eq_true, decide_eq_true_eq, Bool.not_eq_true'] at h
    obtain ⟨⟨⟨⟨⟨⟨⟨⟨h1, h2⟩, h3⟩, h4⟩, h5⟩, h6⟩, h7⟩, h8⟩, hE⟩ := h
    have h9' := zz hz h9
    rw [Bool.or_eq_true, Option.isNone_iff_eq_none, Bool.and_eq_true, decide_eq_true_eq, decide_eq_true_eq] at h9'
    have hpl := hE
    simp only [chkEs, Bool.and_eq_true] at hpl
    have hNi : X.N[i]? = some x := by rw [ok.hN]; exact h1
    have hNj : X.N[j]? = some y := by rw [ok.hN]; exact h3
    have hij : i ≠ j := fun e => h5 (by rw [e, hNj] at hNi; exact (Option.some.inj hNi).symm)
    have hs0 : ∀ l env, swapsWith (.Tuple [e, f] k2 pt2) (some (.Tuple [.Name x px, .Name y py] kt pt)) l env = pure false := fun l env => sw_other fun _ _ z => Expr.noConfusion z
    have hs1 : ∀ l env, swapsWithSole [.Tuple [.Name x px, .Name y py] kt pt] (.Tuple [e, f] k2 pt2) l env = pure false := fun l env => hs0 l env
    refine ps_of (ps_par ok.calm ok.nd hNi hNj hij (lc_of ok h2) (lc_of ok h4) (soundS [a, b] G W X [e, f] ok hE) (sw_par hk (lc_of ok h2) (lc_of ok h4) h6 h5 h7 h8 hpl.1.1 hpl.2.1.1) (hs1 _ _)) fun D σ H ⟨J0, H0, J, env, Fs, s, o⟩ => ?_
    have hi : i < X.N.length := (List.getElem?_eq_some_iff.mp hNi).1
    have hj : j < X.N.length := (List.getElem?_eq_some_iff.mp hNj).1
    simp only [exec] at o
    refine ⟨_, env, (s.ext_frP (p := fun _ => true)).good, s.rsenvA, ?_⟩
    show OutW (evs C env [a, b]) _ _
    cases q : evs C env [a, b] with
    | bad => rw [q] at o; exact o.elim
    | err x => rw [q] at o; exact ErV.post s (OutS.erV o)
    | ok ts =>
      rw [q] at o
      intro vs J' H' F e f r
      match ts, o, r with
      | [t, u], o, r =>
        simp only at o
        split at o
        · rename_i hc
          simp only [Bool.and_eq_true, decide_eq_true_eq] at hc
          obtain ⟨⟨c1, c2⟩, _⟩ := hc
          simp only [ROs] at r
          obtain ⟨v, vs1, F1, F2, rfl, rfl, r1, w, vs2, F3, F4, rfl, rfl, r2, rfl, rfl⟩ := r
          rw [List.append_nil] at f
          have hnd := List.nodup_append.mp f.nd
          have f1 : Fr H J' H' F1 := ⟨fun x m => f.new x (List.mem_append_left _ m), fun x m => f.out x (List.mem_append_left _ m), fun x m => f.there x (List.mem_append_left _ m), hnd.1⟩
          have f3 : Fr H J' H' F3 := ⟨fun x m => f.new x (List.mem_append_right _ m), fun x m => f.out x (List.mem_append_right _ m), fun x m => f.there x (List.mem_append_right _ m), hnd.2.1⟩
          obtain ⟨r1', f1'⟩ := s.own_back e f1 c1 r1
          obtain ⟨r2', f3'⟩ := s.own_back e f3 c2 r2
          obtain ⟨g1, d1⟩ := frAll s e.hh f1'
          obtain ⟨g3, d3⟩ := frAll s e.hh f3'
          have s1 := (s.back e).set (i := i) hi (h9'.imp id And.left) r1' g1 fun l x _ m => d1 l x m
          have s2 := s1.set (i := j) hj (h9'.imp id And.right) r2' g3 fun l x _ m => by
            unfold setF at m
            split at m
            · exact fun m3 => hnd.2.2 x m x m3 rfl
            · exact d3 l x m
          exact ⟨v, w, rfl, o _ _ _ _ s2 (s.same_unf e)⟩
        · exact o.elim
      | [], o, _ => exact o.elim
      | [_], o, _ => exact o.elim
      | _ :: _ :: _ :: _, o, _ => exact o.elim
  · cases h
theorem RO_atom {K : PySem.W.Frag} {t : T} {v : V} {F : List Addr} (h : atomT t = true) (r : RO c K J H t v F) : F = [] ∧ ∀ J' H', RO c K J' H' t v [] := by
  cases t with
  | nd g o xs => simp [atomT] at h
  | _ =>
    simp only [RO] at r ⊢
    exact ⟨r.2, fun _ _ => ⟨r.1, trivial⟩⟩
theorem x_pop0 (ok : CtxOk c C G W k X) {z : Option V} (hz : z = none ∨ G.self = true) {i j : Nat} {st : Stmt} (h : chkS G (.pop0 i j) st = true) : PS X st (tX c X.K W ⟨X.N.length, z⟩ (exec C (.pop0 i j))) := by
  simp only [chkS] at h
  split at h
  · rename_i x px o m apos kk pk pos spos
    rw [Bool.and_eq_true] at h
    obtain ⟨h, h9⟩ := h
    simp only [Bool.and_eq_true, decide_eq_true_eq] at h
    obtain ⟨⟨⟨⟨⟨h1, h2⟩, h3⟩, h4⟩, h5⟩, h6⟩ := h
    subst h1
    have h9' := zz hz h9
    rw [Bool.or_eq_true, Option.isNone_iff_eq_none, Bool.and_eq_true, decide_eq_true_eq, decide_eq_true_eq] at h9'
    obtain ⟨l1, l2⟩ := loc_of ok h5
    have hN : X.N[i]? = some x := by rw [ok.hN]; exact h4
    have hi : i < X.N.length := (List.getElem?_eq_some_iff.mp hN).1
    have po : PE X o (tVar j) := pe_L (W := W) (C := C) ok (l := .mv j) h6
    have hst : starEach [.Constant (.int 0) kk pk] X.env = (false, eval (.Constant (.int 0) kk pk) X.env) :: starEach [] X.env := starEach_cons rfl
    refine ps_of (ps_set ok.nd hN l1 (pe_bm PySem.F.plainAttrs_list PySem.F.slot_list_pop PySem.F.type_list_pop mt_popAt po (pa_cons pe_int pa_nil hst) (attrBase h3) (by rw [hst]; rfl) h2 hst rfl) (by rfl) l2) fun D σ H ⟨J0, H0, J, env, Fs, s, o⟩ => ?_
    simp only [exec] at o
    split at o
    · rename_i x0 xs hq
      split at o
      · rename_i hc
        simp only [Bool.and_eq_true, decide_eq_true_eq] at hc
        obtain ⟨v, e1, r1⟩ := s.sl j _ hq
        obtain ⟨a, vs, Fx, fo⟩ := s.focus hq e1 (is := []) (g := .lst) (by intro z; cases z) rfl
        have hva := fo.val
        simp only [vAt] at hva
        cases hva
        have hk := fo.kids
        simp only [ROs] at hk
        obtain ⟨v0, vr, F1, F2, rfl, rfl, r0, rr⟩ := hk
        obtain ⟨rfl, r0'⟩ := RO_atom hc.1 r0
        obtain ⟨Fs4, s4⟩ := s.remake hq e1 fo (o := .lst vr) (g' := .lst) (xs' := xs) (vs' := vr) (Fw := []) (F' := F2) (fun _ z => by cases z) (show AtO c X.K _ a .lst _ from upd_same) (by intro z; cases z) .nil (fun _ _ _ z => nomatch z) rr (by simpa using (List.nodup_cons.mp fo.nd).2) (fun b m => .inl (by simpa using m))
        have s5 := s4.set (i := i) hi (h9'.imp id And.left) (r0' _ _) .nil fun _ _ _ _ z => nomatch z
        refine ⟨.ref a, e1, tyList fo.at_, a, v0 :: vr, 0, 0, v0, rfl, rfl, fo.at_, by decide, by decide, ?_, rfl, ?_⟩
        · simp [seqIndex?]
        · exact o _ _ _ _ s5 (Same.refl _)
      · exact o.elim
    · exact o.elim
  · cases h
end
end Rb
/-! Blocks and loops; the theorem of statements. -/
namespace Rb
open PySem
open PySem.Spec
open PyProof.Rows
open L2
structure XOk (c : CA) (C : Calls) (G : Gc) (W : WX) (k : Nat) (X : Cx) : Prop where
  ok : CtxOk c C G W k X
  po : PassesOwn (model X.prog X.w) X.A X.env X.xe
  kd : X.env.scope.kind = .function
section
variable {c : CA} {C : Calls} {G : Gc} {W : WX} {k : Nat} {X : Cx} {n : NZ} {J0 H0 J H Jb : Hp} {σ : L2.St} {env : Env} {Fs : Nat → List Addr} {D : Ends}
theorem pt_tBf (ok : CtxOk c C G W k X) {x : IE} {e : Expr} (h : chkE G x e = true) (ht : tst e = true) : PT X e (tBf c X.K W n fun env => evC C env x) := sound_B ok x e h ht
theorem pi_F (ok : CtxOk c C G W k X) (ow : Bool) (fv : List Nat) (it : It') {tg e : Expr} (h : chkI G it tg e = true) : PI X tg e (tIf' c X.K W n fun env => evF C env ow fv it) := by
  cases ow with
  | false => exact sound_It ok it fv tg e h
  | true =>
    cases it with
    | seq x =>
      simp only [chkI] at h
      exact pi_own ok h
    | _ => exact pi_of (sound_It (n := n) (W := W) ok _ fv tg e h) fun σ H Q ⟨_, _, _, _, _, _, o⟩ => o.elim
theorem for_go {K : PySem.W.Frag} {p : Pat} {kl : List Nat} {f : Env → SR} {tb : TS} {D : Ends} {it : L2.It} {Jw : Hp} {ts : List T} (wk : Walk c K it Jw ts) (hin : inZ n p = true)
    (hb : ∀ D σ H, tX c K W n f D σ H → tb D σ H) (s : SL c K n J0 H0 J H σ env Fs) (sw : Same Jw J) (o : OutS c K n J0 H0 W J D (forGo p kl f ts env)) :
    ∃ Wi : Nat → Nat → L2.St → Hp → Prop, (∃ m, Wi 0 m σ H) ∧ ∀ i m σ H, Wi i m σ H →
      (it.stop i H ∧ D.nx σ H) ∨ (it.go i H ∧ ∃ N : L2.St → Hp → Prop, (∀ σ' H', N σ' H' → ∃ m', m' < m ∧ Wi (i + 1) m' σ' H') ∧ ∀ x H', it.yld i H x H' → gP K p x σ H' fun σ2 H2 => tb { D with nx := N, ct := N, bk := D.nx } σ2 H2) := by
  refine ⟨fun i m σ H => m + i = ts.length ∧ ∃ (J : Hp) (env : Env) (Fs : Nat → List Addr), SL c K n J0 H0 J H σ env Fs ∧ Same Jw J ∧ OutS c K n J0 H0 W J D (forGo p kl f (ts.drop i) env), ⟨ts.length, rfl, J, env, Fs, s, sw, o⟩, ?_⟩
  rintro i m σ H ⟨hm, J, env, Fs, s, sw, o⟩
  obtain ⟨wk1, wk2⟩ := wk i J H s.ext.good sw
  by_cases hi : i < ts.length
  · rw [List.drop_eq_getElem_cons hi] at o
    obtain ⟨go, yl⟩ := wk1 ts[i] (List.getElem?_eq_getElem hi)
    refine .inr ⟨go, fun σ' H' => m - 1 + (i + 1) = ts.length ∧ ∃ (J : Hp) (env : Env) (Fs : Nat → List Addr), SL c K n J0 H0 J H' σ' env Fs ∧ Same Jw J ∧ OutS c K n J0 H0 W J D (forGo p kl f (ts.drop (i + 1)) env), fun σ' H' q => ⟨m - 1, by omega, q⟩, fun x H' y => ?_⟩
    obtain ⟨Jn, ex, rx⟩ := yl x H' y
    have s2 := s.step ex
    simp only [forGo] at o
    split at o
    · exact o.elim
    · rename_i e1 he
      refine pat_sl s2.ext.good p ts[i] x env e1 Fs σ _ s2 rx he hin fun σ2 Fs2 s3 => hb _ _ _ ⟨J0, H0, Jn, e1, Fs2, s3, ?_⟩
      have o' := OutS.mono o ex.jj
      have sj : Same Jw Jn := sw.trans ex.jj
      cases q : f e1 with
      | nx e2 =>
        rw [q] at o'
        exact fun σ' J' H2 Fs' s' sj' => ⟨by omega, J', kill kl e2, Fs', s'.kill, sj.trans sj', OutS.mono o' sj'⟩
      | ct e2 =>
        rw [q] at o'
        exact fun σ' J' H2 Fs' s' sj' => ⟨by omega, J', kill kl e2, Fs', s'.kill, sj.trans sj', OutS.mono o' sj'⟩
      | bk e2 =>
        rw [q] at o'
        exact fun σ' J' H2 Fs' s' sj' => o' σ' J' H2 Fs' s'.kill sj'
      | rt t => rw [q] at o'; exact o'
      | er z e2 => rw [q] at o'; exact o'
      | bad => rw [q] at o'; exact o'.elim
  · have : i = ts.length := by omega
    subst this
    rw [List.drop_length] at o
    exact .inl ⟨wk2 (Nat.le_refl _), o σ J H Fs s (Same.refl J)⟩
theorem wh_go {K : PySem.W.Frag} {cd : Env → BR} {kl : List Nat} {f : Env → SR} {tc : TT} {tb : TS} {D : Ends} (hc : ∀ σ H Q, tBf c K W n cd σ H Q → tc σ H Q) (hb : ∀ D σ H, tX c K W n f D σ H → tb D σ H) {fu : Nat}
    (s : SL c K n J0 H0 J H σ env Fs) (o : OutS c K n J0 H0 W J D (whGo cd kl f fu env)) : tWhile tc tb D σ H := by
  refine ⟨fun m σ H => ∃ (J : Hp) (env : Env) (Fs : Nat → List Addr), SL c K n J0 H0 J H σ env Fs ∧ OutS c K n J0 H0 W J D (whGo cd kl f m env), ⟨fu, J, env, Fs, s, o⟩, ?_⟩
  rintro m σ H ⟨J, env, Fs, s, o⟩
  refine hc σ H _ ⟨J0, H0, J, env, Fs, s, ?_⟩
  cases m with
  | zero => exact o.elim
  | succ m =>
    simp only [whGo] at o
    cases q : cd env with
    | bad => rw [q] at o; exact o.elim
    | er z e => rw [q] at o; exact OutS.erV o
    | ok b =>
      rw [q] at o
      intro J1 H1 Fs1 s1 sj
      cases b with
      | false =>
        rw [if_neg Bool.false_ne_true]
        exact o σ J1 H1 Fs1 s1 sj
      | true =>
        rw [if_pos rfl]
        refine ⟨fun σ' H' => ∃ (J : Hp) (env : Env) (Fs : Nat → List Addr), SL c K n J0 H0 J H' σ' env Fs ∧ OutS c K n J0 H0 W J D (whGo cd kl f m env), fun σ' H' z => ⟨m, by omega, z⟩, hb _ _ _ ⟨J0, H0, J1, env, Fs1, s1, ?_⟩⟩
        have o' := OutS.mono o sj
        simp only at o'
        cases q : f env with
        | nx e2 =>
          rw [q] at o'
          exact fun σ' J' H2 Fs' s' sj' => ⟨J', kill kl e2, Fs', s'.kill, OutS.mono o' sj'⟩
        | ct e2 =>
          rw [q] at o'
          exact fun σ' J' H2 Fs' s' sj' => ⟨J', kill kl e2, Fs', s'.kill, OutS.mono o' sj'⟩
        | bk e2 =>
          rw [q] at o'
          exact fun σ' J' H2 Fs' s' sj' => o' σ' J' H2 Fs' s'.kill sj'
        | rt t => rw [q] at o'; exact o'
        | er z e2 => rw [q] at o'; exact o'
        | bad => rw [q] at o'; exact o'.elim
mutual
theorem soundX (xo : XOk c C G W k X) {z : Option V} (hz : z = none ∨ G.self = true) : ∀ (x : IS) (st : Stmt), chkS G x st = true → PS X st (tX c X.K W ⟨X.N.length, z⟩ (exec C x))
  | .pas, st, h => by
    simp only [chkS] at h
    split at h
    · exact ps_of ps_pass fun D σ H ⟨J0, H0, J, env, Fs, s, o⟩ => o σ J H Fs s (Same.refl J)
    · exact ps_of ps_doc fun D σ H ⟨J0, H0, J, env, Fs, s, o⟩ => o σ J H Fs s (Same.refl J)
    · cases h
  | .brk, st, h => by
    simp only [chkS] at h
    split at h
    · exact ps_of ps_break fun D σ H ⟨J0, H0, J, env, Fs, s, o⟩ => o σ J H Fs s (Same.refl J)
    · cases h
  | .cnt, st, h => by
    simp only [chkS] at h
    split at h
    · exact ps_of ps_continue fun D σ H ⟨J0, H0, J, env, Fs, s, o⟩ => o σ J H Fs s (Same.refl J)
    · cases h
  | .nev, st, h => ps_of ps_never fun D σ H ⟨J0, H0, J, env, Fs, s, o⟩ => o
  | .retN, st, h => by
    simp only [chkS] at h
    split at h
    · exact ps_of ps_retN fun D σ H ⟨J0, H0, J, env, Fs, s, o⟩ => o .non J H [] s.ext (Same.refl J) (by simp [RO]) .nil
    · cases h
  | .asg p l, st, h => x_asg xo.ok hz xo.kd h
  | .aug i add e, st, h => x_aug xo.ok hz h
  | .ext i l, st, h => x_ext xo.ok hz h
  | .app i ps l, st, h => x_app xo.ok hz h
  | .put i ps x l, st, h => x_put xo.ok hz h
  | .clr i ps, st, h => x_clr xo.ok hz h
  | .ret l, st, h => x_ret xo.ok hz h
  | .exp e, st, h => x_exp xo.ok hz h
  | .fld f l, st, h => x_fld xo.ok hz h
  | .par i j a b, st, h => x_par xo.ok hz xo.kd h
  | .pop0 i j, st, h => x_pop0 xo.ok hz h
  | .iff x a b, st, h => by
    simp only [chkS] at h
    split at h
    · simp only [Bool.and_eq_true] at h
      obtain ⟨⟨⟨h1, h2⟩, h3⟩, h4⟩ := h
      refine ps_of (ps_if (pt_tBf (n := ⟨X.N.length, z⟩) xo.ok h2 h1) (soundXs xo hz a _ h3) (soundXs xo hz b _ h4)) fun D σ H ⟨J0, H0, J, env, Fs, s, o⟩ => ?_
      simp only [exec] at o
      refine ⟨J0, H0, J, env, Fs, s, out_goB o fun b J1 H1 Fs1 _ s1 sj o1 => ?_⟩
      cases b with
      | true => exact ⟨J0, H0, J1, env, Fs1, s1, o1⟩
      | false => exact ⟨J0, H0, J1, env, Fs1, s1, o1⟩
    · cases h
  | .floop p ow fv it kl b, st, h => by
    simp only [chkS] at h
    split at h
    · simp only [Bool.and_eq_true] at h
      obtain ⟨⟨⟨⟨h1, h2⟩, h3⟩, h4⟩, h5⟩ := h
      refine ps_of (ps_for xo.po xo.ok.calm (pi_F (n := ⟨X.N.length, z⟩) xo.ok ow fv it h3) (sound_P xo.ok _ _ h1) (soundXs xo hz b _ h4) (noFold h2)) fun D σ H ⟨J0, H0, J, env, Fs, s, o⟩ => ?_
      simp only [exec] at o
      have hin := chkP_in p _ h1
      rw [← xo.ok.hN] at hin
      have hin := inZ_of (n := ⟨X.N.length, z⟩) (fun _ => trivial) _ hin (zz hz h5)
      exact ⟨J0, H0, J, env, Fs, s, out_goL o fun ts env1 it Jw J1 H1 Fs1 s1 sj wk sw o1 => for_go wk hin (fun _ _ _ z => z) s1 sw o1⟩
    · cases h
  | .whl x kl b, st, h => by
    simp only [chkS] at h
    split at h
    · simp only [Bool.and_eq_true] at h
      obtain ⟨⟨h1, h2⟩, h3⟩ := h
      refine ps_of (ps_while xo.po (pt_tBf (n := ⟨X.N.length, z⟩) xo.ok h2 h1) (soundXs xo hz b _ h3)) fun D σ H ⟨J0, H0, J, env, Fs, s, o⟩ => ?_
      simp only [exec] at o
      exact wh_go (fun _ _ _ z => z) (fun _ _ _ z => z) s o
    · cases h
theorem soundXs (xo : XOk c C G W k X) {z : Option V} (hz : z = none ∨ G.self = true) : ∀ (xs : List IS) (st : List Stmt), chkSs G xs st = true → PSs X st (tX c X.K W ⟨X.N.length, z⟩ (execs C xs))
  | [], [], h => pss_of pss_nil fun D σ H ⟨J0, H0, J, env, Fs, s, o⟩ => o σ J H Fs s (Same.refl J)
  | x :: xs, t :: ts, h => by
    simp only [chkSs, Bool.and_eq_true] at h
    refine pss_of (pss_cons (soundX xo hz x t h.1) (soundXs xo hz xs ts h.2)) fun D σ H ⟨J0, H0, J, env, Fs, s, o⟩ => ⟨J0, H0, J, env, Fs, s, ?_⟩
    simp only [execs] at o
    cases q : exec C x env with
    | nx e => rw [q] at o; exact fun σ' J' H' Fs' s' sj => ⟨J0, H0, J', e, Fs', s', OutS.mono o sj⟩
    | rt t => rw [q] at o; exact o
    | bk e => rw [q] at o; exact o
    | ct e => rw [q] at o; exact o
    | er z e => rw [q] at o; exact o
    | bad => rw [q] at o; exact o
  | [], _ :: _, h => by simp [chkSs] at h
  | _ :: _, [], h => by simp [chkSs] at h
end
end
end Rb
/-! Defs. -/
namespace Rb
open PySem
open PySem.Spec
open PyProof.Rows
open L2
def env0 (n : Nat) (ts : List T) : Env := (strips ts).map some ++ List.replicate (n - ts.length) none
def endR : SR → R T
  | .rt t => .ok t
  | .nx _ => .ok .non
  | .er x _ => .err x
  | _ => .bad
def callB (C : Calls) (n np : Nat) (body : List IS) (ts : List T) : R T := if ts.length = np then endR (execs C body (env0 n ts)) else .bad
def endI : SR → R T
  | .nx env => match getS env 0 with
    | some t => .ok t
    | none => .bad
  | .er x _ => .err x
  | _ => .bad
def initB (C : Calls) (cn : String) (n np : Nat) (body : List IS) (ts : List T) : R T := if ts.length + 1 = np then endI (execs C body (some (.nd (.obj cn []) true []) :: env0 (n - 1) ts)) else .bad
theorem getS_app {a b : Env} {i : Nat} : getS (a ++ b) i = if i < a.length then getS a i else getS b (i - a.length) := by
  unfold getS
  by_cases h : i < a.length
  · rw [List.getElem?_append_left h, if_pos h]
  · rw [List.getElem?_append_right (by omega), if_neg h]
theorem getS_none {n i : Nat} : getS (List.replicate n none) i = none := by
  unfold getS
  rw [List.getElem?_replicate]
  split <;> simp_all
theorem getS_env0 {n i : Nat} {ts : List T} {t : T} (h : getS (env0 n ts) i = some t) : ∃ u, ts[i]? = some u ∧ t = strip u := by
  unfold env0 at h
  rw [getS_app] at h
  split at h
  · unfold getS at h
    rw [strips_map, List.getElem?_map, List.getElem?_map] at h
    cases q : ts[i]? with
    | none => rw [q] at h; cases h
    | some u => rw [q] at h; cases h; exact ⟨u, rfl, rfl⟩
  · rw [getS_none] at h; cases h
section
variable {P : Program} {w : World} {K : PySem.W.Frag} {mg : Str → Option Value} {base : Heap} {c : CA} {C : Calls} {G : Gc} {k : Nat}
theorem start_get {N : List Str} {vs : List V} {i : Nat} {v : V} (h : vs[i]? = some v) : (L2.start N vs)[i]? = some (some v) := by
  unfold L2.start
  have hi := (List.getElem?_eq_some_iff.mp h).1
  rw [List.getElem?_append_left (by simpa using hi), List.getElem?_map, h]
  rfl
theorem start_len {N : List Str} {vs : List V} (h : vs.length ≤ N.length) : (L2.start N vs).length = N.length := by
  unfold L2.start
  rw [List.length_append, List.length_map, List.length_replicate]
  omega
theorem ctx_def {x qual : Str} {scope : Scope} {f : Addr} {cdv : Value} {A : Around} {outer : List PySem.Env} {s : Shared} {H : Hp} {E : XK} {ps : List Str} (S : FnScope G.N ps scope) (h1 : G.sc = scope) (h2 : G.osc = scope) (pr : ProgOk P w K mg base c C G k)
    (hr : Room (k + 1) (A.deeper (envOfC qual scope s.heap.objs.size f cdv))) : XOk c C G (fun cls d _ H => E cls d H) k (cxOf (L2.CX P w) P w K mg base G.N qual scope f cdv A outer s H E) where
  ok := { hN := rfl, nd := S.nd, sc := h1.symm, keep := fun x q _ h => by rw [h2] at h; exact h, fn := fun _ _ => rfl, calm := rfl, room := hr, tk := takes_of rfl rfl rfl rfl, prog := pr }
  po := passes_of rfl
  kd := S.kind
theorem fn_def {x qual : Str} {params : Arguments} {body : List Stmt} {scope : Scope} {dvs : List V} {kws : List (Str × V)} {f : Addr} {fd : FuncData} {ps : List Str} {xs : List IS} (F : FunD K x qual params body scope dvs kws f fd) (S : FnScope G.N ps scope) (h1 : G.sc = scope) (h2 : G.osc = scope)
    (hc : chkSs G xs body = true) (pr : ProgOk P w K mg base c C G k) : FnOk P w K mg base (L2.CX P w) (k + 2) f fd ps (spT c K (callB C G.N.length ps.length xs)) := by
  have hpl : ps.length ≤ G.N.length := by have := congrArg List.length S.pre; rw [List.length_take] at this; omega
  have hlen : ∀ {vs H Q E}, spT c K (callB C G.N.length ps.length xs) vs H Q E → vs.length = ps.length := fun {vs H Q E} ⟨J, ts, g, re, o⟩ => by
    unfold callB at o
    split at o
    · rename_i h
      rw [← re.length]; exact h
    · exact o.elim
  refine F.ok S (fun vs H Q E h => hlen h) fun cdv A outer s H vs Q E hr h => ?_
  have hl := hlen h
  obtain ⟨J, ts, g, re, o⟩ := h
  unfold callB at o
  split at o
  · rename_i hts
    refine ⟨_, soundXs (z := none) (ctx_def (x := x) S h1 h2 pr hr) (.inl rfl) xs body hc, J, H, J, env0 G.N.length ts, fun _ => [], ⟨.refl g, ⟨start_len (by omega), fun _ z => by cases z⟩, fun i t h => ?_, fun _ => .nil, fun _ _ _ z => nomatch z⟩, ?_⟩
    · obtain ⟨u, e1, rfl⟩ := getS_env0 h
      obtain ⟨v, e2, e3⟩ := re.get e1
      exact ⟨v, start_get e2, RO_strip u v e3⟩
    · show OutS c K ⟨G.N.length, none⟩ J H _ J _ (execs C xs (env0 G.N.length ts))
      cases q : execs C xs (env0 G.N.length ts) with
      | nx e =>
        rw [q] at o
        exact fun σ J' H' Fs s _ => o .non J' H' [] s.ext .nil (by simp [RO])
      | rt t =>
        rw [q] at o
        exact fun v J' H' F e _ r fr => o v J' H' F e fr r
      | er z e =>
        rw [q] at o
        exact fun cls d σ J' H' Fs s _ ex => o cls d J' H' s.ext ex
      | bk e => rw [q] at o; exact o.elim
      | ct e => rw [q] at o; exact o.elim
      | bad => rw [q] at o; exact o.elim
  · exact o.elim
theorem fn_init {x qual : Str} {params : Arguments} {body : List Stmt} {scope : Scope} {dvs : List V} {kws : List (Str × V)} {f : Addr} {fd : FuncData} {ps : List Str} {xs : List IS} {cn : String} {Ca : Addr} (F : FunD K x qual params body scope dvs kws f fd) (S : FnScope G.N ps scope) (h1 : G.sc = scope) (h2 : G.osc = scope)
    (hs : G.self = true) (hca : c cn = some Ca) (hc : chkSs G xs body = true) (pr : ProgOk P w K mg base c C G k) : FnOk P w K mg base (L2.CX P w) (k + 2) f fd ps (spI c K Ca (initB C cn G.N.length ps.length xs)) := by
  have hpl : ps.length ≤ G.N.length := by have := congrArg List.length S.pre; rw [List.length_take] at this; omega
  have hlen : ∀ {vs H Q E}, spI c K Ca (initB C cn G.N.length ps.length xs) vs H Q E → vs.length = ps.length := fun {vs H Q E} ⟨J, H1, y, dx, ws, ts, e1, e2, n1, n2, n3, g, re, o⟩ => by
    unfold initB at o
    split at o
    · rename_i h
      rw [e1, List.length_cons, ← re.length]; exact h
    · exact o.elim
  refine F.ok S (fun vs H Q E h => hlen h) fun cdv A outer s H vs Q E hr h => ?_
  have hl := hlen h
  obtain ⟨J, H1, y, dx, ws, ts, rfl, rfl, n1, n2, n3, g, re, o⟩ := h
  unfold initB at o
  split at o
  · rename_i hts
    have jy : J y = none := g.sub.free n1
    have ex : Ext J H1 J (upd (upd H1 dx (.own y)) y (.ins Ca dx [])) := by
      have e1 : Ext J H1 J (upd H1 dx (.own y)) := Ext.newH g n2 fun _ z => by cases z
      exact e1.trans (Ext.newH e1.good (by rw [upd_ne (Ne.symm n3)]; exact n1) fun _ z => by cases z)
    refine ⟨_, soundXs (z := some (.ref y)) (ctx_def (x := x) S h1 h2 pr hr) (.inr hs) xs body hc, J, H1, J, some (.nd (.obj cn []) true []) :: env0 (G.N.length - 1) ts, fun i => if i = 0 then [y] else [], ⟨ex, ⟨start_len (by omega), fun v z => by cases z; exact start_get rfl⟩, fun i t h => ?_, fun i => ?_, fun i j a hi hj => ?_⟩, ?_⟩
    · cases i with
      | zero =>
        rw [getS_zero] at h; cases h
        refine ⟨.ref y, start_get rfl, ?_⟩
        rw [if_pos rfl]
        exact RO.mk (vs := []) (by intro z; cases z) ⟨Ca, dx, hca, by rw [upd_same]; rfl, rfl⟩ jy (by simp [ROs])
      | succ i =>
        rw [getS_succ] at h
        obtain ⟨u, e1, rfl⟩ := getS_env0 h
        obtain ⟨v, e2, e3⟩ := re.get e1
        refine ⟨v, start_get (by simpa using e2), ?_⟩
        rw [if_neg (Nat.succ_ne_zero i)]
        exact RO_strip u v e3
    · split
      · refine ⟨fun a m => ?_, fun a m => ?_, fun a m => ?_, by simp⟩
        · rw [List.mem_singleton.mp m]; exact n1
        · rw [List.mem_singleton.mp m]; exact jy
        · rw [List.mem_singleton.mp m, upd_same]; exact fun z => by cases z
      · exact .nil
    · by_cases e1 : i = 0
      · by_cases e2 : j = 0
        · rw [e1, e2]
        · rw [if_neg e2] at hj; cases hj
      · rw [if_neg e1] at hi; cases hi
    · show OutS c K ⟨G.N.length, some (.ref y)⟩ J H1 _ J _ (execs C xs (some (.nd (.obj cn []) true []) :: env0 (G.N.length - 1) ts))
      cases q : execs C xs (some (.nd (.obj cn []) true []) :: env0 (G.N.length - 1) ts) with
      | nx e =>
        rw [q] at o
        intro σ J' H' Fs s _
        simp only [endI] at o
        cases q2 : getS e 0 with
        | none => rw [q2] at o; exact o.elim
        | some t =>
          rw [q2] at o
          obtain ⟨v, e1, r⟩ := s.sl 0 t q2
          have e2 := s.len.2 _ rfl
          rw [e1] at e2
          cases e2
          exact o (.ref y) J' H' (Fs 0) s.ext (s.fr 0) r rfl
      | rt t => rw [q] at o; exact o.elim
      | er z e =>
        rw [q] at o
        exact fun cls d σ J' H' Fs s _ ex => o cls d J' H' s.ext ex
      | bk e => rw [q] at o; exact o.elim
      | ct e => rw [q] at o; exact o.elim
      | bad => rw [q] at o; exact o.elim
  · exact o.elim
end
end Rb
/-! A program: its defs in a table. -/
namespace Rb
open PySem
open PySem.Spec
open PyProof.Rows
open L2
inductive AtM where
  | fn (f : String) | me (cn m : String) | pr (cn f : String) | nw (cn : String)
  deriving DecidableEq
structure DefT where
  k : AtM
  x : Str
  qual : Str
  params : Arguments
  body : List Stmt
  scope : Scope
  ps : List Str
  N : List Str
  xs : List IS
structure Tab where
  ds : List DefT
  consts : List (String × Key)
  flds : List (String × String)
def Tab.get (T : Tab) (k : AtM) : Option DefT := T.ds.find? fun d => decide (d.k = k)
def isNw : AtM → Bool
  | .nw _ => true
  | _ => false
def Tab.fns (T : Tab) : List String := T.ds.filterMap fun d => match d.k with
  | .fn f => some f
  | _ => none
def Tab.cls (T : Tab) : List String := T.ds.filterMap fun d => match d.k with
  | .nw f => some f
  | _ => none
def Tab.gc (T : Tab) (d : DefT) : Gc := { N := d.N, osc := d.scope, sc := d.scope, consts := T.consts, fns := T.fns, cls := T.cls, self := isNw d.k }
def callD (C : Calls) (o : Option DefT) (ts : List T) : R T := match o with
  | some d => callB C d.N.length d.ps.length d.xs ts
  | none => .bad
def makeD (C : Calls) (cn : String) (o : Option DefT) (ts : List T) : R T := match o with
  | some d => initB C cn d.N.length d.ps.length d.xs ts
  | none => .bad
/-- what the defs are worth, so many calls deep -/
def mkC (T : Tab) : Nat → Calls
  | 0 => ⟨fun _ _ => .bad, fun _ _ _ => .bad, fun _ _ _ => .bad, fun _ _ => .bad, fun cn f => T.flds.contains (cn, f), fun cn m => (T.get (.me cn m)).isSome⟩
  | k + 1 => ⟨fun f ts => callD (mkC T k) (T.get (.fn f)) ts, fun cn m ts => callD (mkC T k) (T.get (.me cn m)) ts, fun cn f t => callD (mkC T k) (T.get (.pr cn f)) [t], fun cn ts => makeD (mkC T k) cn (T.get (.nw cn)) ts,
      fun cn f => T.flds.contains (cn, f), fun cn m => (T.get (.me cn m)).isSome⟩
/-- what the checker says of a def -/
def scB (N ps : List Str) (sc : Scope) : Bool := (match sc.kind with | .function => true | _ => false) && !sc.isCoroutine && !sc.isGenerator && decide N.Nodup && decide (N.take ps.length = ps) && (ps.all fun x => decide (sc.names.lookup x = some .local) || decide (sc.names.lookup x = some .cell)) && sc.names.all fun y => decide (y.2 ≠ .free)
theorem scB_ok {N ps : List Str} {sc : Scope} (h : scB N ps sc = true) : FnScope N ps sc := by
  simp only [scB, Bool.and_eq_true, Bool.not_eq_true', decide_eq_true_eq, List.all_eq_true, Bool.or_eq_true] at h
  obtain ⟨⟨⟨⟨⟨⟨h1, h2⟩, h3⟩, h4⟩, h5⟩, h6⟩, h7⟩ := h
  refine ⟨?_, h2, h3, h4, h5, h6, h7⟩
  cases q : sc.kind <;> first | rfl | (rw [q] at h1; cases h1)
def Tab.chk (T : Tab) : Bool := T.ds.all fun d => scB d.N d.ps d.scope && chkSs (T.gc d) d.xs d.body
/-- a def of the table stands at f -/
def Stands (K : PySem.W.Frag) (d : DefT) (f : Addr) (fd : FuncData) : Prop := FunD K d.x d.qual d.params d.body d.scope [] [] f fd ∧ Binds K fd d.ps []
structure TabOk (K : PySem.W.Frag) (mg : Str → Option Value) (c : CA) (T : Tab) : Prop where
  fn : ∀ d ∈ T.ds, ∀ f, d.k = .fn f → ∃ fa fd, mg (Str.ofString f) = some (.ref fa) ∧ Stands K d fa fd
  me : ∀ d ∈ T.ds, ∀ cn m, d.k = .me cn m → ∃ Ca fa fd, c cn = some Ca ∧ Cls K Ca ∧ Meth K Ca (Str.ofString m) fa ∧ Stands K d fa fd
  pr : ∀ d ∈ T.ds, ∀ cn f, d.k = .pr cn f → ∃ Ca p g fd, c cn = some Ca ∧ Cls K Ca ∧ PropOf K Ca (Str.ofString f) p g ∧ Stands K d g fd
  nw : ∀ d ∈ T.ds, ∀ cn, d.k = .nw cn → ∃ Ca fa fd, c cn = some Ca ∧ mg (Str.ofString cn) = some (.ref Ca) ∧ Mk K Ca fa ∧ Stands K d fa fd
  fld : ∀ p ∈ T.flds, ∀ Ca, c p.1 = some Ca → Cls K Ca ∧ NoAttr K Ca (Str.ofString p.2)
  blt : ∀ b ∈ bltNames, mg (Str.ofString b) = none
  glb : ∀ x q, T.consts.lookup x = some q → ∃ u, mg (Str.ofString x) = some u ∧ RelV (kV q) u
section
variable {P : Program} {w : World} {K : PySem.W.Frag} {mg : Str → Option Value} {base : Heap} {c : CA} {T : Tab}
theorem get_mem {k : AtM} {d : DefT} (h : T.get k = some d) : d ∈ T.ds ∧ d.k = k := by
  unfold Tab.get at h
  exact ⟨List.mem_of_find?_eq_some h, by simpa using List.find?_some h⟩
theorem get_some {k : AtM} (h : ∃ d ∈ T.ds, d.k = k) : ∃ d, T.get k = some d := by
  obtain ⟨d, m, e⟩ := h
  cases q : T.get k with
  | some d => exact ⟨d, rfl⟩
  | none =>
    unfold Tab.get at q
    rw [List.find?_eq_none] at q
    exact absurd e (by simpa using q d m)
theorem fn_bad {k : Nat} {f : Addr} {fd : FuncData} {ps : List Str} : FnOk P w K mg base (L2.CX P w) k f fd ps (spT c K fun _ => .bad) :=
  ⟨fun vs H Q E ⟨J, ts, g, re, o⟩ => o.elim, fun A outer s H args us vs Q E hr he hb hv ⟨J, ts, g, re, o⟩ => o.elim⟩
theorem fn_badI {k : Nat} {f Ca : Addr} {fd : FuncData} {ps : List Str} : FnOk P w K mg base (L2.CX P w) k f fd ps (spI c K Ca fun _ => .bad) :=
  ⟨fun vs H Q E ⟨J, H1, y, dx, ws, ts, e1, e2, n1, n2, n3, g, re, o⟩ => o.elim, fun A outer s H args us vs Q E hr he hb hv ⟨J, H1, y, dx, ws, ts, e1, e2, n1, n2, n3, g, re, o⟩ => o.elim⟩
theorem spT_imp {k : Nat} {f : Addr} {fd : FuncData} {ps : List Str} {s s' : List Rb.T → R Rb.T} (F : FnOk P w K mg base (L2.CX P w) k f fd ps (spT c K s)) (h : ∀ ts, s' ts = s ts ∨ s' ts = .bad) : FnOk P w K mg base (L2.CX P w) k f fd ps (spT c K s') :=
  F.imp fun vs H Q E ⟨J, ts, g, re, o⟩ => by
    rcases h ts with e | e
    · rw [e] at o; exact ⟨J, ts, g, re, o⟩
    · rw [e] at o; exact o.elim
theorem prog_ok (hc : T.chk = true) (ok : TabOk K mg c T) : ∀ (k : Nat) (G : Gc), G.fns = T.fns → G.cls = T.cls → G.consts = T.consts → ProgOk P w K mg base c (mkC T k) G (2 * k)
  | k, G, e1, e2, e3 => by
    have hd : ∀ d ∈ T.ds, FnScope d.N d.ps d.scope ∧ chkSs (T.gc d) d.xs d.body = true := fun d m => by
      have := List.all_eq_true.mp hc d m
      rw [Bool.and_eq_true] at this
      exact ⟨scB_ok this.1, this.2⟩
    have fnm : ∀ {f}, G.fns.contains f = true → ∃ d, T.get (.fn f) = some d := fun {f} h => by
      rw [e1] at h
      have m := List.contains_iff_mem.mp h
      unfold Tab.fns at m
      rw [List.mem_filterMap] at m
      obtain ⟨d, m1, m2⟩ := m
      split at m2
      · rename_i f' hk
        cases m2
        exact get_some ⟨d, m1, hk⟩
      · cases m2
    have clm : ∀ {f}, G.cls.contains f = true → ∃ d, T.get (.nw f) = some d := fun {f} h => by
      rw [e2] at h
      have m := List.contains_iff_mem.mp h
      unfold Tab.cls at m
      rw [List.mem_filterMap] at m
      obtain ⟨d, m1, m2⟩ := m
      split at m2
      · rename_i f' hk
        cases m2
        exact get_some ⟨d, m1, hk⟩
      · cases m2
    have gl : ∀ x q, G.consts.lookup x = some q → ∃ u, mg (Str.ofString x) = some u ∧ RelV (kV q) u := fun x q h => ok.glb x q (by rw [← e3]; exact h)
    have fl : ∀ cn f, T.flds.contains (cn, f) = true → ∀ Ca, c cn = some Ca → Cls K Ca ∧ NoAttr K Ca (Str.ofString f) := fun cn f h => ok.fld _ (List.contains_iff_mem.mp h)
    cases k with
    | zero =>
      refine ⟨fun f h => ?_, fun cn m h => ?_, fun cn h => ?_, fun cn f t h => ?_, fl, ok.blt, gl⟩
      · obtain ⟨d, hg⟩ := fnm h
        obtain ⟨m, hk⟩ := get_mem hg
        obtain ⟨fa, fd, g1, F, B⟩ := ok.fn d m f hk
        exact ⟨fa, fd, d.ps, g1, F.kp, B, fn_bad⟩
      · have h : (T.get (.me cn m)).isSome = true := h
        obtain ⟨d, hg⟩ := Option.isSome_iff_exists.mp h
        obtain ⟨hm, hk⟩ := get_mem hg
        obtain ⟨Ca, fa, fd, g1, g2, g3, F, B⟩ := ok.me d hm cn m hk
        exact ⟨Ca, fa, fd, d.ps, g1, g2, g3, B, fn_bad⟩
      · obtain ⟨d, hg⟩ := clm h
        obtain ⟨m, hk⟩ := get_mem hg
        obtain ⟨Ca, fa, fd, g1, g2, g3, F, B⟩ := ok.nw d m cn hk
        exact ⟨Ca, fa, fd, d.ps, g1, g2, g3, B, fn_badI⟩
      · exact absurd rfl h
    | succ k =>
      have ih := fun d => prog_ok hc ok k (T.gc d) rfl rfl rfl
      refine ⟨fun f h => ?_, fun cn m h => ?_, fun cn h => ?_, fun cn f t h => ?_, fl, ok.blt, gl⟩
      · obtain ⟨d, hg⟩ := fnm h
        obtain ⟨m, hk⟩ := get_mem hg
        obtain ⟨fa, fd, g1, F, B⟩ := ok.fn d m f hk
        refine ⟨fa, fd, d.ps, g1, F.kp, B, ?_⟩
        have := fn_def (G := T.gc d) F (hd d m).1 rfl rfl (hd d m).2 (ih d)
        refine spT_imp this fun ts => .inl ?_
        show callD _ (T.get (.fn f)) ts = _
        rw [hg]; rfl
      · have h : (T.get (.me cn m)).isSome = true := h
        obtain ⟨d, hg⟩ := Option.isSome_iff_exists.mp h
        obtain ⟨hm, hk⟩ := get_mem hg
        obtain ⟨Ca, fa, fd, g1, g2, g3, F, B⟩ := ok.me d hm cn m hk
        refine ⟨Ca, fa, fd, d.ps, g1, g2, g3, B, ?_⟩
        have := fn_def (G := T.gc d) F (hd d hm).1 rfl rfl (hd d hm).2 (ih d)
        refine spT_imp this fun ts => .inl ?_
        show callD _ (T.get (.me cn m)) ts = _
        rw [hg]; rfl
      · obtain ⟨d, hg⟩ := clm h
        obtain ⟨m, hk⟩ := get_mem hg
        obtain ⟨Ca, fa, fd, g1, g2, g3, F, B⟩ := ok.nw d m cn hk
        refine ⟨Ca, fa, fd, d.ps, g1, g2, g3, B, ?_⟩
        have := fn_init (G := T.gc d) (cn := cn) F (hd d m).1 rfl rfl (by show isNw d.k = true; rw [hk]; rfl) g1 (hd d m).2 (ih d)
        refine this.imp fun vs H Q E ⟨J, H1, y, dx, ws, ts, z1, z2, n1, n2, n3, g, re, o⟩ => ⟨J, H1, y, dx, ws, ts, z1, z2, n1, n2, n3, g, re, ?_⟩
        replace o : Out c K J H1 (makeD (mkC T k) cn (T.get (.nw cn)) ts) (fun v H' => v = .ref y → Q .non H') E := o
        rw [hg] at o
        exact o
      · replace h : callD (mkC T k) (T.get (.pr cn f)) [t] ≠ .bad := h
        cases hg : T.get (.pr cn f) with
        | none => rw [hg] at h; exact absurd rfl h
        | some d =>
          obtain ⟨m, hk⟩ := get_mem hg
          obtain ⟨Ca, p, g, fd, g1, g2, g3, F, B⟩ := ok.pr d m cn f hk
          refine ⟨Ca, p, g, fd, d.ps, g1, g2, g3, B, ?_⟩
          have := fn_def (G := T.gc d) F (hd d m).1 rfl rfl (hd d m).2 (ih d)
          refine spT_imp this fun ts => ?_
          match ts with
          | [] => exact .inr rfl
          | [t'] =>
            refine .inl ?_
            show callD _ (T.get (.pr cn f)) [t'] = _
            rw [hg]; rfl
          | _ :: _ :: _ => exact .inr rfl
end
end Rb
/-! The head: what is seen of the defs behind the top. -/
namespace Rb
open PySem
open PySem.Spec
open PyProof.Rows
open L2
/-- where a def stands -/
def adK (K : PySem.W.Frag) : AtM → Addr
  | .fn f => He.ga K (Str.ofString f)
  | .me cn m => He.ma K (He.ga K (Str.ofString cn)) (Str.ofString m)
  | .pr cn f => match PySem.W.recIn K (He.ma K (He.ga K (Str.ofString cn)) (Str.ofString f)) "property" with
    | some (.ref g :: _) => g
    | _ => 0
  | .nw cn => He.ma K (He.ga K (Str.ofString cn)) "__init__"
def fnAt (K : PySem.W.Frag) (a : Addr) : He.FnW := match K.lookup a with
  | some ⟨_, _, .func u, _⟩ => some (u.name, u.qualname, u.params, u.body, u.scope, u.globals, u.closure, u.builtins)
  | _ => none
def DefT.seen (d : DefT) : He.FnW := some (d.x, d.qual, d.params, .stmts d.body, d.scope, mainGlobals, [], builtinsNs)
def stB (K : PySem.W.Frag) (d : DefT) : Bool := PySem.W.keepIn K (.ref (adK K d.k)) && (match K.lookup (adK K d.k) with
  | some ⟨_, _, .func u, _⟩ => PySem.W.codeIn K u.code d.qual && (He.dflB K u.defaults [] && He.kwdB K u.kwdefaults [])
  | _ => false)
theorem stB_ok {K : PySem.W.Frag} {d : DefT} (e : fnAt K (adK K d.k) = d.seen) (h : stB K d = true) : ∃ fd, FunD K d.x d.qual d.params d.body d.scope [] [] (adK K d.k) fd := by
  rw [stB, Bool.and_eq_true] at h
  obtain ⟨kp, h⟩ := h
  unfold fnAt at e
  cases q : K.lookup (adK K d.k) with
  | none => rw [q] at h; cases h
  | some o =>
    rw [q] at h e
    obtain ⟨oc, od, dt, osl⟩ := o
    cases dt with
    | func u =>
      simp only [Bool.and_eq_true] at h
      obtain ⟨a1, a2, a3⟩ := h
      obtain ⟨m1, m2, m3, m4, m5, m6, m7, m8, m9, m10, m11, m12, m13, m14, m15⟩ := u
      simp only [DefT.seen, Option.some.injEq, Prod.mk.injEq] at e
      obtain ⟨rfl, rfl, rfl, rfl, rfl, rfl, rfl, rfl⟩ := e
      exact ⟨_, ⟨oc, od, m8, m9, m10, m11, m12, m13, m14, osl, rfl, q, a1, He.dflB_ok a2, He.kwdB_ok a3⟩, kp⟩
    | _ => cases h
/-- a property of a class -/
def propB (K : PySem.W.Frag) (cn f : String) : Bool :=
  let Ca := He.ga K (Str.ofString cn)
  let p := He.ma K Ca (Str.ofString f)
  He.eqO (PySem.W.findIn K (.ref Ca) (Str.ofString f)) (some (some (.ref p))) && (He.eqO (PySem.W.specialIn K (.ref p) "__get__") (some (some (.builtin "property.__get__"))) && (decide (PySem.W.takesIn K (.ref p) = some true) &&
    (match PySem.W.recIn K p "property" with
      | some (.ref _ :: _) => true
      | _ => false)))
theorem propB_ok {K : PySem.W.Frag} {cn f : String} (h : propB K cn f = true) : PropOf K (He.ga K (Str.ofString cn)) (Str.ofString f) (He.ma K (He.ga K (Str.ofString cn)) (Str.ofString f)) (adK K (.pr cn f)) := by
  simp only [propB, Bool.and_eq_true, decide_eq_true_eq] at h
  obtain ⟨h1, h2, h3, h4⟩ := h
  refine ⟨He.eqO_ok h1, He.eqO_ok h2, h3, ?_⟩
  unfold adK
  cases q : PySem.W.recIn K (He.ma K (He.ga K (Str.ofString cn)) (Str.ofString f)) "property" with
  | none => rw [q] at h4; cases h4
  | some l =>
    rw [q] at h4
    cases l with
    | nil => cases h4
    | cons v r =>
      cases v with
      | ref g =>
        refine ⟨r, ?_⟩
        simp only [q]
      | _ => cases h4
def kindB (K : PySem.W.Frag) (d : DefT) : Bool := match d.k with
  | .fn f => (He.Fa.glo (Str.ofString f)).ok K
  | .me cn m => (He.Fa.cls (Str.ofString cn)).ok K && (He.Fa.meth (Str.ofString cn) (Str.ofString m)).ok K
  | .pr cn f => (He.Fa.cls (Str.ofString cn)).ok K && propB K cn f
  | .nw cn => (He.Fa.glo (Str.ofString cn)).ok K && (He.Fa.mkr (Str.ofString cn)).ok K
def constB (K : PySem.W.Frag) : String × Key → Bool
  | (x, .inl i) => (He.Fa.int (Str.ofString x) i).ok K
  | (x, .inr z) => (He.Fa.str (Str.ofString x) z).ok K
def allB (T : Tab) (K : PySem.W.Frag) : Bool := (T.ds.all fun d => kindB K d && stB K d) && ((T.flds.all fun p => (He.Fa.cls (Str.ofString p.1)).ok K && (He.Fa.noat (Str.ofString p.1) (Str.ofString p.2)).ok K) && ((bltNames.all fun b => (He.Fa.free (Str.ofString b)).ok K) && T.consts.all fun p => constB K p))
abbrev AlM : Type := Bool × List He.FnW
def obsM (T : Tab) (K : PySem.W.Frag) : AlM := (allB T K, T.ds.map fun d => fnAt K (adK K d.k))
def valM (T : Tab) : AlM := (true, T.ds.map DefT.seen)
def obsMG (n : Nat) (T : Tab) (g : Addr → Option Obj) : AlM := obsM T (He.frG g (He.asD g n))
def hookM (n : Nat) (T : Tab) : PySem.W.Hook where
  α := AlM
  obs := fun s => obsMG n T s.heap.get?
  val := fun _ => valM T
  says := fun _ h => ∃ K : PySem.W.Frag, K.In h ∧ obsM T K = valM T
  of := fun _ _ e => ⟨_, He.frG_in, e⟩
  keeps := fun _ _ _ ⟨K, hK, c⟩ k => ⟨K, PySem.W.Frag.In.keeps hK k, c⟩
theorem obsMG_eq {n : Nat} {T : Tab} {g : Addr → Option Obj} {s : Shared} (h : ∀ a, g a = s.heap.get? a) : obsMG n T g = (hookM n T).obs s := by
  have e : g = s.heap.get? := funext h
  rw [e] <;> rfl
/-- how a def's arguments bind -/
def BindF (d : DefT) : Prop := ∀ (kV doc pm : Value) (an : Option Addr) (cdv ct : Value) (us : List Value), us.length = d.ps.length → bindArgs (PySem.W.fnOf d.x d.qual d.params d.body d.scope .none kV doc pm an cdv ct) ⟨us, []⟩ = pure (d.ps.zip us)
def BindAll : List DefT → Prop
  | [] => True
  | d :: ds => BindF d ∧ BindAll ds
theorem BindAll.at : ∀ {ds : List DefT} {d : DefT}, BindAll ds → d ∈ ds → BindF d
  | _ :: _, _, h, .head _ => h.1
  | _ :: _, _, h, .tail _ m => BindAll.at h.2 m
def caOf (K : PySem.W.Frag) : CA := fun cn => some (He.ga K (Str.ofString cn))
theorem tab_ok {T : Tab} {K : PySem.W.Frag} {h : Heap} {mg : Str → Option Value} (X : K.In h) (G : h.Ns mainGlobals mg) (hb : BindAll T.ds) (o : obsM T K = valM T) : TabOk K mg (caOf K) T := by
  have o1 : allB T K = true := congrArg (fun z : AlM => z.1) o
  have o2 : T.ds.map (fun d => fnAt K (adK K d.k)) = T.ds.map DefT.seen := congrArg (fun z : AlM => z.2) o
  simp only [allB, Bool.and_eq_true, List.all_eq_true] at o1
  obtain ⟨q1, q2, q3, q4⟩ := o1
  have st : ∀ d ∈ T.ds, ∃ fd, Stands K d (adK K d.k) fd := fun d m => by
    have e : fnAt K (adK K d.k) = d.seen := List.map_inj_left.mp o2 d m
    obtain ⟨fd, F⟩ := stB_ok e (q1 d m).2
    exact ⟨fd, F, F.bindsN (hb.at m)⟩
  refine ⟨fun d m f hk => ?_, fun d m cn mm hk => ?_, fun d m cn f hk => ?_, fun d m cn hk => ?_, fun p m Ca e => ?_, fun b m => He.free_ok X G (q3 b m), fun x q e => ?_⟩
  · obtain ⟨fd, S⟩ := st d m
    have k1 := (q1 d m).1
    unfold kindB at k1
    rw [hk] at k1 S
    exact ⟨_, fd, He.glo_ok X G k1, S⟩
  · obtain ⟨fd, S⟩ := st d m
    have k1 := (q1 d m).1
    unfold kindB at k1
    rw [hk] at k1 S
    simp only [Bool.and_eq_true] at k1
    exact ⟨_, _, fd, rfl, He.cls_ok k1.1, He.meth_ok k1.2, S⟩
  · obtain ⟨fd, S⟩ := st d m
    have k1 := (q1 d m).1
    unfold kindB at k1
    rw [hk] at k1 S
    simp only [Bool.and_eq_true] at k1
    exact ⟨_, _, _, fd, rfl, He.cls_ok k1.1, propB_ok k1.2, S⟩
  · obtain ⟨fd, S⟩ := st d m
    have k1 := (q1 d m).1
    unfold kindB at k1
    rw [hk] at k1 S
    simp only [Bool.and_eq_true] at k1
    exact ⟨_, _, fd, rfl, He.glo_ok X G k1.1, He.mkr_ok k1.2, S⟩
  · have := q2 p m
    cases e
    exact ⟨He.cls_ok this.1, He.noat_ok this.2⟩
  · have m : (x, q) ∈ T.consts := by
      have key : ∀ l : List (String × Key), l.lookup x = some q → (x, q) ∈ l := by
        intro l
        induction l with
        | nil => intro h; cases h
        | cons p l ih =>
          obtain ⟨y, v⟩ := p
          intro h
          rw [List.lookup_cons] at h
          split at h
          · rename_i e
            cases h
            rw [eq_of_beq e]
            exact List.mem_cons_self
          · exact List.mem_cons_of_mem _ (ih h)
      exact key _ e
    have := q4 _ m
    cases q with
    | inl i =>
      obtain ⟨t, e⟩ := He.int_ok X G this
      exact ⟨_, e, ⟨t, rfl⟩⟩
    | inr z =>
      obtain ⟨t, e⟩ := He.str_ok X G this
      exact ⟨_, e, ⟨t, rfl⟩⟩
/-- a law that is true of the table -/
theorem law_ok {l : PySem.W.OpenLaw} {w : World} {K : PySem.W.Frag} {h : Heap} {mg : Str → Option Value} {T : Tab} {n : Nat} {x : Str} {d : DefT} {fa : Addr} (X : K.In h) (G : h.Ns mainGlobals mg) (hb : BindAll T.ds) (o : obsM T K = valM T) (hc : T.chk = true)
    (hd : T.get (.fn "law") = some d) (hps : d.ps = [x]) (hfa : mg (Str.ofString "law") = some (.ref fa)) (k : Nat)
    (tr : ∀ ns : List Int, ns.length ≤ n → (∀ z ∈ ns, Builtin.Int.intBits z ≤ 1048576) → (mkC T (k + 1)).fn "law" [.nd .ext false (ns.map Rb.T.int)] = .ok (.bl true)) :
    LamX.LawAtS l w K (L2.CX l.prog w) (2 * (k + 1)) n x mg fa h := by
  have ok := tab_ok X G hb o
  obtain ⟨m, hk⟩ := get_mem hd
  obtain ⟨fa', fd, g1, F, B⟩ := ok.fn d m "law" hk
  rw [hfa] at g1
  cases g1
  refine ⟨fd, [], spT (caOf K) K ((mkC T (k + 1)).fn "law"), fun _ m => (nomatch m), fun _ m => (nomatch m), fun _ m => (nomatch m), fun s u => ?_, fun H a ns hl hbits _ hs => ?_, fun base _ _ _ => ?_⟩
  · have := F.bindsA (ps := d.ps) (hb.at m) s [u] (by rw [hps]; rfl)
    rw [hps] at this
    exact this
  · refine ⟨H, [.nd .ext false (ns.map Rb.T.int)], .refl H, ?_, ?_⟩
    · simp only [RSs, RS, At]
      refine ⟨_, _, rfl, ⟨a, _, rfl, hs, ?_⟩, rfl⟩
      clear hl hs hbits
      induction ns with
      | nil => simp [RSs]
      | cons i ns ih =>
        simp only [List.map_cons, RSs, RS]
        exact ⟨_, _, rfl, rfl, ih⟩
    · rw [tr ns hl hbits]
      intro v J' H' F' e f r
      simp only [RO] at r
      exact r.1
  · have pr := prog_ok (P := l.prog) (w := w) (base := base) hc ok k (T.gc d) rfl rfl rfl
    have hdc := List.all_eq_true.mp hc d m
    rw [Bool.and_eq_true] at hdc
    have := fn_def (G := T.gc d) F (scB_ok hdc.1) rfl rfl hdc.2 pr
    have e : ∀ ts, (mkC T (k + 1)).fn "law" ts = callB (mkC T k) (T.gc d).N.length d.ps.length d.xs ts := fun ts => by
      show callD _ (T.get (.fn "law")) ts = _
      rw [hd]
      rfl
    have := spT_imp this fun ts => .inl (e ts)
    rw [hps] at this
    exact this
theorem cx_none {P : Program} {w : World} {H : Hp} {s : Shared} {e : Value} {s' : Shared} (h : L2.CX P w [] H s (fun _ _ _ => False) e s') : False := by
  obtain ⟨_, _, _, _, _, _, _, _, _, _, _, _, z⟩ := h
  exact z
end Rb
namespace Rb
/-! ### ways: one link behind the other -/
section
variable {α : Type} [DecidableEq α]
/-- a way of k links -/
def Wk (E : α → α → Prop) : Nat → α → α → Prop
  | 0, a, b => a = b
  | k + 1, a, b => ∃ c, E a c ∧ Wk E k c b
def Tc (E : α → α → Prop) (a b : α) : Prop := ∃ k, Wk E (k + 1) a b
variable {E : α → α → Prop}
theorem Wk.trans : ∀ {k l : Nat} {a b c : α}, Wk E k a b → Wk E l b c → Wk E (k + l) a c
  | 0, l, a, b, c, h, g => by cases h; rw [Nat.zero_add]; exact g
  | k + 1, l, a, b, c, ⟨d, h1, h2⟩, g => by
    rw [Nat.add_right_comm]
    exact ⟨d, h1, h2.trans g⟩
theorem Tc.one {a b : α} (h : E a b) : Tc E a b := ⟨0, b, h, rfl⟩
theorem Tc.trans {a b c : α} (h : Tc E a b) (g : Tc E b c) : Tc E a c := by
  obtain ⟨k, h⟩ := h
  obtain ⟨l, g⟩ := g
  exact ⟨k + 1 + l, h.trans g⟩
/-- what holds all links and chains them holds all ways -/
theorem Tc.least {R : α → α → Prop} (h1 : ∀ a b, E a b → R a b) (h2 : ∀ a b c, R a b → R b c → R a c) : ∀ {k : Nat} {a b : α}, Wk E (k + 1) a b → R a b
  | 0, a, b, ⟨c, h, e⟩ => by cases e; exact h1 _ _ h
  | k + 1, a, b, ⟨c, h, g⟩ => h2 _ _ _ (h1 _ _ h) (Tc.least h1 h2 g)
/-! ### places of a way -/
theorem Wk.fun : ∀ {k : Nat} {a b : α}, Wk E k a b → ∃ f : Nat → α, f 0 = a ∧ f k = b ∧ ∀ i, i < k → E (f i) (f (i + 1))
  | 0, a, b, h => ⟨fun _ => a, rfl, h, fun i h => by omega⟩
  | k + 1, a, b, ⟨c, h, g⟩ => by
    obtain ⟨f, f0, fk, fi⟩ := g.fun
    refine ⟨fun i => if i = 0 then a else f (i - 1), rfl, by simpa using fk, fun i hi => ?_⟩
    cases i with
    | zero => simpa [f0] using h
    | succ i => simpa using fi i (by omega)
theorem Wk.of_fun {k : Nat} {f : Nat → α} (h : ∀ i, i < k → E (f i) (f (i + 1))) : Wk E k (f 0) (f k) := by
  induction k generalizing f with
  | zero => rfl
  | succ k ih => exact ⟨f 1, h 0 (by omega), ih (f := fun i => f (i + 1)) fun i hi => h (i + 1) (by omega)⟩
theorem nodup_len : ∀ {l m : List α}, l.Nodup → (∀ x ∈ l, x ∈ m) → l.length ≤ m.length
  | [], m, _, _ => Nat.zero_le _
  | x :: l, m, h, s => by
    have hx := s x List.mem_cons_self
    have h1 := List.nodup_cons.mp h
    have := nodup_len (l := l) (m := m.erase x) h1.2 fun y hy => (List.mem_erase_of_ne (by rintro rfl; exact h1.1 hy)).mpr (s y (List.mem_cons_of_mem _ hy))
    rw [List.length_erase_of_mem hx] at this
    have := List.length_pos_of_mem hx
    simp only [List.length_cons]
    omega
theorem dup_range {f : Nat → α} : ∀ {k : Nat}, ¬ ((List.range k).map f).Nodup → ∃ i j, i < j ∧ j < k ∧ f i = f j
  | 0, h => absurd (by simp) h
  | k + 1, h => by
    by_cases g : ((List.range k).map f).Nodup
    · rw [List.range_succ, List.map_append, List.map_cons, List.map_nil] at h
      have : f k ∈ (List.range k).map f := by
        refine Classical.byContradiction fun n => h ?_
        rw [List.nodup_append]
        refine ⟨g, by simp, ?_⟩
        rintro a ha b hb rfl
        rw [List.mem_singleton] at hb
        subst hb
        exact n ha
      obtain ⟨i, hi, e⟩ := List.mem_map.mp this
      exact ⟨i, k, List.mem_range.mp hi, by omega, e⟩
    · obtain ⟨i, j, a, b, c⟩ := dup_range g
      exact ⟨i, j, a, by omega, c⟩
/-- no way needs more links than there are items -/
theorem Tc.short {V : List α} (hV : ∀ a b, E a b → b ∈ V) {a b : α} (h : Tc E a b) : ∃ k, k < V.length ∧ Wk E (k + 1) a b := by
  obtain ⟨k, h⟩ := h
  induction k using Nat.strongRecOn generalizing a b with
  | ind k ih =>
    by_cases hk : k < V.length
    · exact ⟨k, hk, h⟩
    · obtain ⟨f, f0, fk, fi⟩ := h.fun
      have : ¬ ((List.range (k + 1)).map fun i => f (i + 1)).Nodup := fun n => by
        have := nodup_len (m := V) n fun x hx => by
          obtain ⟨i, hi, rfl⟩ := List.mem_map.mp hx
          exact hV _ _ (fi i (List.mem_range.mp hi))
        simp at this
        omega
      obtain ⟨i, j, hij, hj, e⟩ := dup_range this
      have w1 : Wk E (i + 1) (f 0) (f (i + 1)) := Wk.of_fun fun t ht => fi t (by omega)
      have w2 : Wk E (k - j) (f (j + 1)) (f (k + 1)) := by
        have := Wk.of_fun (E := E) (k := k - j) (f := fun t => f (j + 1 + t)) fun t ht => by
          have := fi (j + 1 + t) (by omega)
          exact this
        have e2 : j + 1 + (k - j) = k + 1 := by omega
        simpa [e2] using this
      rw [← e] at w2
      have w3 := w1.trans w2
      rw [f0, fk] at w3
      have e3 : i + 1 + (k - j) = i + (k - j) + 1 := by omega
      rw [e3] at w3
      exact ih (i + (k - j)) (by omega) w3
/-! ### one table of lists -/
def upF {β : Type} (F : α → β) (a : α) (v : β) : α → β := fun x => if x = a then v else F x
@[simp] theorem upF_same {β : Type} (F : α → β) (a : α) (v : β) : upF F a v a = v := by simp [upF]
theorem upF_ne {β : Type} (F : α → β) {a x : α} (v : β) (h : x ≠ a) : upF F a v x = F x := by simp [upF, h]
/-! ### the law's closure -/
def addA (acc : List α) (x : α) : List α := if x ∈ acc then acc else acc ++ [x]
theorem mem_addA {acc : List α} {x y : α} : y ∈ addA acc x ↔ y ∈ acc ∨ y = x := by
  unfold addA
  split
  · rename_i h
    constructor
    · exact .inl
    · rintro (h2 | rfl) <;> assumption
  · simp
theorem mem_addAs {y : α} : ∀ {l acc : List α}, y ∈ l.foldl addA acc ↔ y ∈ acc ∨ y ∈ l
  | [], acc => by simp
  | x :: l, acc => by
    rw [List.foldl_cons, mem_addAs, mem_addA, List.mem_cons, or_assoc]
def stpB (F : α → List α) (e : α × α) : α → List α := upF F e.1 ((e.2 :: F e.2).foldl addA (F e.1))
def rndB (es : List (α × α)) (F : α → List α) : α → List α := es.foldl stpB F
def betB (es : List (α × α)) (n : Nat) : α → List α := (List.range n).foldl (fun F _ => rndB es F) fun _ => []
theorem stpB_mem {F : α → List α} {e : α × α} {a b : α} : b ∈ stpB F e a ↔ b ∈ F a ∨ a = e.1 ∧ (b = e.2 ∨ b ∈ F e.2) := by
  unfold stpB
  by_cases h : a = e.1
  · subst h
    rw [upF_same, mem_addAs, List.mem_cons]
    simp
  · rw [upF_ne _ _ h]
    simp [h]
theorem rndB_sound {P : α → α → Prop} (ht : ∀ a b c, P a b → P b c → P a c) : ∀ {es : List (α × α)} {F : α → List α}, (∀ e ∈ es, P e.1 e.2) → (∀ a b, b ∈ F a → P a b) → ∀ a b, b ∈ rndB es F a → P a b
  | [], F, _, h => h
  | e :: es, F, he, h => rndB_sound ht (es := es) (F := stpB F e) (fun x m => he x (List.mem_cons_of_mem _ m)) fun a b m => by
      rcases stpB_mem.mp m with m | ⟨rfl, rfl | m⟩
      · exact h _ _ m
      · exact he e List.mem_cons_self
      · exact ht _ _ _ (he e List.mem_cons_self) (h _ _ m)
theorem rndB_mono : ∀ {es : List (α × α)} {F : α → List α} {a b : α}, b ∈ F a → b ∈ rndB es F a
  | [], F, a, b, h => h
  | e :: es, F, a, b, h => rndB_mono (es := es) (F := stpB F e) (stpB_mem.mpr (.inl h))
theorem rndB_step : ∀ {es : List (α × α)} {F : α → List α} {e : α × α} {b : α}, e ∈ es → (b = e.2 ∨ b ∈ F e.2) → b ∈ rndB es F e.1
  | d :: es, F, e, b, h, g => by
    rcases List.mem_cons.mp h with rfl | h
    · exact rndB_mono (es := es) (F := stpB F e) (stpB_mem.mpr (.inr ⟨rfl, g⟩))
    · exact rndB_step (es := es) (F := stpB F d) h (g.imp id fun m => stpB_mem.mpr (.inl m))
theorem betB_succ (es : List (α × α)) (n : Nat) : betB es (n + 1) = rndB es (betB es n) := by
  unfold betB
  rw [List.range_succ, List.foldl_append]
  rfl
theorem betB_sound (es : List (α × α)) : ∀ n {a b : α}, b ∈ betB es n a → Tc (fun a b => (a, b) ∈ es) a b
  | 0, a, b, h => by simp [betB] at h
  | n + 1, a, b, h => by
    rw [betB_succ] at h
    exact rndB_sound (P := Tc fun a b => (a, b) ∈ es) (fun _ _ _ => Tc.trans) (fun e m => Tc.one m) (fun a b m => betB_sound es n m) a b h
theorem betB_full (es : List (α × α)) : ∀ n {k : Nat} {a b : α}, k < n → Wk (fun a b => (a, b) ∈ es) (k + 1) a b → b ∈ betB es n a
  | n + 1, k, a, b, hk, ⟨c, h, g⟩ => by
    rw [betB_succ]
    refine rndB_step (e := (a, c)) h ?_
    cases k with
    | zero => exact .inl (Eq.symm g)
    | succ k => exact .inr (betB_full es n (by omega) g)
theorem betB_iff {es : List (α × α)} {V : List α} (hV : ∀ e ∈ es, e.2 ∈ V) {a b : α} : b ∈ betB es (V.length + 1) a ↔ Tc (fun a b => (a, b) ∈ es) a b := by
  refine ⟨betB_sound es _, fun h => ?_⟩
  obtain ⟨k, hk, h⟩ := h.short (V := V) fun a b m => hV _ m
  exact betB_full es _ (by omega) h
/-! ### the program's closure -/
def wshS (V : List α) (m : α) (F : α → List α) (a : α) : α → List α := if m ∈ F a then upF F a (V.filter fun e => decide (e ∈ F a) || decide (e ∈ F m)) else F
def wshR (V : List α) (F : α → List α) (m : α) : α → List α := V.foldl (wshS V m) F
def wsh (V : List α) (F : α → List α) : α → List α := V.foldl (wshR V) F
theorem wshS_mem {V : List α} {m a : α} {F : α → List α} (hF : ∀ a b, b ∈ F a → b ∈ V) {x y : α} : y ∈ wshS V m F a x ↔ y ∈ F x ∨ x = a ∧ m ∈ F a ∧ y ∈ F m := by
  unfold wshS
  split
  · rename_i h
    by_cases e : x = a
    · subst e
      rw [upF_same, List.mem_filter]
      simp only [Bool.or_eq_true, decide_eq_true_eq]
      exact ⟨fun ⟨_, h2⟩ => h2.imp id fun q => ⟨trivial, h, q⟩, fun q => q.elim (fun q => ⟨hF _ _ q, .inl q⟩) fun ⟨_, _, q⟩ => ⟨hF _ _ q, .inr q⟩⟩
    · rw [upF_ne _ _ e]
      simp [e]
  · rename_i h
    exact ⟨.inl, fun q => q.elim id fun z => absurd z.2.1 h⟩
theorem wshS_in {V : List α} {m a : α} {F : α → List α} (hF : ∀ a b, b ∈ F a → b ∈ V) : ∀ x y, y ∈ wshS V m F a x → y ∈ V := fun x y h => by
  rcases (wshS_mem hF).mp h with h | ⟨_, _, h⟩ <;> exact hF _ _ h
/-- one row of the middle m: G is where the row began -/
theorem wshR_go {V : List α} {m : α} {G : α → List α} : ∀ {l : List α} {F : α → List α} {D : List α}, (∀ a b, b ∈ F a → b ∈ V) → (∀ x y, y ∈ F x ↔ y ∈ G x ∨ x ∈ D ∧ m ∈ G x ∧ y ∈ G m) →
    ((∀ a b, b ∈ l.foldl (wshS V m) F a → b ∈ V) ∧ ∀ x y, y ∈ l.foldl (wshS V m) F x ↔ y ∈ G x ∨ (x ∈ D ∨ x ∈ l) ∧ m ∈ G x ∧ y ∈ G m)
  | [], F, D, h1, h2 => ⟨h1, by simpa using h2⟩
  | a :: l, F, D, h1, h2 => by
    have hm : ∀ y, y ∈ F m ↔ y ∈ G m := fun y => by
      rw [h2]
      exact ⟨fun q => q.elim id fun q => q.2.2, .inl⟩
    have hm2 : ∀ x, m ∈ F x ↔ m ∈ G x := fun x => by
      rw [h2]
      exact ⟨fun q => q.elim id fun q => q.2.1, .inl⟩
    have := wshR_go (V := V) (m := m) (G := G) (l := l) (F := wshS V m F a) (D := a :: D) (wshS_in h1) fun x y => by
      rw [wshS_mem h1, h2, hm2, hm, List.mem_cons]
      constructor
      · rintro ((q | ⟨q1, q2, q3⟩) | ⟨rfl, q2, q3⟩)
        · exact .inl q
        · exact .inr ⟨.inr q1, q2, q3⟩
        · exact .inr ⟨.inl rfl, q2, q3⟩
      · rintro (q | ⟨rfl | q1, q2, q3⟩)
        · exact .inl (.inl q)
        · exact .inr ⟨rfl, q2, q3⟩
        · exact .inl (.inr ⟨q1, q2, q3⟩)
    refine ⟨this.1, fun x y => ?_⟩
    rw [List.foldl_cons, this.2 x y, List.mem_cons, List.mem_cons]
    have e : (x = a ∨ x ∈ D) ∨ x ∈ l ↔ x ∈ D ∨ x = a ∨ x ∈ l := by
      constructor
      · rintro ((q | q) | q)
        · exact .inr (.inl q)
        · exact .inl q
        · exact .inr (.inr q)
      · rintro (q | q | q)
        · exact .inl (.inr q)
        · exact .inl (.inl q)
        · exact .inr q
    rw [e]
theorem wshR_mem {V : List α} {m : α} {F : α → List α} (h1 : ∀ a b, b ∈ F a → b ∈ V) : (∀ a b, b ∈ wshR V F m a → b ∈ V) ∧ ∀ x y, y ∈ wshR V F m x ↔ y ∈ F x ∨ x ∈ V ∧ m ∈ F x ∧ y ∈ F m := by
  have := wshR_go (V := V) (m := m) (G := F) (l := V) (F := F) (D := []) h1 fun x y => by simp
  refine ⟨this.1, fun x y => ?_⟩
  rw [wshR, this.2 x y]
  simp
theorem wsh_go {V : List α} {P : α → α → Prop} (ht : ∀ a b c, P a b → P b c → P a c) {G : α → List α} : ∀ {l : List α} {F : α → List α} {D : List α}, (∀ m ∈ l, m ∈ V) → (∀ a b, b ∈ F a → b ∈ V) → (∀ a b, b ∈ F a → P a b) → (∀ a b, b ∈ G a → b ∈ F a)
    → (∀ m ∈ D, ∀ a ∈ V, ∀ b, m ∈ F a → b ∈ F m → b ∈ F a) → (∀ a b, b ∈ l.foldl (wshR V) F a → P a b ∧ b ∈ V) ∧ (∀ a b, b ∈ G a → b ∈ l.foldl (wshR V) F a) ∧ ∀ m, (m ∈ D ∨ m ∈ l) → ∀ a ∈ V, ∀ b, m ∈ l.foldl (wshR V) F a → b ∈ l.foldl (wshR V) F m → b ∈ l.foldl (wshR V) F a
  | [], F, D, hl, h1, h2, h3, h4 => ⟨fun a b q => ⟨h2 a b q, h1 a b q⟩, h3, fun m hm => h4 m (by simpa using hm)⟩
  | x :: l, F, D, hl, h1, h2, h3, h4 => by
    have r := wshR_mem (m := x) h1
    have hx := hl x List.mem_cons_self
    have := wsh_go (V := V) ht (G := G) (l := l) (F := wshR V F x) (D := x :: D) (fun m q => hl m (List.mem_cons_of_mem _ q)) r.1 (fun a b q => by
      rcases (r.2 a b).mp q with q | ⟨_, q1, q2⟩
      · exact h2 _ _ q
      · exact ht _ _ _ (h2 _ _ q1) (h2 _ _ q2)) (fun a b q => (r.2 a b).mpr (.inl (h3 a b q))) fun m hm a ha b q1 q2 => by
        rw [r.2] at q1 q2 ⊢
        have back : ∀ a, x ∈ F a ∨ a ∈ V ∧ x ∈ F a ∧ x ∈ F x → x ∈ F a := fun a q => q.elim id fun q => q.2.1
        rcases List.mem_cons.mp hm with rfl | hm
        · have q1' : m ∈ F a := q1.elim id fun q => q.2.1
          have q2' : b ∈ F m := q2.elim id fun q => q.2.2
          exact .inr ⟨ha, q1', q2'⟩
        · rcases q1 with q1 | ⟨_, q1, q1'⟩
          · rcases q2 with q2 | ⟨hm2, q2, q2'⟩
            · exact .inl (h4 m hm a ha b q1 q2)
            · exact .inr ⟨ha, h4 m hm a ha x q1 q2, q2'⟩
          · rcases q2 with q2 | ⟨hm2, q2, q2'⟩
            · exact .inr ⟨ha, q1, h4 m hm x hx b q1' q2⟩
            · exact .inr ⟨ha, q1, q2'⟩
    refine ⟨this.1, this.2.1, fun m hm => this.2.2 m ?_⟩
    rcases hm with hm | hm
    · exact .inl (List.mem_cons_of_mem _ hm)
    · rcases List.mem_cons.mp hm with rfl | hm
      · exact .inl List.mem_cons_self
      · exact .inr hm
theorem wsh_iff {V : List α} {F : α → List α} (h1 : ∀ a b, b ∈ F a → b ∈ V) (h0 : ∀ a b, b ∈ F a → a ∈ V) {a b : α} : b ∈ wsh V F a ↔ Tc (fun a b => b ∈ F a) a b := by
  have := wsh_go (V := V) (P := Tc fun a b => b ∈ F a) (fun _ _ _ => Tc.trans) (G := F) (l := V) (F := F) (D := []) (fun _ q => q) h1 (fun a b q => Tc.one q) (fun a b q => q) (fun m hm => by cases hm)
  refine ⟨fun q => (this.1 a b q).1, fun ⟨k, h⟩ => ?_⟩
  have key := Tc.least (E := fun a b => b ∈ F a) (R := fun a b => a ∈ V ∧ b ∈ wsh V F a) (fun a b q => ⟨h0 a b q, this.2.1 a b q⟩) (fun a b c q1 q2 => ⟨q1.1, this.2.2 b (.inr q2.1) a q1.1 c q1.2 q2.2⟩) h
  exact key.2
end
end Rb
namespace Rb
/-! ### logs: their stretches and links -/
inductive EvG (α : Type) where
  | rst (j : α) | ans (j i : α) (g : Int)
  deriving DecidableEq
structure LgG (α : Type) where
  items : List α
  gr : Int
  js : List (α × α)
  es : List (EvG α)
section
variable {α : Type} [DecidableEq α]
def isA : EvG α → Bool
  | .ans _ _ _ => true
  | _ => false
def judE : EvG α → α
  | .rst j => j
  | .ans j _ _ => j
def isAt (es : List (EvG α)) (p : Nat) : Bool := (es[p]?).any isA
def ansN (es : List (EvG α)) : List Nat := (List.range es.length).filter (isAt es)
def judB (es : List (EvG α)) (j : α) (p : Nat) : Bool := (es[p]?).any fun e => decide (judE e = j)
def ansOf (es : List (EvG α)) (j : α) : List Nat := (ansN es).filter (judB es j)
def rstB (es : List (EvG α)) (j : α) (p : Nat) : Bool := decide (es[p]? = some (.rst j))
def rsts (es : List (EvG α)) (j : α) : List Nat := (List.range es.length).filter (rstB es j)
/-- no reset of the judge parts the two places -/
def strP (es : List (EvG α)) (j : α) (p q : Nat) : Bool := (rsts es j).all fun r => if r < p then decide (r < q) else decide (q < r)
def strAt (es : List (EvG α)) (j : α) (p : Nat) : List Nat := (ansOf es j).filter (strP es j p)
def strStep (es : List (EvG α)) (j : α) (fd : List (List Nat)) (p : Nat) : List (List Nat) := if fd.length = 0 ∨ p ∉ fd.getLastD [] then fd ++ [strAt es j p] else fd
def strAll (es : List (EvG α)) (j : α) : List (List Nat) := (ansOf es j).foldl (strStep es j) []
theorem mem_ansN {es : List (EvG α)} {p : Nat} : p ∈ ansN es ↔ isAt es p = true := by
  unfold ansN
  rw [List.mem_filter, List.mem_range]
  refine ⟨And.right, fun h => ⟨?_, h⟩⟩
  unfold isAt at h
  by_cases g : p < es.length
  · exact g
  · rw [List.getElem?_eq_none (by omega)] at h; cases h
theorem mem_ansOf {es : List (EvG α)} {j : α} {p : Nat} : p ∈ ansOf es j ↔ ∃ i g, es[p]? = some (.ans j i g) := by
  unfold ansOf
  rw [List.mem_filter, mem_ansN]
  unfold isAt judB
  cases q : es[p]? with
  | none => simp
  | some e => cases e with
    | rst _ => simp [isA]
    | ans a b c =>
      simp only [Option.any_some, isA, judE, true_and, Option.some.injEq, EvG.ans.injEq]
      exact ⟨fun h => ⟨b, c, of_decide_eq_true h, rfl, rfl⟩, fun ⟨_, _, h, _⟩ => decide_eq_true h⟩
theorem mem_rsts {es : List (EvG α)} {j : α} {p : Nat} : p ∈ rsts es j ↔ es[p]? = some (.rst j) := by
  unfold rsts
  rw [List.mem_filter, List.mem_range]
  unfold rstB
  rw [decide_eq_true_eq]
  refine ⟨And.right, fun h => ⟨?_, h⟩⟩
  exact (List.getElem?_eq_some_iff.mp h).1
theorem ans_not {es : List (EvG α)} {j j' : α} {p r : Nat} (h : p ∈ ansOf es j) (g : r ∈ rsts es j') : r ≠ p := by
  rintro rfl
  obtain ⟨i, z, h⟩ := mem_ansOf.mp h
  rw [mem_rsts.mp g] at h
  cases h
theorem strP_iff {es : List (EvG α)} {j : α} {p q : Nat} (hq : q ∈ ansOf es j) : strP es j p q = true ↔ ∀ r ∈ rsts es j, (r < p ↔ r < q) := by
  unfold strP
  rw [List.all_eq_true]
  constructor
  · intro h r hr
    have := h r hr
    split at this
    · rename_i z
      exact ⟨fun _ => by simpa using this, fun _ => z⟩
    · have z : q < r := by simpa using this
      constructor <;> intro <;> omega
  · intro h r hr
    have h1 := h r hr
    have h2 := ans_not hq hr
    split
    · rename_i z
      simpa using h1.mp z
    · simp only [decide_eq_true_eq]
      omega
theorem mem_strAt {es : List (EvG α)} {j : α} {p q : Nat} : q ∈ strAt es j p ↔ q ∈ ansOf es j ∧ ∀ r ∈ rsts es j, (r < p ↔ r < q) := by
  unfold strAt
  rw [List.mem_filter]
  exact ⟨fun h => ⟨h.1, (strP_iff h.1).mp h.2⟩, fun h => ⟨h.1, (strP_iff h.1).mpr h.2⟩⟩
/-- what the walk over the answers keeps -/
theorem strGo {es : List (EvG α)} {j : α} : ∀ {l : List Nat} {fd : List (List Nat)} {D : List Nat}, (∀ p ∈ l, p ∈ ansOf es j) → (∀ s ∈ fd, ∃ p ∈ ansOf es j, s = strAt es j p) → (∀ p ∈ D, ∃ s ∈ fd, p ∈ s) →
    (∀ s ∈ l.foldl (strStep es j) fd, ∃ p ∈ ansOf es j, s = strAt es j p) ∧ ∀ p, (p ∈ D ∨ p ∈ l) → ∃ s ∈ l.foldl (strStep es j) fd, p ∈ s
  | [], fd, D, hl, h1, h2 => ⟨h1, fun p hp => h2 p (by simpa using hp)⟩
  | p :: l, fd, D, hl, h1, h2 => by
    have hp := hl p List.mem_cons_self
    have key : (∀ s ∈ strStep es j fd p, ∃ p ∈ ansOf es j, s = strAt es j p) ∧ ∀ q ∈ p :: D, ∃ s ∈ strStep es j fd p, q ∈ s := by
      unfold strStep
      split
      · refine ⟨fun s hs => ?_, fun q hq => ?_⟩
        · rcases List.mem_append.mp hs with hs | hs
          · exact h1 s hs
          · rw [List.mem_singleton] at hs
            exact ⟨p, hp, hs⟩
        · rcases List.mem_cons.mp hq with rfl | hq
          · exact ⟨strAt es j q, List.mem_append_right _ List.mem_cons_self, mem_strAt.mpr ⟨hp, fun _ _ => Iff.rfl⟩⟩
          · obtain ⟨s, m, z⟩ := h2 q hq
            exact ⟨s, List.mem_append_left _ m, z⟩
      · rename_i hn
        refine ⟨h1, fun q hq => ?_⟩
        rcases List.mem_cons.mp hq with rfl | hq
        · simp only [not_or, Classical.not_not] at hn
          refine ⟨fd.getLastD [], ?_, hn.2⟩
          cases fd with
          | nil => exact absurd rfl hn.1
          | cons a as => rw [List.getLastD_cons]; exact List.getLastD_mem_cons
        · exact h2 q hq
    have := strGo (l := l) (fd := strStep es j fd p) (D := p :: D) (fun q m => hl q (List.mem_cons_of_mem _ m)) key.1 key.2
    refine ⟨this.1, fun q hq => this.2 q ?_⟩
    rcases hq with hq | hq
    · exact .inl (List.mem_cons_of_mem _ hq)
    · rcases List.mem_cons.mp hq with rfl | hq
      · exact .inl List.mem_cons_self
      · exact .inr hq
theorem strAll_pair {es : List (EvG α)} {j : α} {p q : Nat} : (∃ s ∈ strAll es j, p ∈ s ∧ q ∈ s) ↔ p ∈ ansOf es j ∧ q ∈ ansOf es j ∧ ∀ r ∈ rsts es j, (r < p ↔ r < q) := by
  have g := strGo (es := es) (j := j) (l := ansOf es j) (fd := []) (D := []) (fun _ z => z) (fun _ z => by cases z) (fun _ z => by cases z)
  constructor
  · rintro ⟨s, hs, h1, h2⟩
    obtain ⟨z, hz, rfl⟩ := g.1 s hs
    have a := mem_strAt.mp h1
    have b := mem_strAt.mp h2
    exact ⟨a.1, b.1, fun r hr => (a.2 r hr).symm.trans (b.2 r hr)⟩
  · rintro ⟨h1, h2, h3⟩
    obtain ⟨s, hs, hp⟩ := g.2 p (.inr h1)
    refine ⟨s, hs, hp, ?_⟩
    obtain ⟨z, hz, rfl⟩ := g.1 s hs
    have a := mem_strAt.mp hp
    exact mem_strAt.mpr ⟨h2, fun r hr => (a.2 r hr).trans (h3 r hr)⟩
/-! links -/
def grdE : EvG α → Int
  | .ans _ _ g => g
  | _ => 0
def itmE (d : α) : EvG α → α
  | .ans _ i _ => i
  | _ => d
def grdN (es : List (EvG α)) (p : Nat) : Int := ((es[p]?).map grdE).getD 0
def itmN (d : α) (es : List (EvG α)) (p : Nat) : α := ((es[p]?).map (itmE d)).getD d
/-- is a drift content with the order of two places -/
def ordB (st ri : α) (d : α) (p q : Nat) : Bool := decide (d = st) || (decide (p < q) == decide (d = ri))
def lnkIn (st ri : α) (es : List (EvG α)) (d : α) (s : List Nat) : List (Nat × Nat) := s.flatMap fun p => (s.filter fun q => decide (grdN es p < grdN es q) && ordB st ri d p q).map fun q => (p, q)
def lnkL (st ri : α) (L : LgG α) : List (Nat × Nat) := L.js.flatMap fun jd => (strAll L.es jd.1).flatMap (lnkIn st ri L.es jd.2)
/-- a link, by the events -/
def lnkP (st ri : α) (L : LgG α) (p q : Nat) : Prop := ∃ j d i1 g1 i2 g2, (j, d) ∈ L.js ∧ L.es[p]? = some (.ans j i1 g1) ∧ L.es[q]? = some (.ans j i2 g2) ∧ (∀ r ∈ rsts L.es j, (r < p ↔ r < q)) ∧ g1 < g2 ∧ ordB st ri d p q = true
theorem mem_lnkIn {st ri : α} {es : List (EvG α)} {d : α} {s : List Nat} {p q : Nat} : (p, q) ∈ lnkIn st ri es d s ↔ p ∈ s ∧ q ∈ s ∧ grdN es p < grdN es q ∧ ordB st ri d p q = true := by
  unfold lnkIn
  simp only [List.mem_flatMap, List.mem_map, List.mem_filter, Bool.and_eq_true, decide_eq_true_eq, Prod.mk.injEq]
  constructor
  · rintro ⟨a, ha, b, ⟨hb, h1, h2⟩, rfl, rfl⟩
    exact ⟨ha, hb, h1, h2⟩
  · rintro ⟨ha, hb, h1, h2⟩
    exact ⟨p, ha, q, ⟨hb, h1, h2⟩, rfl, rfl⟩
theorem mem_lnkL {st ri : α} {L : LgG α} {p q : Nat} : (p, q) ∈ lnkL st ri L ↔ lnkP st ri L p q := by
  unfold lnkL lnkP
  simp only [List.mem_flatMap]
  constructor
  · rintro ⟨⟨j, d⟩, hj, s, hs, h⟩
    obtain ⟨h1, h2, h3, h4⟩ := mem_lnkIn.mp h
    obtain ⟨a, b, c⟩ := strAll_pair.mp ⟨s, hs, h1, h2⟩
    obtain ⟨i1, g1, e1⟩ := mem_ansOf.mp a
    obtain ⟨i2, g2, e2⟩ := mem_ansOf.mp b
    refine ⟨j, d, i1, g1, i2, g2, hj, e1, e2, c, ?_, h4⟩
    simpa [grdN, e1, e2, grdE] using h3
  · rintro ⟨j, d, i1, g1, i2, g2, hj, e1, e2, c, h3, h4⟩
    obtain ⟨s, hs, h1, h2⟩ := strAll_pair.mpr ⟨mem_ansOf.mpr ⟨i1, g1, e1⟩, mem_ansOf.mpr ⟨i2, g2, e2⟩, c⟩
    refine ⟨(j, d), hj, s, hs, mem_lnkIn.mpr ⟨h1, h2, ?_, h4⟩⟩
    simpa [grdN, e1, e2, grdE] using h3
end
end Rb
namespace Rb
/-! ### ways link by link, and which one is first -/
def ltE (a b : Nat × Nat) : Prop := a.1 < b.1 ∨ (a.1 = b.1 ∧ a.2 < b.2)
theorem ltE_irr (a : Nat × Nat) : ¬ ltE a a := fun h => by unfold ltE at h; omega
theorem ltE_tr {a b c : Nat × Nat} (h : ltE a b) (g : ltE b c) : ltE a c := by unfold ltE at *; omega
theorem ltE_or {a b : Nat × Nat} : ltE a b ∨ a = b ∨ ltE b a := by
  obtain ⟨a1, a2⟩ := a
  obtain ⟨b1, b2⟩ := b
  unfold ltE
  simp only [Prod.mk.injEq]
  omega
/-- strictly sorted, with the same members: the same -/
theorem sorted_eq : ∀ {l m : List (Nat × Nat)}, l.Pairwise ltE → m.Pairwise ltE → (∀ x, x ∈ l ↔ x ∈ m) → l = m
  | [], [], _, _, _ => rfl
  | [], b :: m, _, _, h => by have := (h b).mpr List.mem_cons_self; cases this
  | a :: l, [], _, _, h => by have := (h a).mp List.mem_cons_self; cases this
  | a :: l, b :: m, hl, hm, h => by
    rw [List.pairwise_cons] at hl hm
    have hab : a = b := by
      have h1 := (h a).mp List.mem_cons_self
      have h2 := (h b).mpr List.mem_cons_self
      rcases List.mem_cons.mp h1 with e | h1
      · exact e
      · rcases List.mem_cons.mp h2 with e | h2
        · exact e.symm
        · exact absurd (ltE_tr (hl.1 b h2) (hm.1 a h1)) (ltE_irr a)
    subst hab
    congr 1
    refine sorted_eq hl.2 hm.2 fun x => ⟨fun hx => ?_, fun hx => ?_⟩
    · rcases List.mem_cons.mp ((h x).mp (List.mem_cons_of_mem _ hx)) with e | z
      · subst e; exact absurd (hl.1 x hx) (ltE_irr x)
      · exact z
    · rcases List.mem_cons.mp ((h x).mpr (List.mem_cons_of_mem _ hx)) with e | z
      · subst e; exact absurd (hm.1 x hx) (ltE_irr x)
      · exact z
/-- not behind, link by link -/
def leL : List (Nat × Nat) → List (Nat × Nat) → Prop
  | [], _ => True
  | _ :: _, [] => False
  | a :: l, b :: m => ltE a b ∨ (a = b ∧ leL l m)
theorem leL_refl : ∀ l, leL l l
  | [] => trivial
  | a :: l => .inr ⟨rfl, leL_refl l⟩
theorem leL_anti : ∀ {l m : List (Nat × Nat)}, l.length = m.length → leL l m → leL m l → l = m
  | [], [], _, _, _ => rfl
  | a :: l, b :: m, hn, h, g => by
    rcases h with h | ⟨rfl, h⟩
    · rcases g with g | ⟨rfl, g⟩
      · exact absurd (ltE_tr h g) (ltE_irr a)
      · exact absurd h (ltE_irr _)
    · rcases g with g | ⟨_, g⟩
      · exact absurd g (ltE_irr _)
      · rw [leL_anti (by simpa using hn) h g]
theorem leL_tr : ∀ {l m k : List (Nat × Nat)}, leL l m → leL m k → leL l k
  | [], _, _, _, _ => trivial
  | a :: l, [], _, h, _ => h.elim
  | a :: l, b :: m, [], _, g => g.elim
  | a :: l, b :: m, c :: k, h, g => by
    rcases h with h | ⟨rfl, h⟩
    · rcases g with g | ⟨rfl, g⟩
      · exact .inl (ltE_tr h g)
      · exact .inl h
    · rcases g with g | ⟨rfl, g⟩
      · exact .inl g
      · exact .inr ⟨rfl, leL_tr h g⟩
/-- one more behind each -/
theorem leL_snoc : ∀ {l m : List (Nat × Nat)} {x y : Nat × Nat}, l.length = m.length → leL l m → l ≠ m → leL (l ++ [x]) (m ++ [y])
  | [], [], _, _, _, _, h => absurd rfl h
  | a :: l, b :: m, x, y, hn, h, ne => by
    rcases h with h | ⟨rfl, h⟩
    · exact .inl h
    · exact .inr ⟨rfl, leL_snoc (by simpa using hn) h fun e => ne (by rw [e])⟩
theorem leL_snoc2 : ∀ {l : List (Nat × Nat)} {x y : Nat × Nat}, (ltE x y ∨ x = y) → leL (l ++ [x]) (l ++ [y])
  | [], x, y, h => h.imp id fun e => ⟨e, trivial⟩
  | a :: l, x, y, h => .inr ⟨rfl, leL_snoc2 h⟩
section
variable {α : Type} [DecidableEq α] (K : List (Nat × Nat)) (it : Nat → α)
/-- a way of links -/
def Wy : List (Nat × Nat) → α → α → Prop
  | [], a, b => a = b
  | e :: l, a, b => e ∈ K ∧ it e.1 = a ∧ Wy l (it e.2) b
/-- the first way: the shortest ones, link by link -/
structure First (l : List (Nat × Nat)) (a b : α) : Prop where
  ne : l ≠ []
  wy : Wy K it l a b
  sh : ∀ l', l' ≠ [] → Wy K it l' a b → l.length ≤ l'.length
  le : ∀ l', Wy K it l' a b → l'.length = l.length → leL l l'
/-- what is told of two items -/
def Told (r : Option (List (Nat × Nat))) (a b : α) : Prop := match r with
  | some l => First K it l a b
  | none => ∀ l, l ≠ [] → ¬ Wy K it l a b
variable {K it}
theorem First.uniq {l l' : List (Nat × Nat)} {a b : α} (h : First K it l a b) (g : First K it l' a b) : l = l' := by
  have e : l.length = l'.length := Nat.le_antisymm (h.sh l' g.ne g.wy) (g.sh l h.ne h.wy)
  exact leL_anti e (h.le l' g.wy e.symm) (g.le l h.wy e)
theorem Told.uniq {r r' : Option (List (Nat × Nat))} {a b : α} (h : Told K it r a b) (g : Told K it r' a b) : r = r' := by
  cases r with
  | none =>
    cases r' with
    | none => rfl
    | some l => exact absurd g.wy (h l g.ne)
  | some l =>
    cases r' with
    | none => exact absurd h.wy (g l h.ne)
    | some l' => rw [First.uniq h g]
theorem wy_snoc : ∀ {l : List (Nat × Nat)} {e : Nat × Nat} {a b : α}, Wy K it (l ++ [e]) a b ↔ Wy K it l a (it e.1) ∧ e ∈ K ∧ it e.2 = b
  | [], e, a, b => by
    simp only [List.nil_append, Wy]
    exact ⟨fun ⟨h1, h2, h3⟩ => ⟨h2.symm, h1, h3⟩, fun ⟨h1, h2, h3⟩ => ⟨h2, h1.symm, h3⟩⟩
  | f :: l, e, a, b => by
    simp only [List.cons_append, Wy, wy_snoc, and_assoc]
/-! #### lengths to an item -/
/-- the least number of links to b, where there is a way -/
def DistOk (D : α → Option Nat) (b : α) : Prop := (∀ x k, D x = some k → ∃ l, l.length = k ∧ Wy K it l x b) ∧ ∀ x l, Wy K it l x b → ∃ k, D x = some k ∧ k ≤ l.length
theorem DistOk.eq {D : α → Option Nat} {b : α} (h : DistOk (K := K) (it := it) D b) {x : α} {k : Nat} (hk : D x = some k) {l : List (Nat × Nat)} (hl : Wy K it l x b) : k ≤ l.length := by
  obtain ⟨k', e, g⟩ := h.2 x l hl
  rw [hk] at e
  cases e
  exact g
/-- the greedy way: always the first link towards b -/
structure Grd (D : α → Option Nat) (b : α) (m : Nat) (here : α) : Prop where
  ex : ∃ l, l.length = m ∧ Wy K it l here b
  nx : ∀ e l, l.length + 1 = m → Wy K it (e :: l) here b → D (it e.2) = some (m - 1)
theorem Grd.of_dist {D : α → Option Nat} {b : α} (h : DistOk (K := K) (it := it) D b) {x : α} {m : Nat} (hx : D x = some m) : Grd (K := K) (it := it) D b m x := by
  refine ⟨h.1 x m hx, fun e l hl w => ?_⟩
  obtain ⟨k, e1, e2⟩ := h.2 _ l w.2.2
  obtain ⟨l', h1, h2⟩ := h.1 _ k e1
  have := h.eq hx (l := e :: l') ⟨w.1, w.2.1, h2⟩
  simp only [List.length_cons] at this
  rw [e1]
  congr 1
  omega
/-- the first link of a list that fits -/
theorem find_first {K : List (Nat × Nat)} (hs : K.Pairwise ltE) {P : Nat × Nat → Bool} {e : Nat × Nat} (h : K.find? P = some e) : e ∈ K ∧ P e = true ∧ ∀ f ∈ K, P f = true → ltE e f ∨ e = f := by
  induction K with
  | nil => cases h
  | cons a K ih =>
    rw [List.find?_cons] at h
    rw [List.pairwise_cons] at hs
    cases q : P a with
    | true =>
      rw [q] at h
      cases h
      refine ⟨List.mem_cons_self, q, fun f hf _ => ?_⟩
      rcases List.mem_cons.mp hf with rfl | hf
      · exact .inr rfl
      · exact .inl (hs.1 f hf)
    | false =>
      rw [q] at h
      obtain ⟨h1, h2, h3⟩ := ih hs.2 h
      refine ⟨List.mem_cons_of_mem _ h1, h2, fun f hf pf => ?_⟩
      rcases List.mem_cons.mp hf with rfl | hf
      · rw [q] at pf; cases pf
      · exact h3 f hf pf
/-- one greedy step -/
theorem Grd.step {D : α → Option Nat} {b : α} (hs : K.Pairwise ltE) (h : DistOk (K := K) (it := it) D b) {m : Nat} {here : α} (g : Grd (K := K) (it := it) D b (m + 1) here) :
    ∃ e, K.find? (fun e => decide (it e.1 = here) && decide (D (it e.2) = some m)) = some e ∧ e ∈ K ∧ it e.1 = here ∧ D (it e.2) = some m ∧ (∀ l, Wy K it l (it e.2) b → (∀ l', Wy K it l' (it e.2) b → l'.length = l.length → leL l l') → l.length = m → ∀ l', Wy K it l' here b → l'.length = m + 1 → leL (e :: l) l') := by
  obtain ⟨l0, hl0, w0⟩ := g.ex
  cases l0 with
  | nil => simp at hl0
  | cons e0 l0 =>
    have hd := g.nx e0 l0 (by simpa using hl0) w0
    simp only [Nat.add_sub_cancel] at hd
    cases q : K.find? (fun e => decide (it e.1 = here) && decide (D (it e.2) = some m)) with
    | none =>
      rw [List.find?_eq_none] at q
      have := q e0 w0.1
      rw [decide_eq_true w0.2.1, decide_eq_true hd] at this
      exact absurd rfl this
    | some e =>
      obtain ⟨h1, h2, h3⟩ := find_first hs q
      rw [Bool.and_eq_true, decide_eq_true_eq, decide_eq_true_eq] at h2
      refine ⟨e, rfl, h1, h2.1, h2.2, fun l wl hl hn l' w' hn' => ?_⟩
      cases l' with
      | nil => simp at hn'
      | cons e' l' =>
        have hd' := g.nx e' l' (by simpa using hn') w'
        simp only [Nat.add_sub_cancel] at hd'
        rcases h3 e' w'.1 (by rw [decide_eq_true w'.2.1, decide_eq_true hd']; rfl) with z | rfl
        · exact .inl z
        · refine .inr ⟨rfl, hl l' w'.2.2 ?_⟩
          simp only [List.length_cons] at hn'
          omega
/-- the state of the walk through the items: b's keys with their lengths, and those that wait -/
structure Bfs (b : α) (S : List α) (f : α → Nat) (Q : List α) : Prop where
  nd : S.Nodup
  b0 : b ∈ S ∧ f b = 0
  wy : ∀ a ∈ S, ∃ l, l.length = f a ∧ Wy K it l a b
  qs : ∀ q ∈ Q, q ∈ S
  done : ∀ a ∈ S, a ∈ Q ∨ ∀ e ∈ K, it e.2 = a → it e.1 ∈ S ∧ f (it e.1) ≤ f a + 1
  srt : Q.Pairwise fun x y => f x ≤ f y
  top : ∀ h Q', Q = h :: Q' → ∀ x ∈ S, f x ≤ f h + 1
theorem Bfs.dist {b : α} {S : List α} {f : α → Nat} (h : Bfs (K := K) (it := it) b S f []) : DistOk (K := K) (it := it) (fun x => if x ∈ S then some (f x) else none) b := by
  have key : ∀ l x, Wy K it l x b → x ∈ S ∧ f x ≤ l.length := by
    intro l
    induction l with
    | nil =>
      intro x w
      cases w
      exact ⟨h.b0.1, by rw [h.b0.2]; exact Nat.zero_le _⟩
    | cons e l ih =>
      intro x w
      obtain ⟨i1, i2⟩ := ih _ w.2.2
      have := (h.done _ i1).resolve_left (by simp) e w.1 rfl
      rw [w.2.1] at this
      exact ⟨this.1, by simp only [List.length_cons]; omega⟩
  refine ⟨fun x k hx => ?_, fun x l w => ?_⟩
  · dsimp only at hx
    split at hx
    · rename_i hm
      cases hx
      exact h.wy x hm
    · cases hx
  · obtain ⟨i1, i2⟩ := key l x w
    exact ⟨f x, if_pos i1, i2⟩
/-- one item is taken off: its links are looked at -/
structure Mid (b h : α) (S : List α) (f : α → Nat) (Q : List α) (dn : List (Nat × Nat)) : Prop where
  nd : S.Nodup
  b0 : b ∈ S ∧ f b = 0
  wy : ∀ a ∈ S, ∃ l, l.length = f a ∧ Wy K it l a b
  qs : ∀ q ∈ Q, q ∈ S
  hs : h ∈ S
  done : ∀ a ∈ S, a ∈ Q ∨ a = h ∨ ∀ e ∈ K, it e.2 = a → it e.1 ∈ S ∧ f (it e.1) ≤ f a + 1
  srt : Q.Pairwise fun x y => f x ≤ f y
  hq : ∀ q ∈ Q, f h ≤ f q
  top : ∀ x ∈ S, f x ≤ f h + 1
  prc : ∀ e ∈ dn, it e.2 = h → it e.1 ∈ S
theorem Bfs.mid {b h : α} {S : List α} {f : α → Nat} {Q : List α} (g : Bfs (K := K) (it := it) b S f (h :: Q)) : Mid (K := K) (it := it) b h S f Q [] := by
  have hp := List.pairwise_cons.mp g.srt
  refine ⟨g.nd, g.b0, g.wy, fun q m => g.qs q (List.mem_cons_of_mem _ m), g.qs h List.mem_cons_self, fun a m => ?_, hp.2, hp.1, g.top h Q rfl, fun e m => by cases m⟩
  rcases g.done a m with z | z
  · rcases List.mem_cons.mp z with z | z
    · exact .inr (.inl z)
    · exact .inl z
  · exact .inr (.inr z)
theorem Mid.bfs {b h : α} {S : List α} {f : α → Nat} {Q : List α} {dn : List (Nat × Nat)} (g : Mid (K := K) (it := it) b h S f Q dn) (hd : ∀ e ∈ K, e ∈ dn) : Bfs (K := K) (it := it) b S f Q := by
  refine ⟨g.nd, g.b0, g.wy, g.qs, fun a m => ?_, g.srt, fun h' Q' e x m => ?_⟩
  · rcases g.done a m with z | rfl | z
    · exact .inl z
    · refine .inr fun e he hh => ?_
      have := g.prc e (hd e he) hh
      exact ⟨this, g.top _ this⟩
    · exact .inr z
  · subst e
    have := g.top x m
    have := g.hq h' List.mem_cons_self
    omega
theorem Mid.skip {b h : α} {S : List α} {f : α → Nat} {Q : List α} {dn : List (Nat × Nat)} (g : Mid (K := K) (it := it) b h S f Q dn) {e : Nat × Nat} (he : ¬ (it e.2 = h ∧ it e.1 ∉ S)) : Mid (K := K) (it := it) b h S f Q (dn ++ [e]) := by
  refine ⟨g.nd, g.b0, g.wy, g.qs, g.hs, g.done, g.srt, g.hq, g.top, fun x m hx => ?_⟩
  rcases List.mem_append.mp m with m | m
  · exact g.prc x m hx
  · rw [List.mem_singleton] at m
    subst m
    exact Classical.byContradiction fun z => he ⟨hx, z⟩
theorem Mid.add {b h : α} {S : List α} {f : α → Nat} {Q : List α} {dn : List (Nat × Nat)} (g : Mid (K := K) (it := it) b h S f Q dn) {e : Nat × Nat} (hK : e ∈ K) (h1 : it e.2 = h) (h2 : it e.1 ∉ S) :
    Mid (K := K) (it := it) b h (S ++ [it e.1]) (upF f (it e.1) (f h + 1)) (Q ++ [it e.1]) (dn ++ [e]) := by
  have hu : ∀ a ∈ S, upF f (it e.1) (f h + 1) a = f a := fun a m => upF_ne _ _ fun z => h2 (z ▸ m)
  have hin : ∀ a, a ∈ S ++ [it e.1] → a ∈ S ∨ a = it e.1 := fun a m => by simpa using m
  refine ⟨?_, ⟨List.mem_append_left _ g.b0.1, by rw [hu _ g.b0.1]; exact g.b0.2⟩, fun a m => ?_, fun q m => ?_, List.mem_append_left _ g.hs, fun a m => ?_, ?_, fun q m => ?_, fun x m => ?_, fun x m hx => ?_⟩
  · rw [List.nodup_append]
    refine ⟨g.nd, by simp, ?_⟩
    rintro x hx y hy rfl
    rw [List.mem_singleton] at hy
    exact h2 (hy ▸ hx)
  · rcases hin a m with m | rfl
    · rw [hu a m]; exact g.wy a m
    · obtain ⟨l, l1, l2⟩ := g.wy h g.hs
      exact ⟨e :: l, by rw [upF_same]; simp [l1], hK, rfl, by rw [h1]; exact l2⟩
  · rcases List.mem_append.mp m with m | m
    · exact List.mem_append_left _ (g.qs q m)
    · exact List.mem_append_right _ m
  · rcases hin a m with m | rfl
    · rcases g.done a m with z | z | z
      · exact .inl (List.mem_append_left _ z)
      · exact .inr (.inl z)
      · refine .inr (.inr fun x hx hh => ?_)
        obtain ⟨z1, z2⟩ := z x hx hh
        exact ⟨List.mem_append_left _ z1, by rw [hu _ z1, hu a m]; exact z2⟩
    · exact .inl (by simp)
  · rw [List.pairwise_append]
    refine ⟨?_, by simp, fun x hx y hy => ?_⟩
    · exact List.Pairwise.imp_of_mem (fun {x y} hx hy z => by rw [hu x (g.qs x hx), hu y (g.qs y hy)]; exact z) g.srt
    · rw [List.mem_singleton] at hy
      subst hy
      rw [upF_same, hu x (g.qs x hx)]
      exact g.top x (g.qs x hx)
  · rw [hu h g.hs]
    rcases List.mem_append.mp m with m | m
    · rw [hu q (g.qs q m)]; exact g.hq q m
    · rw [List.mem_singleton] at m
      subst m
      rw [upF_same]; omega
  · rw [hu h g.hs]
    rcases hin x m with m | rfl
    · rw [hu x m]; exact g.top x m
    · rw [upF_same]; omega
  · rcases List.mem_append.mp m with m | m
    · exact List.mem_append_left _ (g.prc x m hx)
    · rw [List.mem_singleton] at m
      subst m
      simp
theorem Bfs.start (b : α) (f : α → Nat) (h0 : f b = 0) : Bfs (K := K) (it := it) b [b] f [b] := by
  refine ⟨by simp, ⟨by simp, h0⟩, fun a m => ?_, fun q m => m, fun a m => .inl m, by simp, fun h Q' e x m => ?_⟩
  · rw [List.mem_singleton] at m
    subst m
    exact ⟨[], by rw [h0]; rfl, rfl⟩
  · rw [List.mem_singleton] at m
    injection e with e1 e2
    subst m
    subst e1
    omega
/-! #### the law's rows -/
/-- what stands behind so many turns -/
structure Rows (a : α) (t : Nat) (rows : List (List (Nat × Nat) × α)) (W : α → Option (List (Nat × Nat))) : Prop where
  r1 : ∀ p ∈ rows, p.1.length = t ∧ Wy K it p.1 a p.2 ∧ (0 < t → First K it p.1 a p.2)
  r2 : ∀ l x, l.length = t → Wy K it l a x → (∀ l', l' ≠ [] → Wy K it l' a x → t ≤ l'.length) → ∃ p ∈ rows, p.2 = x ∧ leL p.1 l
  r3 : rows.Pairwise fun p q => leL p.1 q.1 ∧ p.1 ≠ q.1
  w1 : ∀ x l, W x = some l → First K it l a x ∧ l.length ≤ t
  w2 : ∀ x, W x = none → ∀ l, l ≠ [] → Wy K it l a x → t < l.length
theorem Rows.start (a : α) : Rows (K := K) (it := it) a 0 [([], a)] fun _ => none := by
  refine ⟨fun p m => ?_, fun l x h w _ => ?_, by simp, fun x l h => by (cases h), fun x _ l hl _ => ?_⟩
  · rw [List.mem_singleton] at m
    subst m
    exact ⟨rfl, rfl, fun h => absurd h (by omega)⟩
  · rw [List.length_eq_zero_iff] at h
    subst h
    exact ⟨([], a), by simp, w, trivial⟩
  · cases l with
    | nil => exact absurd rfl hl
    | cons => simp
/-- what is found in a turn: the rows and links that were looked at -/
structure Fol (a : α) (rows : List (List (Nat × Nat) × α)) (W : α → Option (List (Nat × Nat))) (fol : List (List (Nat × Nat) × α)) (Dn : (List (Nat × Nat) × α) → (Nat × Nat) → Prop) : Prop where
  f1 : ∀ p ∈ fol, ∃ r ∈ rows, ∃ e ∈ K, it e.1 = r.2 ∧ it e.2 = p.2 ∧ p.1 = r.1 ++ [e] ∧ W p.2 = none ∧ Dn r e
  f2 : ∀ r ∈ rows, ∀ e ∈ K, Dn r e → it e.1 = r.2 → W (it e.2) = none → ∃ p ∈ fol, p.2 = it e.2 ∧ leL p.1 (r.1 ++ [e])
  f3 : fol.Pairwise fun p q => leL p.1 q.1 ∧ p.1 ≠ q.1
  f4 : fol.Pairwise fun p q => p.2 ≠ q.2
theorem Fol.uniq {a : α} {rows W} {fol : List (List (Nat × Nat) × α)} {Dn} (g : Fol (K := K) (it := it) a rows W fol Dn) {p q : List (Nat × Nat) × α} (hp : p ∈ fol) (hq : q ∈ fol) (e : p.2 = q.2) : p = q := by
  have h := g.f4
  clear g
  induction fol with
  | nil => cases hp
  | cons z fol ih =>
    rw [List.pairwise_cons] at h
    rcases List.mem_cons.mp hp with hp1 | hp1
    · rcases List.mem_cons.mp hq with hq1 | hq1
      · rw [hp1, hq1]
      · rw [hp1] at e; exact absurd e (h.1 q hq1)
    · rcases List.mem_cons.mp hq with hq1 | hq1
      · rw [hq1] at e; exact absurd e.symm (h.1 p hp1)
      · exact ih hp1 hq1 h.2
/-- the ways of a turn are kept -/
def keepW (W : α → Option (List (Nat × Nat))) (fol : List (List (Nat × Nat) × α)) : α → Option (List (Nat × Nat)) := fol.foldl (fun W p => upF W p.2 (some p.1)) W
theorem keepW_mem {fol : List (List (Nat × Nat) × α)} (h4 : fol.Pairwise fun p q => p.2 ≠ q.2) : ∀ (W : α → Option (List (Nat × Nat))) {p}, p ∈ fol → keepW W fol p.2 = some p.1 := by
  induction fol with
  | nil => intro W p h; cases h
  | cons z fol ih =>
    intro W p h
    rw [List.pairwise_cons] at h4
    rw [keepW, List.foldl_cons]
    rcases List.mem_cons.mp h with rfl | h
    · have : ∀ (l : List (List (Nat × Nat) × α)) (W : α → Option (List (Nat × Nat))), (∀ q ∈ l, p.2 ≠ q.2) → l.foldl (fun W p => upF W p.2 (some p.1)) W p.2 = W p.2 := by
        intro l
        induction l with
        | nil => intro W _; rfl
        | cons q l ih2 =>
          intro W hh
          rw [List.foldl_cons, ih2 _ fun r m => hh r (List.mem_cons_of_mem _ m), upF_ne _ _ (hh q List.mem_cons_self)]
      rw [this fol _ h4.1, upF_same]
    · exact ih h4.2 _ h
theorem keepW_not {x : α} : ∀ {fol : List (List (Nat × Nat) × α)} (W : α → Option (List (Nat × Nat))), (∀ q ∈ fol, x ≠ q.2) → keepW W fol x = W x
  | [], W, _ => rfl
  | q :: fol, W, h => by
    have := keepW_not (fol := fol) (upF W q.2 (some q.1)) fun r m => h r (List.mem_cons_of_mem _ m)
    rw [upF_ne _ _ (h q List.mem_cons_self)] at this
    exact this
theorem Rows.step {a : α} {t : Nat} {rows W} {fol : List (List (Nat × Nat) × α)} {Dn} (h : Rows (K := K) (it := it) a t rows W) (g : Fol (K := K) (it := it) a rows W fol Dn) (hd : ∀ r ∈ rows, ∀ e ∈ K, Dn r e) : Rows (K := K) (it := it) a (t + 1) fol (keepW W fol) := by
  have key : ∀ y, W y = none → ∀ m, m.length = t + 1 → Wy K it m a y → ∃ p ∈ fol, p.2 = y ∧ leL p.1 m := by
    intro y hy m hm w
    obtain ⟨m1, e, rfl⟩ : ∃ m1 e, m = m1 ++ [e] := ⟨m.dropLast, m.getLast (by rintro rfl; simp at hm), (List.dropLast_concat_getLast _).symm⟩
    obtain ⟨w1, eK, e2⟩ := wy_snoc.mp w
    have hl1 : m1.length = t := by simpa using hm
    obtain ⟨r, hr, r2, r3⟩ := h.r2 m1 (it e.1) hl1 w1 fun l' hl' w' => by
      have := h.w2 y hy (l' ++ [e]) (by simp) (wy_snoc.mpr ⟨w', eK, e2⟩)
      simp only [List.length_append, List.length_singleton] at this
      omega
    obtain ⟨p, hp, p2, p3⟩ := g.f2 r hr e eK (hd r hr e eK) r2.symm (by rw [e2]; exact hy)
    refine ⟨p, hp, p2.trans e2, leL_tr p3 ?_⟩
    by_cases z : r.1 = m1
    · rw [z]; exact leL_refl _
    · exact leL_snoc ((h.r1 r hr).1.trans hl1.symm) r3 z
  have hr1 : ∀ p ∈ fol, p.1.length = t + 1 ∧ Wy K it p.1 a p.2 ∧ First K it p.1 a p.2 := by
    intro p hp
    obtain ⟨r, hr, e, eK, e1, e2, e3, hw, _⟩ := g.f1 p hp
    obtain ⟨q1, q2, _⟩ := h.r1 r hr
    have hl : p.1.length = t + 1 := by rw [e3]; simp [q1]
    have w : Wy K it p.1 a p.2 := by rw [e3]; exact wy_snoc.mpr ⟨by rw [e1]; exact q2, eK, e2⟩
    refine ⟨hl, w, ⟨by rw [e3]; simp, w, fun l' hl' w' => ?_, fun l' w' hl' => ?_⟩⟩
    · have := h.w2 _ hw l' hl' w'
      omega
    · obtain ⟨p', hp', q1', q2'⟩ := key _ hw l' (by omega) w'
      rw [g.uniq hp' hp q1'] at q2'
      exact q2'
  refine ⟨fun p hp => ⟨(hr1 p hp).1, (hr1 p hp).2.1, fun _ => (hr1 p hp).2.2⟩, fun l x hl w hs => ?_, g.f3, fun x l hx => ?_, fun x hx l hl w => ?_⟩
  · refine key x ?_ l hl w
    cases q : W x with
    | none => rfl
    | some l0 =>
      obtain ⟨f0, l0t⟩ := h.w1 x l0 q
      have := hs l0 f0.ne f0.wy
      omega
  · by_cases z : ∃ p ∈ fol, x = p.2
    · obtain ⟨p, hp, rfl⟩ := z
      rw [keepW_mem g.f4 W hp] at hx
      cases hx
      exact ⟨(hr1 p hp).2.2, Nat.le_of_eq (hr1 p hp).1⟩
    · rw [keepW_not W fun q hq e => z ⟨q, hq, e⟩] at hx
      obtain ⟨a1, a2⟩ := h.w1 x l hx
      exact ⟨a1, by omega⟩
  · by_cases z : ∃ p ∈ fol, x = p.2
    · obtain ⟨p, hp, rfl⟩ := z
      rw [keepW_mem g.f4 W hp] at hx
      cases hx
    · rw [keepW_not W fun q hq e => z ⟨q, hq, e⟩] at hx
      have h1 := h.w2 x hx l hl w
      refine Classical.byContradiction fun hn => ?_
      have h2 : l.length = t + 1 := by omega
      obtain ⟨p, hp, p2, _⟩ := key x hx l h2 w
      exact z ⟨p, hp, p2.symm⟩
theorem Wy.wk : ∀ {l : List (Nat × Nat)} {a b : α}, Wy K it l a b → Wk (fun a b => ∃ e ∈ K, it e.1 = a ∧ it e.2 = b) l.length a b
  | [], a, b, h => h
  | e :: l, a, b, ⟨h1, h2, h3⟩ => ⟨it e.2, ⟨e, h1, h2, rfl⟩, h3.wk⟩
theorem Wk.wy : ∀ {k : Nat} {a b : α}, Wk (fun a b => ∃ e ∈ K, it e.1 = a ∧ it e.2 = b) k a b → ∃ l, l.length = k ∧ Wy K it l a b
  | 0, a, b, h => ⟨[], rfl, h⟩
  | k + 1, a, b, ⟨c, ⟨e, h1, h2, h3⟩, h4⟩ => by
    obtain ⟨l, l1, l2⟩ := h4.wy
    exact ⟨e :: l, by simp [l1], h1, h2, by rw [h3]; exact l2⟩
/-- behind as many turns as there are items all is told -/
theorem Rows.told {a b : α} {t : Nat} {rows W} (h : Rows (K := K) (it := it) a t rows W) {V : List α} (hV : ∀ e ∈ K, it e.2 ∈ V) (ht : V.length ≤ t) : Told K it (W b) a b := by
  cases q : W b with
  | some l => exact (h.w1 b l q).1
  | none =>
    intro l hl w
    cases l with
    | nil => exact hl rfl
    | cons e l =>
      have : Tc (fun a b => ∃ e ∈ K, it e.1 = a ∧ it e.2 = b) a b := ⟨l.length, Wy.wk (l := e :: l) w⟩
      obtain ⟨k, hk, hw⟩ := this.short (V := V) fun x y ⟨e, h1, _, h3⟩ => h3 ▸ hV e h1
      obtain ⟨l2, e1, e2⟩ := hw.wy
      have := h.w2 b q l2 (by rintro rfl; simp at e1) e2
      omega
end
end Rb
namespace Rb
section
variable {α : Type} [DecidableEq α] {K : List (Nat × Nat)} {it : Nat → α}
/-- rows that are done, and links of the one under way -/
def DnR (done : List (List (Nat × Nat) × α)) (r : List (Nat × Nat) × α) (dl : List (Nat × Nat)) (r' : List (Nat × Nat) × α) (e : Nat × Nat) : Prop := r' ∈ done ∨ (r' = r ∧ e ∈ dl)
variable {a : α} {t : Nat} {rows : List (List (Nat × Nat) × α)} {W : α → Option (List (Nat × Nat))} {fol : List (List (Nat × Nat) × α)}
theorem Fol.congr {D D' : (List (Nat × Nat) × α) → (Nat × Nat) → Prop} (g : Fol (K := K) (it := it) a rows W fol D) (h : ∀ r ∈ rows, ∀ e ∈ K, D r e ↔ D' r e) : Fol (K := K) (it := it) a rows W fol D' := by
  refine ⟨fun p hp => ?_, fun r hr e he hd h1 h2 => g.f2 r hr e he ((h r hr e he).mpr hd) h1 h2, g.f3, g.f4⟩
  obtain ⟨r, hr, e, he, h1, h2, h3, h4, h5⟩ := g.f1 p hp
  exact ⟨r, hr, e, he, h1, h2, h3, h4, (h r hr e he).mp h5⟩
theorem Fol.nil {D : (List (Nat × Nat) × α) → (Nat × Nat) → Prop} (h : ∀ r ∈ rows, ∀ e ∈ K, ¬ D r e) : Fol (K := K) (it := it) a rows W [] D :=
  ⟨fun p hp => (by cases hp), fun r hr e he hd => absurd hd (h r hr e he), (by simp), (by simp)⟩
theorem Fol.before {done : List (List (Nat × Nat) × α)} {r : List (Nat × Nat) × α} {rest : List (List (Nat × Nat) × α)} {dl : List (Nat × Nat)} {e : Nat × Nat} {K' : List (Nat × Nat)} (h : Rows (K := K) (it := it) a t rows W) (hr : rows = done ++ r :: rest) (hK : K = dl ++ e :: K') (hs : K.Pairwise ltE)
    (g : Fol (K := K) (it := it) a rows W fol (DnR done r dl)) : ∀ p ∈ fol, leL p.1 (r.1 ++ [e]) ∧ p.1 ≠ r.1 ++ [e] := by
  intro p hp
  obtain ⟨r', hr', e', he', h1, h2, h3, h4, h5⟩ := g.f1 p hp
  rw [h3]
  have hl1 := (h.r1 r' hr').1
  have hl2 := (h.r1 r (by rw [hr]; simp)).1
  rcases h5 with h5 | ⟨h5, h6⟩
  · have hp3 := h.r3
    rw [hr, List.pairwise_append] at hp3
    obtain ⟨q1, q2⟩ := hp3.2.2 r' h5 r (by simp)
    refine ⟨leL_snoc (by omega) q1 q2, fun z => q2 ?_⟩
    have := List.append_inj z (by omega)
    exact this.1
  · subst h5
    have hp3 := hs
    rw [hK, List.pairwise_append] at hp3
    have := hp3.2.2 e' h6 e (by simp)
    refine ⟨leL_snoc2 (.inl this), fun z => ?_⟩
    have := List.append_inj z rfl
    have h7 := List.singleton_inj.mp this.2
    subst h7
    exact ltE_irr _ (by assumption)
theorem Fol.add {done : List (List (Nat × Nat) × α)} {r : List (Nat × Nat) × α} {rest : List (List (Nat × Nat) × α)} {dl : List (Nat × Nat)} {e : Nat × Nat} {K' : List (Nat × Nat)} (h : Rows (K := K) (it := it) a t rows W) (hr : rows = done ++ r :: rest) (hK : K = dl ++ e :: K') (hs : K.Pairwise ltE)
    (g : Fol (K := K) (it := it) a rows W fol (DnR done r dl)) (h1 : it e.1 = r.2) (h2 : W (it e.2) = none) (h3 : ∀ p ∈ fol, p.2 ≠ it e.2) : Fol (K := K) (it := it) a rows W (fol ++ [(r.1 ++ [e], it e.2)]) (DnR done r (dl ++ [e])) := by
  have hb := g.before h hr hK hs
  have hrr : r ∈ rows := by rw [hr]; simp
  have hee : e ∈ K := by rw [hK]; simp
  refine ⟨fun p hp => ?_, fun r' hr' e' he' hd w1 w2 => ?_, ?_, ?_⟩
  · rcases List.mem_append.mp hp with hp | hp
    · obtain ⟨r', q1, e', q2, q3, q4, q5, q6, q7⟩ := g.f1 p hp
      refine ⟨r', q1, e', q2, q3, q4, q5, q6, ?_⟩
      rcases q7 with q7 | ⟨q7, q8⟩
      · exact .inl q7
      · exact .inr ⟨q7, List.mem_append_left _ q8⟩
    · rw [List.mem_singleton] at hp
      subst hp
      exact ⟨r, hrr, e, hee, h1, rfl, rfl, h2, .inr ⟨rfl, by simp⟩⟩
  · by_cases z : DnR done r dl r' e'
    · obtain ⟨p, hp, p2, p3⟩ := g.f2 r' hr' e' he' z w1 w2
      exact ⟨p, List.mem_append_left _ hp, p2, p3⟩
    · rcases hd with hd | ⟨rfl, hd⟩
      · exact absurd (.inl hd) z
      · rcases List.mem_append.mp hd with hd | hd
        · exact absurd (.inr ⟨rfl, hd⟩) z
        · rw [List.mem_singleton] at hd
          subst hd
          exact ⟨(r'.1 ++ [e'], it e'.2), by simp, rfl, leL_refl _⟩
  · rw [List.pairwise_append]
    refine ⟨g.f3, by simp, fun p hp q hq => ?_⟩
    rw [List.mem_singleton] at hq
    subst hq
    exact hb p hp
  · rw [List.pairwise_append]
    refine ⟨g.f4, by simp, fun p hp q hq => ?_⟩
    rw [List.mem_singleton] at hq
    subst hq
    exact h3 p hp
theorem Fol.skip {done : List (List (Nat × Nat) × α)} {r : List (Nat × Nat) × α} {rest : List (List (Nat × Nat) × α)} {dl : List (Nat × Nat)} {e : Nat × Nat} {K' : List (Nat × Nat)} (h : Rows (K := K) (it := it) a t rows W) (hr : rows = done ++ r :: rest) (hK : K = dl ++ e :: K') (hs : K.Pairwise ltE)
    (g : Fol (K := K) (it := it) a rows W fol (DnR done r dl)) (hn : ¬ (it e.1 = r.2 ∧ W (it e.2) = none ∧ ∀ p ∈ fol, p.2 ≠ it e.2)) : Fol (K := K) (it := it) a rows W fol (DnR done r (dl ++ [e])) := by
  have hb := g.before h hr hK hs
  refine ⟨fun p hp => ?_, fun r' hr' e' he' hd w1 w2 => ?_, g.f3, g.f4⟩
  · obtain ⟨r', q1, e', q2, q3, q4, q5, q6, q7⟩ := g.f1 p hp
    refine ⟨r', q1, e', q2, q3, q4, q5, q6, ?_⟩
    rcases q7 with q7 | ⟨q7, q8⟩
    · exact .inl q7
    · exact .inr ⟨q7, List.mem_append_left _ q8⟩
  · by_cases z : DnR done r dl r' e'
    · exact g.f2 r' hr' e' he' z w1 w2
    · rcases hd with hd | ⟨rfl, hd⟩
      · exact absurd (.inl hd) z
      · rcases List.mem_append.mp hd with hd | hd
        · exact absurd (.inr ⟨rfl, hd⟩) z
        · rw [List.mem_singleton] at hd
          subst hd
          have : ∃ p ∈ fol, p.2 = it e'.2 := Classical.byContradiction fun y => hn ⟨w1, w2, fun p hp q => y ⟨p, hp, q⟩⟩
          obtain ⟨p, hp, hp2⟩ := this
          exact ⟨p, hp, hp2, (hb p hp).1⟩
theorem Fol.next {done : List (List (Nat × Nat) × α)} {r r' : List (Nat × Nat) × α} {dl : List (Nat × Nat)} (hd : ∀ e ∈ K, e ∈ dl)
    (g : Fol (K := K) (it := it) a rows W fol (DnR done r dl)) : Fol (K := K) (it := it) a rows W fol (DnR (done ++ [r]) r' []) := g.congr fun x hx e he => by
  unfold DnR
  simp only [List.mem_append, List.mem_singleton, List.not_mem_nil, and_false, or_false]
  exact ⟨fun h => h.imp id fun h => h.1, fun h => h.imp id fun h => ⟨h, hd e he⟩⟩
end
end Rb
/-! Plain steps: what the little language does, construct by construct. -/
namespace Rb
open PySem
open PySem.Spec
open L2
def nT (p : Nat) : T := .int (p : Int)
def Tab.at (T : Tab) (k : AtM) : Option (Nat × Nat × List IS) := (T.get k).map fun d => (d.N.length, d.ps.length, d.xs)
section
variable {T : Tab} {n np : Nat} {xs : List IS} {k : Nat}
theorem at_def {x : AtM} (h : T.at x = some (n, np, xs)) : ∃ d, T.get x = some d ∧ d.N.length = n ∧ d.ps.length = np ∧ d.xs = xs := by
  unfold Tab.at at h
  cases q : T.get x with
  | none => rw [q] at h; cases h
  | some d => rw [q] at h; cases h; exact ⟨d, rfl, rfl, rfl, rfl⟩
theorem fn_of {f : String} (h : T.at (.fn f) = some (n, np, xs)) (k : Nat) (ts : List Rb.T) : (mkC T (k + 1)).fn f ts = callB (mkC T k) n np xs ts := by
  obtain ⟨d, h1, rfl, rfl, rfl⟩ := at_def h
  simp only [mkC, h1, callD]
theorem me_of {cn m : String} (h : T.at (.me cn m) = some (n, np, xs)) (k : Nat) (ts : List Rb.T) : (mkC T (k + 1)).me cn m ts = callB (mkC T k) n np xs ts := by
  obtain ⟨d, h1, rfl, rfl, rfl⟩ := at_def h
  simp only [mkC, h1, callD]
theorem pr_of {cn m : String} (h : T.at (.pr cn m) = some (n, np, xs)) (k : Nat) (t : Rb.T) : (mkC T (k + 1)).pr cn m t = callB (mkC T k) n np xs [t] := by
  obtain ⟨d, h1, rfl, rfl, rfl⟩ := at_def h
  simp only [mkC, h1, callD]
theorem nw_of {cn : String} (h : T.at (.nw cn) = some (n, np, xs)) (k : Nat) (ts : List Rb.T) : (mkC T (k + 1)).nw cn ts = initB (mkC T k) cn n np xs ts := by
  obtain ⟨d, h1, rfl, rfl, rfl⟩ := at_def h
  simp only [mkC, h1, makeD]
theorem hm_of {cn m : String} {x : Nat × Nat × List IS} (h : T.at (.me cn m) = some x) (k : Nat) : (mkC T k).hm cn m = true := by
  obtain ⟨n, np, xs⟩ := x
  obtain ⟨d, h1, _⟩ := at_def h
  cases k <;> simp [mkC, h1]
theorem fld_of {cn f : String} (h : T.flds.contains (cn, f) = true) (k : Nat) : (mkC T k).fld cn f = true := by
  cases k <;> exact h
end
theorem rng_c {n : Nat} (hn : n ≤ 1000000) : -(2 ^ 62) ≤ (0 : Int) ∧ (0 : Int) < 2 ^ 62 ∧ -(2 ^ 62) ≤ (n : Int) ∧ (n : Int) < 2 ^ 62 := by
  have : (n : Int) ≤ ((1000000 : Nat) : Int) := Int.ofNat_le.mpr hn
  refine ⟨by decide, by decide, ?_, ?_⟩
  · exact Int.le_trans (by decide) (Int.natCast_nonneg n)
  · exact Int.lt_of_le_of_lt this (by decide)
theorem rng_ok {n : Nat} (hn : n ≤ 1000000) : rngT 0 (n : Int) = .ok ((List.range n).map nT) := by
  unfold rngT
  rw [if_pos (rng_c hn)]
  rw [Int.sub_zero, Int.toNat_natCast]
  congr 1
  exact List.map_congr_left fun k _ => by rw [nT, Int.zero_add]
theorem bnd_ok {α β : Type} (a : α) (f : α → R β) : (R.ok a >>= f) = f a := id rfl
theorem intT_int (i : Int) : intT (.int i) = .ok i := id rfl
theorem evF_false {C : Calls} {env : Env} {fv : List Nat} {it : It'} : evF C env false fv it = evI C env fv it := id (by cases it <;> rfl)
/-! ### calls -/
variable {C : Calls} {env env' : Env} {ss : List IS} {r : SR}
theorem call_rt {n np : Nat} {xs : List IS} {ts : List T} {t : T} (hl : ts.length = np) (he : env0 n ts = env) (h : execs C xs env = .rt t) : callB C n np xs ts = .ok t := by
  subst he
  rw [callB, if_pos hl, h]; rfl
theorem call_nx {n np : Nat} {xs : List IS} {ts : List T} (hl : ts.length = np) (he : env0 n ts = env) (h : execs C xs env = .nx env') : callB C n np xs ts = .ok .non := by
  subst he
  rw [callB, if_pos hl, h]; rfl
/-! ### statements -/
theorem z_nil : execs C [] env = .nx env := by rw [execs]
theorem z_asg_rd {p : Pat} {e : IE} {t : T} (h : ev C env e = .ok t) (ho : own t = true) (hp : asgT p t env = some env') (hr : execs C ss env' = r) : execs C (.asg p (.rd e) :: ss) env = r := by
  rw [execs, exec]
  simp only [evL, h, ho, if_pos, VR.go, hp, optS, SR.seq, hr]
theorem z_asg_es {p : Pat} {fv : List Nat} {e : IE} {t : T} (h : ev C (keepS fv env) e = .ok t) (hp : asgT p t (frS fv env) = some env') (hr : execs C ss env' = r) : execs C (.asg p (.es fv e) :: ss) env = r := by
  rw [execs, exec]
  simp only [evL, h, VR.go, hp, optS, SR.seq, hr]
theorem z_ret_es {fv : List Nat} {e : IE} {t : T} (h : ev C (keepS fv env) e = .ok t) : execs C (.ret (.es fv e) :: ss) env = .rt t := by
  rw [execs, exec]
  simp only [evL, h, VR.go, SR.seq]
theorem z_ret_rd {e : IE} {t : T} (h : ev C env e = .ok t) (ho : own t = true) : execs C (.ret (.rd e) :: ss) env = .rt t := by
  rw [execs, exec]
  simp only [evL, h, ho, if_pos, VR.go, SR.seq]
theorem z_ret_mv {i : Nat} {t : T} (h : getS env i = some t) : execs C (.ret (.mv i) :: ss) env = .rt t := by
  rw [execs, exec]
  simp only [evL, h, VR.go, SR.seq]
theorem z_exp {e : IE} {t : T} (h : ev C env e = .ok t) (hr : execs C ss env = r) : execs C (.exp e :: ss) env = r := by
  rw [execs, exec]
  simp only [h, SR.seq, hr]
theorem z_if {c : IE} {a b : List IS} {v : T} {k : Bool} (h : ev C env c = .ok v) (hk : truth v = .ok k) (hr : (if k then execs C a env else execs C b env).seq (fun e => execs C ss e) = r) : execs C (.iff c a b :: ss) env = r := by
  rw [execs, exec]
  simp only [evC, h, R.ok_bind, hk, toBR, BR.go, hr]
/-- a test that is so: its branch ends in a return -/
theorem z_if_f {c : IE} {a : List IS} (h : ev C env c = .ok (.bl false)) (hr : execs C ss env = r) : execs C (.iff c a [] :: ss) env = r := by
  refine z_if (k := false) h rfl ?_
  rw [if_neg (by simp), z_nil]
  exact hr
theorem z_if_rt {c : IE} {a b : List IS} {t : T} (h : ev C env c = .ok (.bl true)) (hr : execs C a env = .rt t) : execs C (.iff c a b :: ss) env = .rt t := by
  refine z_if (k := true) h rfl ?_
  rw [if_pos rfl, hr]
  rfl
theorem z_if_nx {c : IE} {a b : List IS} (h : ev C env c = .ok (.bl true)) (h2 : execs C a env = .nx env') (hr : execs C ss env' = r) : execs C (.iff c a b :: ss) env = r := by
  refine z_if (k := true) h rfl ?_
  rw [if_pos rfl, h2]
  exact hr
theorem z_if_el {c : IE} {a b : List IS} (h : ev C env c = .ok (.bl false)) (h2 : execs C b env = .nx env') (hr : execs C ss env' = r) : execs C (.iff c a b :: ss) env = r := by
  refine z_if (k := false) h rfl ?_
  rw [if_neg (by simp), h2]
  exact hr
theorem forGo_ok {α σ : Type} {p : Pat} {kl : List Nat} {b : Env → SR} {f : α → T} {E : σ → Env} {g : σ → α → σ} : ∀ {ys : List α} {s : σ}, (∀ s, ∀ y ∈ ys, ∃ e1 e2, asgP p (strip (f y)) (E s) = some e1 ∧ (b e1 = .nx e2 ∨ b e1 = .ct e2) ∧ kill kl e2 = E (g s y)) → forGo p kl b (ys.map f) (E s) = .nx (E (ys.foldl g s))
  | [], s, _ => rfl
  | y :: ys, s, h => by
    obtain ⟨e1, e2, h1, h2, h3⟩ := h s y List.mem_cons_self
    have ih := forGo_ok (p := p) (kl := kl) (b := b) (f := f) (E := E) (g := g) (ys := ys) (s := g s y) fun s z m => h s z (List.mem_cons_of_mem _ m)
    rw [List.map_cons, forGo, h1]
    rcases h2 with h2 | h2 <;> simp only [h2, h3, ih, List.foldl_cons]
theorem z_for {α σ : Type} {p : Pat} {ow : Bool} {fv kl : List Nat} {it : It'} {b : List IS} {f : α → T} {E : σ → Env} (g : σ → α → σ) {ys : List α} {s : σ} (hi : evF C env ow fv it = .ok (ys.map f) (E s)) (h : ∀ s, ∀ y ∈ ys, ∃ e1 e2, asgP p (strip (f y)) (E s) = some e1 ∧ (execs C b e1 = .nx e2 ∨ execs C b e1 = .ct e2) ∧ kill kl e2 = E (g s y))
    (hr : execs C ss (E (ys.foldl g s)) = r) : execs C (.floop p ow fv it kl b :: ss) env = r := by
  rw [execs, exec, hi]
  simp only [LR.go, forGo_ok (E := E) (g := g) h, SR.seq, hr]
theorem forGo_inv {α σ : Type} {p : Pat} {kl : List Nat} {b : Env → SR} {f : α → T} {E : σ → Env} {g : σ → α → σ} {I : List α → σ → Prop} : ∀ {ys : List α} {s : σ}, I ys s → (∀ s y l, I (y :: l) s → (∃ e1 e2, asgP p (strip (f y)) (E s) = some e1 ∧ (b e1 = .nx e2 ∨ b e1 = .ct e2) ∧ kill kl e2 = E (g s y)) ∧ I l (g s y)) → forGo p kl b (ys.map f) (E s) = .nx (E (ys.foldl g s)) ∧ I [] (ys.foldl g s)
  | [], s, hi, _ => ⟨rfl, hi⟩
  | y :: ys, s, hi, h => by
    obtain ⟨⟨e1, e2, h1, h2, h3⟩, h4⟩ := h s y ys hi
    have ih := forGo_inv (p := p) (kl := kl) (b := b) (f := f) (E := E) (g := g) (I := I) (ys := ys) (s := g s y) h4 h
    rw [List.map_cons, forGo, h1]
    rcases h2 with h2 | h2 <;> simp only [h2, h3, ih.1, List.foldl_cons] <;> exact ⟨trivial, ih.2⟩
/-- a walk, with what holds ahead of each step -/
theorem z_forI {α σ : Type} {p : Pat} {ow : Bool} {fv kl : List Nat} {it : It'} {b : List IS} {f : α → T} {E : σ → Env} (I : List α → σ → Prop) (g : σ → α → σ) {ys : List α} {s : σ} (hi : evF C env ow fv it = .ok (ys.map f) (E s)) (h0 : I ys s) (h : ∀ s y l, I (y :: l) s → (∃ e1 e2, asgP p (strip (f y)) (E s) = some e1 ∧ (execs C b e1 = .nx e2 ∨ execs C b e1 = .ct e2) ∧ kill kl e2 = E (g s y)) ∧ I l (g s y))
    (hr : I [] (ys.foldl g s) → execs C ss (E (ys.foldl g s)) = r) : execs C (.floop p ow fv it kl b :: ss) env = r := by
  have := forGo_inv (E := E) (g := g) (b := fun e => execs C b e) h0 h
  rw [execs, exec, hi]
  simp only [LR.go, this.1, SR.seq, hr this.2]
theorem evF_seq {fv : List Nat} {e : IE} {t : T} {xs : List T} (h : ev C (keepS fv env) e = .ok t) (hc : childs t = .ok xs) : evF C env false fv (.seq e) = .ok xs (frS fv env) := by
  simp only [evF, evI, isRng, evi, h, R.ok_bind, hc, toLR]
  rfl
theorem evF_own {e : IE} {o : Bool} {xs : List T} (h : ev C env e = .ok (.nd .lst true xs)) (ho : owns xs = true) : evF C env true [] (.seq e) = .ok xs env := by
  have : own (.nd .lst true xs) = true := by simp [own, ho]
  simp only [evF, evIo, h, this, if_pos, childsO]
theorem evi_rng {e : IE} {n : Nat} (h : ev C env e = .ok (.int n)) (hn : n ≤ 1000000) : evi C env (.rng1 e) = .ok ((List.range n).map nT) := by
  rw [evi, h, bnd_ok, intT_int, bnd_ok, rng_ok hn]
theorem evF_rng {fv : List Nat} {e : IE} {n : Nat} (h : ev C env e = .ok (.int n)) (hn : n ≤ 1000000) : evF C env false fv (.rng1 e) = .ok ((List.range n).map nT) env := by
  have : isRng (.rng1 e) = true := rfl
  rw [evF_false, evI, if_pos this, evi_rng h hn, toLR]
theorem z_app {i : Nat} {fv : List Nat} {e : IE} {xs : List T} {t : T} (hi : getS env i = some (.nd .lst true xs)) (h : ev C (keepS fv env) e = .ok t) (hi2 : getS (frS fv env) i = some (.nd .lst true xs)) (hl : xs.length < sizeLine) (he : (frS fv env).set i (some (.nd .lst true (xs ++ [t]))) = env') (hr : execs C ss env' = r) : execs C (.app i [] (.es fv e) :: ss) env = r := by
  have h1 : resS C env i [] = .ok ([], .nd .lst true xs) := by rw [resS, hi]; rfl
  have h2 : appT (.nd .lst true xs) t = some (.nd .lst true (xs ++ [t])) := by rw [appT, if_pos hl]
  have h3 : isLst (.nd .lst true xs) = true := rfl
  rw [execs, exec, h1]
  simp only [resGo, h3, if_pos, evL, h, VR.go, modS, hi2, nodeAt, h2, putAt, he, SR.seq, hr]
theorem z_app_rd {i : Nat} {e : IE} {xs : List T} {t : T} (hi : getS env i = some (.nd .lst true xs)) (h : ev C env e = .ok t) (ho : own t = true) (hl : xs.length < sizeLine) (he : env.set i (some (.nd .lst true (xs ++ [t]))) = env') (hr : execs C ss env' = r) : execs C (.app i [] (.rd e) :: ss) env = r := by
  have h1 : resS C env i [] = .ok ([], .nd .lst true xs) := by rw [resS, hi]; rfl
  have h2 : appT (.nd .lst true xs) t = some (.nd .lst true (xs ++ [t])) := by rw [appT, if_pos hl]
  have h3 : isLst (.nd .lst true xs) = true := rfl
  rw [execs, exec, h1]
  simp only [resGo, h3, if_pos, evL, h, ho, VR.go, modS, hi, nodeAt, h2, putAt, he, SR.seq, hr]
theorem z_ext {i : Nat} {fv : List Nat} {e : IE} {xs ys : List T} (hi : getS env i = some (.nd .lst true xs)) (h : ev C (keepS fv env) e = .ok (.nd .lst true ys)) (hi2 : getS (frS fv env) i = some (.nd .lst true xs)) (hl : xs.length + ys.length ≤ sizeLine) (he : (frS fv env).set i (some (.nd .lst true (xs ++ ys))) = env') (hr : execs C ss env' = r) : execs C (.ext i (.es fv e) :: ss) env = r := by
  have e1 : extT (some (.nd .lst true xs)) (.nd .lst true ys) = some (.nd .lst true (xs ++ ys)) := by
    rw [extT, if_pos hl]
    rfl
  rw [execs, exec, hi]
  simp only [evL, h, VR.go, hi2, e1, Option.map_some, optS, SR.seq, he, hr]
/-! ### comprehensions -/
theorem lcGo_flt {α : Type} {stp : T → R (Option T)} {f : α → T} {p : α → Bool} {g : α → T} : ∀ {ys : List α}, (∀ y ∈ ys, stp (f y) = .ok (if p y then some (g y) else none)) → lcGo stp (ys.map f) = .ok ((ys.filter p).map g)
  | [], _ => rfl
  | y :: ys, h => by
    simp only [List.map_cons, lcGo, h y List.mem_cons_self, lcGo_flt fun z m => h z (List.mem_cons_of_mem _ m), R.ok_bind]
    cases q : p y with
    | true => simp [List.filter_cons, q]
    | false => simp [List.filter_cons, q]
theorem ev_lc {α : Type} {tg : Pat} {it : It'} {elt : IE} {ifs : List IE} {ys : List α} {f : α → T} (p : α → Bool) (g : α → T) (hi : evi C env it = .ok (ys.map f)) (hl : ys.length ≤ 16000000)
    (h : ∀ y ∈ ys, ∃ e1, asgP tg (f y) (kill (slots tg) env) = some e1 ∧ evc C e1 ifs = .ok (p y) ∧ (p y = true → ev C e1 elt = .ok (g y))) : ev C env (.lc elt tg it ifs) = .ok (.nd .lst true ((ys.filter p).map g)) := by
  have hl2 : ((ys.filter p).map g).length ≤ sizeLine := by
    have h1 := List.length_filter_le p ys
    have h2 := sizeLine_eq
    rw [List.length_map]
    omega
  simp only [ev, hi, R.ok_bind]
  rw [lcGo_flt (p := p) (g := g)]
  · simp only [R.calm_ok, R.ok_bind, if_pos hl2]
  · intro y m
    obtain ⟨e1, h1, h2, h3⟩ := h y m
    simp only [h1, optR_some, h2, R.ok_bind]
    cases q : p y with
    | true => simp only [h3 q, if_true, R.ok_bind]
    | false => simp
theorem evi_seq {e : IE} {t : T} {xs : List T} (h : ev C env e = .ok t) (hc : childs t = .ok xs) : evi C env (.seq e) = .ok xs := by simp only [evi, h, R.ok_bind, hc]
end Rb
/-! The texts that nearly all laws share. -/
namespace Rb
open PySem
open PySem.Spec
open L2
abbrev y_links_in : List IS := [.asg (.nm 3) (.es [0, 2] (.dc (.var 7) (.mth (.var 0) "grade_at" [.var 7]) (.nm 7) (.seq (.var 2)) [])), .asg (.nm 4) (.rd (.lst [])), .floop (.nm 5) false [2] (.seq (.var 2)) [5, 6] [.floop (.nm 6) false [2] (.seq (.var 2)) [6] [.iff (.bo .And [.cmp .Lt (.sub (.var 3) (.var 5)) (.sub (.var 3) (.var 6)), .bo .Or [.cmp .Eq (.var 1) (.lit (.str "stays")), .cmp .Eq (.cmp .Lt (.var 5) (.var 6)) (.cmp .Eq (.var 1) (.lit (.str "rises")))]]) [.app 4 [] (.es [5, 6] (.tup [.var 5, .var 6]))] []]], .ret (.mv 4)]
abbrev y_links_of : List IS := [.asg (.nm 1) (.rd (.lst [])), .floop (.tp [.nm 2, .nm 3]) false [0] (.seq (.att (.var 0) "judges")) [2, 3, 4] [.floop (.nm 4) false [0, 2] (.seq (.mth (.var 0) "stretches" [.var 2])) [4] [.ext 1 (.es [0, 3, 4] (.call "links_in" [.var 0, .var 3, .var 4]))]], .ret (.es [1] (.srt (.var 1)))]
abbrev y_ends_of : List IS := [.asg (.nm 1) (.es [0] (.dc (.var 2) (.mth (.var 0) "item_at" [.var 2]) (.nm 2) (.seq (.mth (.var 0) "answers" [])) [])), .ret (.es [0, 1] (.lc (.tup [.tup [.var 3, .var 4], .sub (.var 1) (.var 3), .sub (.var 1) (.var 4)]) (.tp [.nm 3, .nm 4]) (.seq (.call "links_of" [.var 0])) []))]
abbrev y_is_name : List IS := [.ret (.rd (.bo .And [.chain .LtE .LtE (.lit (.int 1)) (.b1 .len (.var 0)) (.lit (.int 12)), .b1 .all (.lc (.cmp .In (.var 1) (.glb "LETTERS" (.inr "abcdefghijklmnopqrstuvwxyz0123456789"))) (.nm 1) (.seq (.var 0)) [])]))]
abbrev y_is_drift : List IS := [.ret (.rd (.cmp .In (.var 0) (.tup [.glb "RISES" (.inr "rises"), .glb "FALLS" (.inr "falls"), .glb "STAYS" (.inr "stays")])))]
abbrev y_are_names : List IS := [.ret (.rd (.bo .And [.chain .LtE .LtE (.lit (.int 1)) (.b1 .len (.var 0)) (.var 1), .b1 .all (.lc (.call "is_name" [.var 2]) (.nm 2) (.seq (.var 0)) []), .cmp .Eq (.lset (.var 0)) (.b1 .len (.var 0))]))]
abbrev y_is_event : List IS := [.iff (.bo .And [.cmp .Eq (.b1 .len (.var 0)) (.lit (.int 2)), .cmp .Eq (.sub (.var 0) (.lit (.int 0))) (.glb "RESET" (.inr "reset"))]) [.ret (.rd (.cmp .In (.sub (.var 0) (.lit (.int 1))) (.var 3)))] [], .iff (.bo .Or [.cmp .NotEq (.b1 .len (.var 0)) (.lit (.int 4)), .cmp .NotEq (.sub (.var 0) (.lit (.int 0))) (.glb "ANSWER" (.inr "answer"))]) [.ret (.rd (.lit (.bl false)))] [], .ret (.rd (.bo .And [.cmp .In (.sub (.var 0) (.lit (.int 1))) (.var 3), .cmp .In (.sub (.var 0) (.lit (.int 2))) (.var 1), .chain .LtE .LtE (.lit (.int 0)) (.sub (.var 0) (.lit (.int 3))) (.var 2)]))]
abbrev y__law_row : List IS := [.asg (.nm 2) (.rd (.lst [])), .asg (.nm 3) (.rd (.lit (.int 0))), .iff (.cmp .GtE (.b1 .abs (.var 0)) (.bin .Pow (.lit (.int 10)) (.lit (.int 18)))) [.asg (.nm 3) (.rd (.b1 .abs (.var 0)))] [], .asg (.nm 4) (.rd (.bin .Mod (.b1 .int (.b1 .abs (.var 0))) (.lit (.int 2147483647)))), .floop (.nm 5) false [1] (.rng1 (.var 1)) [5] [.asg (.nm 4) (.rd (.bin .Mod (.b1 .int (.bin .Add (.bin .Mult (.bin .Add (.var 4) (.lit (.int 1))) (.lit (.int 48271))) (.bin .Mult (.lit (.int 69621)) (.var 5)))) (.lit (.int 2147483647)))), .iff (.cmp .Gt (.var 3) (.lit (.int 0))) [.app 2 [] (.rd (.bin .Mod (.b1 .int (.var 3)) (.lit (.int 1009)))), .asg (.nm 3) (.rd (.bin .FloorDiv (.var 3) (.lit (.int 1009))))] [.app 2 [] (.rd (.bin .Mod (.b1 .int (.bin .FloorDiv (.var 4) (.lit (.int 2048)))) (.lit (.int 1009))))]], .ret (.mv 2)]
abbrev y__law_numbers : List IS := [.asg (.nm 2) (.es [0] (.slc (.var 0) [] [.lit (.int 63)])), .asg (.nm 3) (.rd (.bin .Add (.lit (.int 1)) (.bin .FloorDiv (.var 1) (.b2 true (.lit (.int 1)) (.b1 .len (.var 2)))))), .asg (.nm 4) (.rd (.lst [])), .floop (.nm 5) false [2] (.seq (.var 2)) [5, 6] [.floop (.nm 6) false [3, 5] (.seq (.call "_law_row" [.var 5, .var 3])) [6] [.app 4 [] (.es [6] (.var 6))]], .whl (.cmp .Lt (.b1 .len (.var 4)) (.var 1)) [] [.app 4 [] (.rd (.lit (.int 0)))], .ret (.es [1, 4] (.slc (.var 4) [] [.var 1]))]
abbrev y__law_log : List IS := [.asg (.nm 4) (.es [0, 1, 2] (.slc (.lst [.lit (.str "a"), .lit (.str "b"), .lit (.str "it3"), .lit (.str "c4"), .lit (.str "z"), .lit (.str "0")]) [] [.bin .Add (.lit (.int 1)) (.bin .Mod (.b1 .int (.sub (.var 0) (.var 1))) (.var 2))])), .asg (.nm 5) (.es [0, 1] (.sub (.lst [.lit (.int 1), .lit (.int 1), .lit (.int 2), .lit (.int 3), .lit (.int 9)]) (.bin .Mod (.b1 .int (.sub (.var 0) (.bin .Add (.var 1) (.lit (.int 1))))) (.lit (.int 5))))), .asg (.nm 6) (.rd (.lst [])), .floop (.nm 7) false [0, 1] (.rng1 (.bin .Add (.lit (.int 1)) (.bin .Mod (.b1 .int (.sub (.var 0) (.bin .Add (.var 1) (.lit (.int 2))))) (.lit (.int 3))))) [] [.app 6 [] (.es [0, 1, 7] (.tup [.sub (.lst [.lit (.str "ann"), .lit (.str "b"), .lit (.str "7")]) (.var 7), .sub (.lst [.lit (.str "rises"), .lit (.str "falls"), .lit (.str "rises"), .lit (.str "falls"), .lit (.str "stays")]) (.bin .Mod (.b1 .int (.sub (.var 0) (.bin .Add (.bin .Add (.var 1) (.lit (.int 3))) (.var 7)))) (.lit (.int 5)))]))], .asg (.nm 8) (.es [0, 1, 4, 7] (.lc (.bin .Mod (.b1 .int (.sub (.var 0) (.bin .Add (.bin .Add (.var 1) (.lit (.int 6))) (.var 7)))) (.lit (.int 7))) (.nm 7) (.rng1 (.b1 .len (.var 4))) [])), .asg (.nm 9) (.rd (.lst [])), .floop (.nm 7) false [0, 1, 3] (.rng1 (.bin .Mod (.b1 .int (.sub (.var 0) (.bin .Add (.var 1) (.lit (.int 12))))) (.bin .Add (.var 3) (.lit (.int 1))))) [7, 10, 11, 12, 13, 14, 15] [.asg (.nm 10) (.rd (.b1 .int (.sub (.var 0) (.bin .Add (.bin .Add (.var 1) (.lit (.int 13))) (.var 7))))), .asg (.nm 11) (.rd (.sub (.var 6) (.bin .Mod (.b1 .int (.var 10)) (.b1 .len (.var 6))))), .asg (.nm 12) (.rd (.bin .Mod (.b1 .int (.bin .FloorDiv (.var 10) (.lit (.int 3)))) (.lit (.int 9)))), .asg (.nm 13) (.rd (.bin .Mod (.b1 .int (.bin .FloorDiv (.var 10) (.lit (.int 27)))) (.b1 .len (.var 4)))), .asg (.nm 14) (.es [7] (.var 7)), .iff (.cmp .Eq (.sub (.var 11) (.lit (.int 1))) (.lit (.str "falls"))) [.asg (.nm 14) (.es [3, 7] (.bin .Sub (.var 3) (.var 7)))] [], .asg (.nm 15) (.rd (.b2 true (.lit (.int 0)) (.b2 false (.var 5) (.bin .Sub (.sub (.var 8) (.var 13)) (.b1 .int (.bin .FloorDiv (.bin .Mult (.var 14) (.lit (.int 5))) (.bin .Add (.var 3) (.lit (.int 1))))))))), .iff (.cmp .Eq (.var 12) (.lit (.int 0))) [.app 9 [] (.es [11] (.tup [.lit (.str "reset"), .sub (.var 11) (.lit (.int 0))]))] [.iff (.bo .Or [.cmp .Eq (.var 12) (.lit (.int 1)), .bo .And [.cmp .Eq (.sub (.var 11) (.lit (.int 1))) (.lit (.str "stays")), .cmp .Lt (.var 12) (.lit (.int 5))]]) [.asg (.nm 15) (.rd (.bin .Mod (.b1 .int (.bin .FloorDiv (.var 10) (.lit (.int 31)))) (.bin .Add (.var 5) (.lit (.int 1)))))] [], .app 9 [] (.es [4, 11, 13, 15] (.tup [.lit (.str "answer"), .sub (.var 11) (.lit (.int 0)), .sub (.var 4) (.var 13), .var 15]))]], .ret (.es [4, 5, 6, 9] (.tup [.var 4, .var 5, .var 6, .var 9]))]
abbrev y__law_made : List IS := [.ret (.es [0] (.new "Log" [.b1 .list (.sub (.var 0) (.lit (.int 0))), .sub (.var 0) (.lit (.int 1)), .b1 .list (.sub (.var 0) (.lit (.int 2))), .b1 .list (.sub (.var 0) (.lit (.int 3)))]))]
abbrev y_Log : List IS := [.iff (.no (.b1 .all (.lc (.bo .And [.cmp .Eq (.b1 .len (.var 6)) (.lit (.int 2)), .call "is_drift" [.sub (.var 6) (.lit (.int 1))]]) (.nm 6) (.seq (.var 3)) []))) [.nev] [], .asg (.nm 5) (.es [3] (.lc (.sub (.var 6) (.lit (.int 0))) (.nm 6) (.seq (.var 3)) [])), .iff (.bo .Or [.no (.call "are_names" [.var 1, .glb "MOST_ITEMS" (.inl (20))]), .no (.call "are_names" [.var 5, .glb "MOST_JUDGES" (.inl (8))]), .no (.chain .LtE .LtE (.lit (.int 1)) (.var 2) (.glb "MOST_GRADE" (.inl (9))))]) [.nev] [], .iff (.bo .Or [.cmp .Gt (.b1 .len (.var 4)) (.glb "MOST_EVENTS" (.inl (120))), .no (.b1 .all (.lc (.call "is_event" [.var 7, .var 1, .var 2, .var 5]) (.nm 7) (.seq (.var 4)) []))]) [.nev] [], .fld "_items" (.es [1] (.b1 .list (.var 1))), .fld "_grades" (.es [2] (.var 2)), .fld "_judges" (.es [3] (.b1 .list (.var 3))), .fld "_events" (.es [4] (.b1 .list (.var 4)))]
abbrev y_Log_grades : List IS := [.ret (.es [0] (.att (.var 0) "_grades"))]
abbrev y_Log_judges : List IS := [.ret (.es [0] (.b1 .list (.att (.var 0) "_judges")))]
abbrev y_Log_events : List IS := [.ret (.es [0] (.b1 .list (.att (.var 0) "_events")))]
abbrev y_Log_drift_of : List IS := [.floop (.tp [.nm 2, .nm 3]) false [0] (.seq (.att (.var 0) "_judges")) [2, 3] [.iff (.cmp .Eq (.var 2) (.var 1)) [.ret (.mv 3)] []], .nev]
abbrev y_Log_is_answer : List IS := [.ret (.rd (.bo .And [.chain .LtE .Lt (.lit (.int 0)) (.var 1) (.b1 .len (.att (.var 0) "_events")), .cmp .Eq (.sub (.sub (.att (.var 0) "_events") (.var 1)) (.lit (.int 0))) (.glb "ANSWER" (.inr "answer"))]))]
abbrev y_Log_answers : List IS := [.ret (.es [0] (.lc (.var 1) (.nm 1) (.rng1 (.b1 .len (.att (.var 0) "_events"))) [.mth (.var 0) "is_answer" [.var 1]]))]
abbrev y_Log_answers_of : List IS := [.exp (.mth (.var 0) "drift_of" [.var 1]), .ret (.es [0, 1] (.lc (.var 2) (.nm 2) (.seq (.mth (.var 0) "answers" [])) [.cmp .Eq (.sub (.sub (.att (.var 0) "_events") (.var 2)) (.lit (.int 1))) (.var 1)]))]
abbrev y_Log_answer_at : List IS := [.iff (.no (.mth (.var 0) "is_answer" [.var 1])) [.nev] [], .ret (.es [0, 1] (.sub (.att (.var 0) "_events") (.var 1)))]
abbrev y_Log_judge_at : List IS := [.ret (.es [0, 1] (.sub (.mth (.var 0) "answer_at" [.var 1]) (.lit (.int 1))))]
abbrev y_Log_item_at : List IS := [.ret (.es [0, 1] (.sub (.mth (.var 0) "answer_at" [.var 1]) (.lit (.int 2))))]
abbrev y_Log_grade_at : List IS := [.ret (.es [0, 1] (.sub (.mth (.var 0) "answer_at" [.var 1]) (.lit (.int 3))))]
abbrev y_Log_span_at : List IS := [.asg (.nm 3) (.es [0, 1] (.lc (.var 5) (.tp [.nm 5, .nm 6]) (.enm (.att (.var 0) "_events")) [.cmp .Eq (.var 6) (.tup [.glb "RESET" (.inr "reset"), .var 1])])), .asg (.nm 4) (.rd (.mxd true (.lc (.bin .Add (.var 5) (.lit (.int 1))) (.nm 5) (.seq (.var 3)) [.cmp .Lt (.var 5) (.var 2)]) (.lit (.int 0)))), .ret (.es [0, 2, 3, 4] (.tup [.var 4, .mxd false (.lc (.var 5) (.nm 5) (.seq (.var 3)) [.cmp .GtE (.var 5) (.var 2)]) (.b1 .len (.att (.var 0) "_events"))]))]
abbrev y_Log_stretch_at : List IS := [.asg (.nm 3) (.es [0, 1] (.mth (.var 0) "answers_of" [.var 1])), .iff (.no (.chain .LtE .LtE (.lit (.int 0)) (.var 2) (.b1 .len (.att (.var 0) "_events")))) [.nev] [], .asg (.tp [.nm 4, .nm 5]) (.es [0, 1, 2] (.mth (.var 0) "span_at" [.var 1, .var 2])), .ret (.es [3, 4, 5] (.lc (.var 6) (.nm 6) (.seq (.var 3)) [.chain .LtE .Lt (.var 4) (.var 6) (.var 5)]))]
abbrev y_Log_stretch_of : List IS := [.ret (.es [0, 1] (.mth (.var 0) "stretch_at" [.mth (.var 0) "judge_at" [.var 1], .var 1]))]
abbrev y_Log_stretches : List IS := [.asg (.nm 2) (.rd (.lst [])), .floop (.nm 3) false [0, 1] (.seq (.mth (.var 0) "answers_of" [.var 1])) [3] [.iff (.bo .Or [.cmp .Eq (.b1 .len (.var 2)) (.lit (.int 0)), .cmp .NotIn (.var 3) (.sub (.var 2) (.neg (.lit (.int 1))))]) [.app 2 [] (.es [0, 3] (.mth (.var 0) "stretch_of" [.var 3]))] []], .ret (.mv 2)]
structure LogTab (T : Tab) : Prop where
  links_in : T.at (.fn "links_in") = some (8, 3, y_links_in)
  links_of : T.at (.fn "links_of") = some (5, 1, y_links_of)
  ends_of : T.at (.fn "ends_of") = some (5, 1, y_ends_of)
  is_name : T.at (.fn "is_name") = some (2, 1, y_is_name)
  is_drift : T.at (.fn "is_drift") = some (1, 1, y_is_drift)
  are_names : T.at (.fn "are_names") = some (3, 2, y_are_names)
  is_event : T.at (.fn "is_event") = some (4, 4, y_is_event)
  _law_row : T.at (.fn "_law_row") = some (6, 2, y__law_row)
  _law_numbers : T.at (.fn "_law_numbers") = some (7, 2, y__law_numbers)
  _law_log : T.at (.fn "_law_log") = some (16, 4, y__law_log)
  _law_made : T.at (.fn "_law_made") = some (1, 1, y__law_made)
  Log : T.at (.nw "Log") = some (8, 5, y_Log)
  Log_grades : T.at (.pr "Log" "grades") = some (1, 1, y_Log_grades)
  Log_judges : T.at (.pr "Log" "judges") = some (1, 1, y_Log_judges)
  Log_events : T.at (.pr "Log" "events") = some (1, 1, y_Log_events)
  Log_drift_of : T.at (.me "Log" "drift_of") = some (4, 2, y_Log_drift_of)
  Log_is_answer : T.at (.me "Log" "is_answer") = some (2, 2, y_Log_is_answer)
  Log_answers : T.at (.me "Log" "answers") = some (2, 1, y_Log_answers)
  Log_answers_of : T.at (.me "Log" "answers_of") = some (3, 2, y_Log_answers_of)
  Log_answer_at : T.at (.me "Log" "answer_at") = some (2, 2, y_Log_answer_at)
  Log_judge_at : T.at (.me "Log" "judge_at") = some (2, 2, y_Log_judge_at)
  Log_item_at : T.at (.me "Log" "item_at") = some (2, 2, y_Log_item_at)
  Log_grade_at : T.at (.me "Log" "grade_at") = some (2, 2, y_Log_grade_at)
  Log_span_at : T.at (.me "Log" "span_at") = some (7, 3, y_Log_span_at)
  Log_stretch_at : T.at (.me "Log" "stretch_at") = some (7, 3, y_Log_stretch_at)
  Log_stretch_of : T.at (.me "Log" "stretch_of") = some (2, 2, y_Log_stretch_of)
  Log_stretches : T.at (.me "Log" "stretches") = some (4, 2, y_Log_stretches)
  f_items : T.flds.contains ("Log", "_items") = true
  f_grades : T.flds.contains ("Log", "_grades") = true
  f_judges : T.flds.contains ("Log", "_judges") = true
  f_events : T.flds.contains ("Log", "_events") = true
abbrev y_Log_item_names : List IS := [.ret (.es [0] (.b1 .list (.att (.var 0) "_items")))]
structure NamTab (T : Tab) : Prop where
  Log_item_names : T.at (.pr "Log" "item_names") = some (1, 1, y_Log_item_names)
abbrev y_check_items : List IS := [.floop (.nm 2) false [1] (.seq (.var 1)) [2] [.iff (.cmp .NotIn (.var 2) (.att (.var 0) "item_names")) [.nev] []]]
structure ChkTab (T : Tab) : Prop where
  check_items : T.at (.fn "check_items") = some (3, 2, y_check_items)
abbrev y_reached : List IS := [.asg (.nm 2) (.es [0, 1, 4] (.dc (.var 4) (.lc (.var 5) (.nm 5) (.seq (.var 0)) [.cmp .In (.tup [.var 4, .var 5]) (.var 1)]) (.nm 4) (.seq (.var 0)) [])), .floop (.nm 3) false [0] (.seq (.var 0)) [3, 4] [.floop (.nm 4) false [0] (.seq (.var 0)) [4] [.iff (.cmp .In (.var 3) (.sub (.var 2) (.var 4))) [.put 2 [] (.var 4) (.rd (.lc (.var 5) (.nm 5) (.seq (.var 0)) [.bo .Or [.cmp .In (.var 5) (.sub (.var 2) (.var 4)), .cmp .In (.var 5) (.sub (.var 2) (.var 3))]]))] []]], .ret (.mv 2)]
abbrev y_better_by : List IS := [.asg (.nm 2) (.es [1] (.dc (.var 6) (.lit (.bl true)) (.nm 6) (.seq (.var 1)) [])), .asg (.nm 3) (.rd (.dt0)), .floop (.tp [.tp [.nm 7, .nm 8], .nm 4, .nm 5]) false [0] (.seq (.call "ends_of" [.var 0])) [4, 5, 7, 8] [.iff (.bo .And [.cmp .In (.var 7) (.var 2), .cmp .In (.var 8) (.var 2)]) [.put 3 [] (.tup [.var 4, .var 5]) (.rd (.lit (.bl true)))] []], .ret (.es [0, 3] (.call "reached" [.att (.var 0) "item_names", .var 3]))]
structure ReaTab (T : Tab) : Prop where
  reached : T.at (.fn "reached") = some (6, 2, y_reached)
  better_by : T.at (.fn "better_by") = some (9, 2, y_better_by)
abbrev y_worse_than : List IS := [.asg (.nm 1) (.es [0] (.call "better_by" [.var 0, .mth (.var 0) "answers" []])), .ret (.es [0, 1] (.dc (.var 2) (.lc (.var 3) (.nm 3) (.seq (.att (.var 0) "item_names")) [.cmp .In (.var 2) (.sub (.var 1) (.var 3))]) (.nm 2) (.seq (.att (.var 0) "item_names")) []))]
structure WorTab (T : Tab) : Prop where
  worse_than : T.at (.fn "worse_than") = some (4, 1, y_worse_than)
abbrev y_has_way : List IS := [.exp (.call "check_items" [.var 0, .lst [.var 1, .var 2]]), .ret (.rd (.cmp .In (.var 1) (.sub (.call "worse_than" [.var 0]) (.var 2))))]
structure HasTab (T : Tab) : Prop where
  has_way : T.at (.fn "has_way") = some (3, 3, y_has_way)
abbrev y__law_alike : List IS := [.iff (.bo .Or [.cmp .Eq (.b1 .len (.sub (.var 0) (.var 1))) (.lit (.int 2)), .cmp .Eq (.b1 .len (.sub (.var 0) (.var 2))) (.lit (.int 2)), .cmp .NotEq (.sub (.sub (.var 0) (.var 1)) (.lit (.int 1))) (.sub (.sub (.var 0) (.var 2)) (.lit (.int 1)))]) [.ret (.rd (.lit (.bl false)))] [], .asg (.nm 3) (.es [0, 1, 2] (.slc (.var 0) [.b2 false (.var 1) (.var 2)] [.b2 true (.var 1) (.var 2)])), .ret (.rd (.cmp .Eq (.b1 .len (.lc (.var 4) (.nm 4) (.seq (.var 3)) [.cmp .Eq (.var 4) (.tup [.lit (.str "reset"), .sub (.sub (.var 0) (.var 1)) (.lit (.int 1))])])) (.lit (.int 0))))]
abbrev y__law_ordered : List IS := [.iff (.no (.call "_law_alike" [.sub (.var 0) (.lit (.int 3)), .var 1, .var 2])) [.ret (.rd (.lit (.bl false)))] [], .asg (.nm 3) (.es [0, 1] (.sub (.lc (.sub (.var 4) (.lit (.int 1))) (.nm 4) (.seq (.sub (.var 0) (.lit (.int 2)))) [.cmp .Eq (.sub (.var 4) (.lit (.int 0))) (.sub (.sub (.sub (.var 0) (.lit (.int 3))) (.var 1)) (.lit (.int 1)))]) (.lit (.int 0)))), .ret (.rd (.bo .Or [.cmp .Eq (.var 3) (.lit (.str "stays")), .bo .And [.cmp .Eq (.var 3) (.lit (.str "rises")), .cmp .LtE (.var 1) (.var 2)], .bo .And [.cmp .Eq (.var 3) (.lit (.str "falls")), .cmp .GtE (.var 1) (.var 2)]]))]
abbrev y__law_links : List IS := [.asg (.nm 1) (.rd (.lst [])), .asg (.nm 2) (.es [0] (.sub (.var 0) (.lit (.int 3)))), .floop (.nm 3) false [2] (.rng1 (.b1 .len (.var 2))) [3, 4] [.floop (.nm 4) false [2] (.rng1 (.b1 .len (.var 2))) [4] [.iff (.bo .And [.call "_law_ordered" [.var 0, .var 3, .var 4], .cmp .Lt (.sub (.sub (.var 2) (.var 3)) (.lit (.int 3))) (.sub (.sub (.var 2) (.var 4)) (.lit (.int 3)))]) [.app 1 [] (.es [2, 3, 4] (.tup [.var 3, .var 4, .sub (.sub (.var 2) (.var 3)) (.lit (.int 2)), .sub (.sub (.var 2) (.var 4)) (.lit (.int 2))]))] []]], .ret (.mv 1)]
structure LnkTab (T : Tab) : Prop where
  _law_alike : T.at (.fn "_law_alike") = some (5, 3, y__law_alike)
  _law_ordered : T.at (.fn "_law_ordered") = some (5, 3, y__law_ordered)
  _law_links : T.at (.fn "_law_links") = some (5, 1, y__law_links)
abbrev y__law_better : List IS := [.asg (.nm 2) (.rd (.dk0)), .floop (.nm 3) false [0] (.seq (.var 0)) [3] [.put 2 [] (.var 3) (.rd (.lst []))], .floop (.nm 4) false [0] (.rng1 (.bin .Add (.b1 .len (.var 0)) (.lit (.int 1)))) [3, 4, 5, 6, 7, 8] [.floop (.tp [.nm 5, .nm 6, .nm 7, .nm 8]) false [1] (.seq (.var 1)) [3, 5, 6, 7, 8] [.floop (.nm 3) true [] (.seq (.bin .Add (.lst [.var 8]) (.sub (.var 2) (.var 8)))) [3] [.iff (.cmp .NotIn (.var 3) (.sub (.var 2) (.var 7))) [.put 2 [] (.var 7) (.rd (.bin .Add (.sub (.var 2) (.var 7)) (.lst [.var 3])))] []]]], .ret (.mv 2)]
structure BetTab (T : Tab) : Prop where
  _law_better : T.at (.fn "_law_better") = some (9, 2, y__law_better)
end Rb
/-! The drawn log as a tree; what its methods say. -/
namespace Rb
open PySem
open PySem.Spec
open L2
abbrev Evt := EvG Str
abbrev Lg := LgG Str
def evT : Evt → T
  | .rst j => .nd .tup false [.str "reset", .str j]
  | .ans j i g => .nd .tup false [.str "answer", .str j, .str i, .int g]
def jT (p : Str × Str) : T := .nd .tup false [.str p.1, .str p.2]
def lgT (L : Lg) : T := .nd (.obj "Log" ["_items", "_grades", "_judges", "_events"]) false [.nd .lst false (L.items.map .str), .int L.gr, .nd .lst false (L.js.map jT), .nd .lst false (L.es.map evT)]
section
variable {α β : Type} {a : α} {f : α → R β} {x : Exn}
@[simp] theorem bind_ok : ((R.ok a) >>= f) = f a := rfl
@[simp] theorem bind_err : ((R.err x : R α) >>= f) = R.err x := rfl
@[simp] theorem bind_bad : ((R.bad : R α) >>= f) = R.bad := rfl
end
@[simp] theorem cmp_le (i j : Int) : cmpT .LtE (.int i) (.int j) = .ok (.bl (decide (i ≤ j))) := rfl
@[simp] theorem cmp_lt (i j : Int) : cmpT .Lt (.int i) (.int j) = .ok (.bl (decide (i < j))) := rfl
@[simp] theorem cmp_gt (i j : Int) : cmpT .Gt (.int i) (.int j) = .ok (.bl (decide (j < i))) := rfl
@[simp] theorem cmp_ge (i j : Int) : cmpT .GtE (.int i) (.int j) = .ok (.bl (decide (j ≤ i))) := rfl
@[simp] theorem eqr_s (i j : Str) : eqR (.str i) (.str j) = .ok (i == j) := by simp [eqR, eqok, dpth, eqT]
@[simp] theorem eqr_i (i j : Int) : eqR (.int i) (.int j) = .ok (i == j) := by simp [eqR, eqok, dpth, eqT]
@[simp] theorem eqr_b (i j : Bool) : eqR (.bl i) (.bl j) = .ok (i == j) := by simp [eqR, eqok, dpth, eqT]
@[simp] theorem cmp_eq (a b : T) : cmpT .Eq a b = (eqR a b >>= fun k => .ok (.bl k)) := by unfold cmpT; rfl
@[simp] theorem cmp_ne (a b : T) : cmpT .NotEq a b = (eqR a b >>= fun k => .ok (.bl (!k))) := by unfold cmpT; rfl
@[simp] theorem cmp_in (a b : T) : cmpT .In a b = (inR a b >>= fun k => .ok (.bl k)) := by unfold cmpT; rfl
@[simp] theorem cmp_nin (a b : T) : cmpT .NotIn a b = (inR a b >>= fun k => .ok (.bl (!k))) := by unfold cmpT; rfl
@[simp] theorem len_lst (o : Bool) (xs : List T) : b1T .len (.nd .lst o xs) = .ok (.int xs.length) := rfl
@[simp] theorem len_tup (o : Bool) (xs : List T) : b1T .len (.nd .tup o xs) = .ok (.int xs.length) := rfl
@[simp] theorem list_lst (o : Bool) (xs : List T) : b1T .list (.nd .lst o xs) = .ok (.nd .lst true (strips xs)) := rfl
@[simp] theorem truth_bl (b : Bool) : truth (.bl b) = .ok b := rfl
@[simp] theorem bin_add (i j : Int) : binT .Add (.int i) (.int j) = .ok (.int (i + j)) := rfl
@[simp] theorem bin_sub (i j : Int) : binT .Sub (.int i) (.int j) = .ok (.int (i - j)) := rfl
@[simp] theorem chi_lst (o : Bool) (xs : List T) : childs (.nd .lst o xs) = .ok xs := rfl
theorem ix_lst (o : Bool) (xs : List T) (i : Int) {t : T} (h : atI xs i = some t) : ixT (.nd .lst o xs) (.int i) = .ok (strip t) := by simp only [ixT, h]
theorem ix_tup (o : Bool) (xs : List T) (i : Int) {t : T} (h : atI xs i = some t) : ixT (.nd .tup o xs) (.int i) = .ok (strip t) := by simp only [ixT, h]
theorem ix_nat (o : Bool) {xs : List T} {p : Nat} {t : T} (h : xs[p]? = some t) : ixT (.nd .lst o xs) (.int (p : Int)) = .ok (strip t) := ix_lst o xs p (atI_nat h)
theorem strips_strs : ∀ es : List Str, strips (es.map T.str) = es.map T.str
  | [] => rfl
  | e :: es => by simp [strips, strip, strips_strs es]
theorem strips_nT : ∀ es : List Nat, strips (es.map nT) = es.map nT
  | [] => rfl
  | e :: es => by simp [strips, strip, nT, strips_nT es]
theorem strip_evT (e : Evt) : strip (evT e) = evT e := by cases e <;> simp [strip, strips, evT]
theorem strip_jT (e : Str × Str) : strip (jT e) = jT e := by simp [strip, strips, jT]
theorem strips_evs : ∀ es : List Evt, strips (es.map evT) = es.map evT
  | [] => rfl
  | e :: es => by simp [strips, strip_evT, strips_evs es]
theorem strips_js : ∀ es : List (Str × Str), strips (es.map jT) = es.map jT
  | [] => rfl
  | e :: es => by simp [strips, strip_jT, strips_js es]
@[simp] theorem strip_lg (L : Lg) : strip (lgT L) = lgT L := by simp [lgT, strip, strips, strips_strs, strips_js, strips_evs]
@[simp] theorem strip_nT (p : Nat) : strip (nT p) = nT p := rfl
@[simp] theorem strip_str (p : Str) : strip (.str p) = .str p := rfl
@[simp] theorem strip_int (p : Int) : strip (.int p) = .int p := rfl
@[simp] theorem strip_bl (p : Bool) : strip (.bl p) = .bl p := rfl
@[simp] theorem own_bl (p : Bool) : own (.bl p) = true := rfl
@[simp] theorem own_int (p : Int) : own (.int p) = true := rfl
@[simp] theorem own_str (p : Str) : own (.str p) = true := rfl
section
variable {T : Tab} (h : LogTab T) (L : Lg) (k : Nat)
include h
theorem att_items : attT (mkC T k) "_items" (lgT L) = .ok (.nd .lst false (L.items.map .str)) := by
  simp [lgT, attT, getK, fld_of h.f_items, strip, strips_strs]
theorem att_grades : attT (mkC T k) "_grades" (lgT L) = .ok (.int L.gr) := by
  simp [lgT, attT, getK, fld_of h.f_grades, strip]
theorem att_judges : attT (mkC T k) "_judges" (lgT L) = .ok (.nd .lst false (L.js.map jT)) := by
  simp [lgT, attT, getK, fld_of h.f_judges, strip, strips_js]
theorem att_evs : attT (mkC T k) "_events" (lgT L) = .ok (.nd .lst false (L.es.map evT)) := by
  simp [lgT, attT, getK, fld_of h.f_events, strip, strips_evs]
theorem att_judg : attT (mkC T (k + 1)) "judges" (lgT L) = .ok (.nd .lst true (L.js.map jT)) := by
  have e : (mkC T (k + 1)).pr "Log" "judges" (lgT L) = .ok (.nd .lst true (L.js.map jT)) := by
    rw [pr_of h.Log_judges]
    refine call_rt (env := [some (lgT L)]) rfl (by simp [env0, strips]) (z_ret_es ?_)
    show ev _ [some (lgT L)] _ = _
    simp [ev, getS, att_judges h, strips_js]
  have e2 : attT (mkC T (k + 1)) "judges" (lgT L) = ((mkC T (k + 1)).pr "Log" "judges" (strip (lgT L))).calm := by
    simp [lgT, attT, getK, strip]
  rw [e2, strip_lg, e]; rfl
theorem cls_lg {m : String} {x : Nat × Nat × List IS} (hm : T.at (.me "Log" m) = some x) (hn : (["_items", "_grades", "_judges", "_events"] : List String).contains m = false) : clsT (mkC T k) m (lgT L) = .ok "Log" := by
  simp only [clsT, lgT, hm_of hm, hn]
  rfl
/-- a call of a method of the log, from an expression -/
theorem ev_mth {m : String} {x : Nat × Nat × List IS} (hm : T.at (.me "Log" m) = some x) (hn : (["_items", "_grades", "_judges", "_events"] : List String).contains m = false) {env : Env} {e : IE} {es : List IE} {ts : List Rb.T} (he : ev (mkC T k) env e = .ok (lgT L)) (hs : evs (mkC T k) env es = .ok ts) :
    ev (mkC T k) env (.mth e m es) = (mkC T k).me "Log" m (lgT L :: strips ts) := by
  simp only [ev, he, bind_ok, cls_lg h L k hm hn, hs, strip_lg]
def isAtI (es : List Evt) (p : Int) : Bool := decide (0 ≤ p) && isAt es p.toNat
omit h in
theorem isAtI_nat (es : List Evt) (p : Nat) : isAtI es (p : Int) = isAt es p := by simp [isAtI]
omit h in
theorem ix_ev (o : Bool) {es : List Evt} {p : Nat} {e : Evt} (h : es[p]? = some e) : ixT (.nd .lst o (es.map evT)) (nT p) = .ok (evT e) := by
  have := ix_nat o (xs := es.map evT) (p := p) (t := evT e) (by rw [List.getElem?_map, h]; rfl)
  rw [strip_evT] at this
  exact this
omit h in
@[simp] theorem ev_kind (e : Evt) : ixT (evT e) (.int 0) = .ok (.str (if isA e then "answer" else "reset")) := by cases e <;> simp [evT, ixT, atI, ixN, isA]
omit h in
@[simp] theorem ev_judge (e : Evt) : ixT (evT e) (.int 1) = .ok (.str (judE e)) := by cases e <;> simp [evT, ixT, atI, ixN, judE]
theorem is_answer_ok (p : Int) : (mkC T (k + 1)).me "Log" "is_answer" [lgT L, .int p] = .ok (.bl (isAtI L.es p)) := by
  rw [me_of h.Log_is_answer]
  refine call_rt (env := [some (lgT L), some (.int p)]) rfl (by simp [env0, strips]) (z_ret_rd ?_ rfl)
  by_cases h0 : 0 ≤ p
  · obtain ⟨n, rfl⟩ := Int.eq_ofNat_of_zero_le h0
    by_cases h1 : n < L.es.length
    · obtain ⟨e, he⟩ : ∃ e, L.es[n]? = some e := ⟨_, List.getElem?_eq_getElem h1⟩
      have hx := ix_ev false he
      unfold nT at hx
      simp [ev, evb, getS, att_evs h, h1, hx, boPick, keyO, isAtI, isAt, he]
      have he2 : L.es[n] = e := by simpa [List.getElem?_eq_getElem h1] using he
      rw [he2]
      cases isA e <;> rfl
    · simp [ev, evb, getS, att_evs h, h1, boPick, keyO, isAtI, isAt, List.getElem?_eq_none (Nat.le_of_not_lt h1)]
  · simp [ev, evb, getS, att_evs h, h0, boPick, keyO, isAtI]
end
theorem att_names {T : Tab} (h : LogTab T) (hn : NamTab T) (L : Lg) (k : Nat) : attT (mkC T (k + 1)) "item_names" (lgT L) = .ok (.nd .lst true (L.items.map .str)) := by
  have e : (mkC T (k + 1)).pr "Log" "item_names" (lgT L) = .ok (.nd .lst true (L.items.map .str)) := by
    rw [pr_of hn.Log_item_names]
    refine call_rt (env := [some (lgT L)]) rfl (by simp [env0, strips]) (z_ret_es ?_)
    show ev _ [some (lgT L)] _ = _
    simp [ev, getS, att_items h, strips_strs]
  have e2 : attT (mkC T (k + 1)) "item_names" (lgT L) = ((mkC T (k + 1)).pr "Log" "item_names" (strip (lgT L))).calm := by
    simp [lgT, attT, getK, strip]
  rw [e2, strip_lg, e]; rfl
end Rb
namespace Rb
open PySem
open PySem.Spec
open L2
theorem forGo_fnd {α : Type} {p : Pat} {kl : List Nat} {b : Env → SR} {f : α → T} {E : Env} {P : α → Bool} {g : α → T} : ∀ {ys : List α}, (∀ y ∈ ys, ∃ e1, asgP p (strip (f y)) E = some e1 ∧ (P y = true → b e1 = .rt (g y)) ∧ (P y = false → ∃ e2, b e1 = .nx e2 ∧ kill kl e2 = E)) → forGo p kl b (ys.map f) E = match ys.find? P with
    | some y => .rt (g y)
    | none => .nx E
  | [], _ => rfl
  | y :: ys, h => by
    obtain ⟨e1, h1, h2, h3⟩ := h y List.mem_cons_self
    rw [List.map_cons, forGo, h1, List.find?_cons]
    cases q : P y with
    | true => simp only [h2 q]
    | false =>
      obtain ⟨e2, h4, h5⟩ := h3 q
      simp only [h4, h5]
      exact forGo_fnd (P := P) fun z m => h z (List.mem_cons_of_mem _ m)
theorem beq_dec (a b : Str) : (a == b) = decide (a = b) := by rw [Bool.eq_iff_iff]; simp
theorem intsT_ints : ∀ xs : List Int, intsT (xs.map T.int) = some xs
  | [] => rfl
  | x :: xs => by rw [List.map_cons, intsT, intsT_ints xs]; rfl
theorem intsT_nT (xs : List Nat) : intsT (xs.map nT) = some (xs.map fun (n : Nat) => (n : Int)) := by
  have := intsT_ints (xs.map fun (n : Nat) => (n : Int))
  rw [List.map_map] at this
  exact this
theorem eqT_nT (p q : Nat) : eqT (nT p) (nT q) = decide (p = q) := by
  simp only [nT, eqT]
  by_cases h : p = q
  · subst h; simp
  · have : ¬ (p : Int) = q := by omega
    simp [h, this]
theorem eqok_nT (k p : Nat) : eqok k (nT p) = true := by cases k <;> rfl
theorem eqok_str (k : Nat) (p : Str) : eqok k (.str p) = true := by cases k <;> rfl
theorem eqok_int (k : Nat) (p : Int) : eqok k (.int p) = true := by cases k <;> rfl
theorem inR_nT (o : Bool) (p : Nat) (s : List Nat) : inR (nT p) (.nd .lst o (s.map nT)) = .ok (decide (p ∈ s)) := by
  unfold inR
  have h1 : (s.map nT).all (eqok dpth) = true := by simp [List.all_map, Function.comp_def, eqok_nT]
  simp only [eqok_nT, h1, Bool.and_self, if_true, List.any_map, Function.comp_def, eqT_nT]
  congr 1
  rw [Bool.eq_iff_iff]
  simp only [List.any_eq_true, decide_eq_true_eq]
  exact ⟨fun ⟨_, m, e⟩ => e ▸ m, fun m => ⟨p, m, rfl⟩⟩
theorem inR_str (o : Bool) (p : Str) (s : List Str) : inR (.str p) (.nd .lst o (s.map .str)) = .ok (decide (p ∈ s)) := by
  unfold inR
  have h1 : (s.map T.str).all (eqok dpth) = true := by simp [List.all_map, Function.comp_def, eqok_str]
  simp only [eqok_str, h1, Bool.and_self, if_true, List.any_map, Function.comp_def, eqT]
  congr 1
  rw [Bool.eq_iff_iff]
  simp only [List.any_eq_true, decide_eq_true_eq, beq_iff_eq]
  exact ⟨fun ⟨_, m, e⟩ => e ▸ m, fun m => ⟨p, m, rfl⟩⟩
theorem eqT_strs : ∀ (xs ys : List Str), eqTs (xs.map T.str) (ys.map T.str) = decide (xs = ys)
  | [], [] => by simp [eqTs]
  | [], y :: ys => by simp [eqTs]
  | x :: xs, [] => by simp [eqTs]
  | x :: xs, y :: ys => by
    rw [List.map_cons, List.map_cons, eqTs, eqT_strs xs ys, eqT]
    by_cases h : x = y
    · subst h; simp
    · simp [h]
/-- an event is the reset of a judge -/
theorem eqR_rst (o : Bool) (e : Evt) (j : Str) : eqR (evT e) (.nd .tup o [.str "reset", .str j]) = .ok (decide (e = .rst j)) := by
  cases e with
  | rst i =>
    simp only [eqR, evT, eqok, dpth, eqT, eqTs, List.all_cons, List.all_nil, Bool.and_self, Bool.and_true, if_true]
    by_cases h : i = j
    · subst h; simp
    · simp [h]
  | ans a b c =>
    simp only [eqR, evT, eqok, dpth, eqT, eqTs, List.all_cons, List.all_nil, Bool.and_self, Bool.and_true, if_true]
    simp
theorem mkTup2 (a b : T) (h : flat a = true ∧ flat b = true) : mkTup [a, b] = .nd .tup false [a, b] := by simp [mkTup, flats, h]
theorem zip_range {α : Type} (d : α) (xs : List α) : xs.zipIdx = (List.range xs.length).map fun i => ((xs[i]?).getD d, i) := by
  refine List.ext_getElem (by simp) fun i h1 h2 => ?_
  simp at h1
  simp [List.getElem?_eq_getElem h1]
def drfO (L : Lg) (j : Str) : Option Str := (L.js.find? fun p => decide (p.1 = j)).map (·.2)
section
variable {T : Tab} (h : LogTab T) (L : Lg) (k : Nat)
include h
theorem drift_of_ok {j d : Str} (hd : drfO L j = some d) : (mkC T (k + 1)).me "Log" "drift_of" [lgT L, .str j] = .ok (.str d) := by
  rw [me_of h.Log_drift_of]
  refine call_rt (env := [some (lgT L), some (.str j), none, none]) rfl (by simp [env0, strips]) ?_
  have hi : evF (mkC T k) [some (lgT L), some (.str j), none, none] false [0] (.seq (.att (.var 0) "_judges")) = .ok (L.js.map jT) [some (lgT L), some (.str j), none, none] := by
    have := evF_seq (C := mkC T k) (env := [some (lgT L), some (.str j), none, none]) (fv := [0]) (e := .att (.var 0) "_judges") (xs := L.js.map jT) (t := .nd .lst false (L.js.map jT)) (by
      show ev _ [some (lgT L), none, none, none] _ = _
      simp [ev, getS, att_judges h]) rfl
    rw [this]
    simp [frS, frSg]
  rw [execs, exec, hi]
  simp only [LR.go]
  rw [forGo_fnd (P := fun p : Str × Str => decide (p.1 = j)) (g := fun p => .str p.2)]
  · unfold drfO at hd
    cases q : L.js.find? fun p => decide (p.1 = j) with
    | none => rw [q] at hd; cases hd
    | some y => rw [q] at hd; cases hd; rfl
  · rintro ⟨a, b⟩ _
    refine ⟨[some (lgT L), some (.str j), some (.str a), some (.str b)], by simp [jT, strip, strips, asgP, asgPs], fun q => ?_, fun q => ?_⟩
    · refine z_if_rt ?_ (z_ret_mv (by simp [getS]))
      simp [ev, getS, beq_dec, q]
    · refine ⟨[some (lgT L), some (.str j), some (.str a), some (.str b)], z_if_f ?_ z_nil, by simp [kill]⟩
      simp [ev, getS]
      simpa using q
theorem answers_ok (hz : L.es.length ≤ 1000) : (mkC T (k + 2)).me "Log" "answers" [lgT L] = .ok (.nd .lst true ((ansN L.es).map nT)) := by
  rw [me_of h.Log_answers]
  refine call_rt (env := [some (lgT L), none]) rfl (by simp [env0, strips]) (z_ret_es ?_)
  show ev _ [some (lgT L), none] _ = _
  refine ev_lc (ys := List.range L.es.length) (f := nT) (isAt L.es) nT (evi_rng (by simp [ev, getS, att_evs h]) (by omega)) (by simp; omega) fun p _ => ?_
  refine ⟨[some (lgT L), some (nT p)], rfl, ?_, fun _ => by simp [ev, getS]⟩
  have e := ev_mth h L (k + 1) h.Log_is_answer rfl (env := [some (lgT L), some (nT p)]) (e := .var 0) (es := [.var 1]) (ts := [nT p]) (by simp [ev, getS]) (by simp [ev, evs, getS])
  have e2 := is_answer_ok h L k (p : Int)
  rw [isAtI_nat] at e2
  simp only [evc, e, strips, strip_nT]
  show ((mkC T (k + 1)).me "Log" "is_answer" [lgT L, .int p] >>= _) = _
  rw [e2]
  rfl
theorem answers_of_ok (hz : L.es.length ≤ 1000) {j d : Str} (hd : drfO L j = some d) : (mkC T (k + 3)).me "Log" "answers_of" [lgT L, .str j] = .ok (.nd .lst true ((ansOf L.es j).map nT)) := by
  rw [me_of h.Log_answers_of]
  have e0 := ev_mth h L (k + 2) h.Log_drift_of rfl (env := [some (lgT L), some (.str j), none]) (e := .var 0) (es := [.var 1]) (ts := [.str j]) (by simp [ev, getS]) (by simp [ev, evs, getS])
  have e1 := ev_mth h L (k + 2) h.Log_answers rfl (env := [some (lgT L), some (.str j), none]) (e := .var 0) (es := []) (ts := []) (by simp [ev, getS]) (by simp [ev, evs, getS])
  refine call_rt (env := [some (lgT L), some (.str j), none]) rfl (by simp [env0, strips]) (z_exp (t := .str d) (by rw [e0]; exact drift_of_ok h L (k + 1) hd) (z_ret_es ?_))
  show ev _ [some (lgT L), some (.str j), none] _ = _
  refine ev_lc (ys := ansN L.es) (f := nT) (judB L.es j) nT (evi_seq (by rw [e1]; exact answers_ok h L k hz) rfl) (by
    have := List.length_filter_le (isAt L.es) (List.range L.es.length)
    simp at this
    unfold ansN
    omega) fun p hp => ?_
  refine ⟨[some (lgT L), some (.str j), some (nT p)], rfl, ?_, fun _ => by simp [ev, getS]⟩
  have hp2 := mem_ansN.mp hp
  unfold isAt at hp2
  cases q : L.es[p]? with
  | none => rw [q] at hp2; cases hp2
  | some e =>
    simp [evc, ev, getS, att_evs h, ix_ev false q, judB, q, beq_dec]
/-- the answer at a place -/
theorem answer_at_ok {p : Nat} {e : Evt} (he : L.es[p]? = some e) (ha : isA e = true) : (mkC T (k + 2)).me "Log" "answer_at" [lgT L, nT p] = .ok (evT e) := by
  rw [me_of h.Log_answer_at]
  have e0 := ev_mth h L (k + 1) h.Log_is_answer rfl (env := [some (lgT L), some (nT p)]) (e := .var 0) (es := [.var 1]) (ts := [nT p]) (by simp [ev, getS]) (by simp [ev, evs, getS])
  have e2 := is_answer_ok h L k (p : Int)
  rw [isAtI_nat] at e2
  have e3 : isAt L.es p = true := by simp [isAt, he, ha]
  rw [e3] at e2
  have e4 : ev (mkC T (k + 1)) [some (lgT L), some (nT p)] (.mth (.var 0) "is_answer" [.var 1]) = .ok (.bl true) := by
    rw [e0]; exact e2
  refine call_rt (env := [some (lgT L), some (nT p)]) rfl (by simp [env0, strips]) (z_if_f (by rw [ev, e4]; rfl) (z_ret_es ?_))
  show ev _ [some (lgT L), some (nT p)] _ = _
  simp [ev, getS, att_evs h, ix_ev false he]
theorem judge_at_ok {p : Nat} {j i : Str} {g : Int} (he : L.es[p]? = some (.ans j i g)) : (mkC T (k + 3)).me "Log" "judge_at" [lgT L, nT p] = .ok (.str j) := by
  rw [me_of h.Log_judge_at]
  have e0 := ev_mth h L (k + 2) h.Log_answer_at rfl (env := [some (lgT L), some (nT p)]) (e := .var 0) (es := [.var 1]) (ts := [nT p]) (by simp [ev, getS]) (by simp [ev, evs, getS])
  refine call_rt (env := [some (lgT L), some (nT p)]) rfl (by simp [env0, strips]) (z_ret_es ?_)
  show ev _ [some (lgT L), some (nT p)] _ = _
  rw [ev, e0]
  simp only [strips, strip_nT, answer_at_ok h L k he rfl]
  rfl
theorem item_at_ok {p : Nat} {j i : Str} {g : Int} (he : L.es[p]? = some (.ans j i g)) : (mkC T (k + 3)).me "Log" "item_at" [lgT L, nT p] = .ok (.str i) := by
  rw [me_of h.Log_item_at]
  have e0 := ev_mth h L (k + 2) h.Log_answer_at rfl (env := [some (lgT L), some (nT p)]) (e := .var 0) (es := [.var 1]) (ts := [nT p]) (by simp [ev, getS]) (by simp [ev, evs, getS])
  refine call_rt (env := [some (lgT L), some (nT p)]) rfl (by simp [env0, strips]) (z_ret_es ?_)
  show ev _ [some (lgT L), some (nT p)] _ = _
  rw [ev, e0]
  simp only [strips, strip_nT, answer_at_ok h L k he rfl]
  rfl
theorem grade_at_ok {p : Nat} {j i : Str} {g : Int} (he : L.es[p]? = some (.ans j i g)) : (mkC T (k + 3)).me "Log" "grade_at" [lgT L, nT p] = .ok (.int g) := by
  rw [me_of h.Log_grade_at]
  have e0 := ev_mth h L (k + 2) h.Log_answer_at rfl (env := [some (lgT L), some (nT p)]) (e := .var 0) (es := [.var 1]) (ts := [nT p]) (by simp [ev, getS]) (by simp [ev, evs, getS])
  refine call_rt (env := [some (lgT L), some (nT p)]) rfl (by simp [env0, strips]) (z_ret_es ?_)
  show ev _ [some (lgT L), some (nT p)] _ = _
  rw [ev, e0]
  simp only [strips, strip_nT, answer_at_ok h L k he rfl]
  rfl
end
end Rb
namespace Rb
open PySem
open PySem.Spec
open L2
theorem foldl_max (i : Int) : ∀ (xs : List Int) (m : Int), (xs.foldl (fun m y => if m < y then y else m) m ≤ i) ↔ m ≤ i ∧ ∀ x ∈ xs, x ≤ i
  | [], m => by simp
  | x :: xs, m => by
    rw [List.foldl_cons, foldl_max i xs]
    simp only [List.mem_cons, forall_eq_or_imp]
    split
    · exact ⟨fun ⟨a, b⟩ => ⟨by omega, a, b⟩, fun ⟨a, b, c⟩ => ⟨b, c⟩⟩
    · exact ⟨fun ⟨a, b⟩ => ⟨a, by omega, b⟩, fun ⟨a, b, c⟩ => ⟨a, c⟩⟩
theorem foldl_min (i : Int) : ∀ (xs : List Int) (m : Int), (i < xs.foldl (fun m y => if y < m then y else m) m) ↔ i < m ∧ ∀ x ∈ xs, i < x
  | [], m => by simp
  | x :: xs, m => by
    rw [List.foldl_cons, foldl_min i xs]
    simp only [List.mem_cons, forall_eq_or_imp]
    split
    · exact ⟨fun ⟨a, b⟩ => ⟨by omega, a, b⟩, fun ⟨a, b, c⟩ => ⟨b, c⟩⟩
    · exact ⟨fun ⟨a, b⟩ => ⟨a, by omega, b⟩, fun ⟨a, b, c⟩ => ⟨a, c⟩⟩
theorem mx_le {xs : List Int} {q : Int} (hq : 0 ≤ q) : mxI true xs 0 ≤ q ↔ ∀ x ∈ xs, x ≤ q := by
  cases xs with
  | nil => simp [mxI, hq]
  | cons x xs => simp [mxI, maxI, foldl_max]
theorem mn_lt {xs : List Int} {q n : Int} (hq : q < n) : q < mxI false xs n ↔ ∀ x ∈ xs, q < x := by
  cases xs with
  | nil => simp [mxI, hq]
  | cons x xs => simp [mxI, minI, foldl_min]
theorem sz0 : 0 ≤ sizeLine := Nat.zero_le _
theorem sz1 : 1 ≤ sizeLine := by rw [sizeLine_eq]; decide
theorem sz2 : 2 ≤ sizeLine := by rw [sizeLine_eq]; decide
theorem sz3 : 3 ≤ sizeLine := by rw [sizeLine_eq]; decide
theorem sz4 : 4 ≤ sizeLine := by rw [sizeLine_eq]; decide
def loI (es : List Evt) (j : Str) (p : Nat) : Int := mxI true (((rsts es j).filter fun r => decide (r < p)).map fun (r : Nat) => (r : Int) + 1) 0
def hiI (es : List Evt) (j : Str) (p : Nat) : Int := mxI false (((rsts es j).filter fun r => decide (p ≤ r)).map fun (r : Nat) => (r : Int)) es.length
theorem span_strP {es : List Evt} {j : Str} {p q : Nat} (hq : q < es.length) : (decide (loI es j p ≤ (q : Int)) && decide ((q : Int) < hiI es j p)) = strP es j p q := by
  rw [Bool.eq_iff_iff, Bool.and_eq_true, decide_eq_true_eq, decide_eq_true_eq]
  unfold loI hiI
  rw [mx_le (by omega), mn_lt (by omega)]
  unfold strP
  simp only [List.mem_map, List.mem_filter, decide_eq_true_eq, List.all_eq_true, forall_exists_index, and_imp]
  constructor
  · intro ⟨a, b⟩ r hr
    split
    · rename_i z
      have := a _ r hr z rfl
      simp only [decide_eq_true_eq]; omega
    · rename_i z
      have := b _ r hr (by omega) rfl
      simp only [decide_eq_true_eq]; omega
  · intro a
    refine ⟨fun x r hr z e => ?_, fun x r hr z e => ?_⟩
    · have := a r hr
      rw [if_pos z, decide_eq_true_eq] at this
      omega
    · have := a r hr
      rw [if_neg (by omega), decide_eq_true_eq] at this
      omega
theorem enm_evs (o : Bool) (es : List Evt) : enmT (.nd .lst o (es.map evT)) = .ok ((List.range es.length).map fun i => .nd .tup false [nT i, evT ((es[i]?).getD (.rst ""))]) := by
  rw [enmT]
  congr 1
  rw [List.zipIdx_map, List.map_map, zip_range (.rst "") es, List.map_map]
  refine List.map_congr_left fun i _ => ?_
  simp only [Function.comp_def, Prod.map]
  rw [mkTup2, strip_evT]
  · rfl
  · refine ⟨rfl, ?_⟩
    rw [strip_evT]
    cases (es[i]?).getD (.rst "") <;> simp [evT, flat, flats]
section
variable {T : Tab} (h : LogTab T) (L : Lg) (k : Nat)
include h
theorem span_ok (hz : L.es.length ≤ 1000) (j : Str) (p : Nat) : (mkC T (k + 1)).me "Log" "span_at" [lgT L, .str j, nT p] = .ok (.nd .tup false [.int (loI L.es j p), .int (hiI L.es j p)]) := by
  rw [me_of h.Log_span_at]
  have hr : (rsts L.es j).length ≤ 1000 := by
    have := List.length_filter_le (rstB L.es j) (List.range L.es.length)
    simp at this
    unfold rsts
    omega
  refine call_rt (env := [some (lgT L), some (.str j), some (nT p), none, none, none, none]) rfl (by simp [env0, strips]) (z_asg_es (t := .nd .lst true ((rsts L.es j).map nT)) (env' := [some (lgT L), some (.str j), some (nT p), some (.nd .lst true ((rsts L.es j).map nT)), none, none, none]) ?_ (by simp [asgT, frS, frSg]) ?_)
  · show ev _ [some (lgT L), some (.str j), none, none, none, none, none] _ = _
    refine ev_lc (ys := List.range L.es.length) (f := fun i => .nd .tup false [nT i, evT ((L.es[i]?).getD (.rst ""))]) (rstB L.es j) nT ?_ (by simp; omega) fun i hi => ?_
    · rw [evi]
      simp only [ev, getS, List.getElem?_cons_zero, optR_some, strip_lg, bind_ok, att_evs h, enm_evs]
    · refine ⟨[some (lgT L), some (.str j), none, none, none, some (nT i), some (evT ((L.es[i]?).getD (.rst "")))], rfl, ?_, fun _ => by simp [ev, getS]⟩
      obtain ⟨e, he⟩ : ∃ e, L.es[i]? = some e := ⟨_, List.getElem?_eq_getElem (List.mem_range.mp hi)⟩
      simp [evc, ev, evs, getS, sz2, mkTup2, flat, strip_evT, keyO, rstB, he, eqR_rst]
  · refine z_asg_rd (t := .int (loI L.es j p)) (env' := [some (lgT L), some (.str j), some (nT p), some (.nd .lst true ((rsts L.es j).map nT)), some (.int (loI L.es j p)), none, none]) ?_ rfl (by simp [asgT]) ?_
    · have e1 : ev (mkC T k) [some (lgT L), some (.str j), some (nT p), some (.nd .lst true ((rsts L.es j).map nT)), none, none, none] (.lc (.bin .Add (.var 5) (.lit (.int 1))) (.nm 5) (.seq (.var 3)) [.cmp .Lt (.var 5) (.var 2)]) = .ok (.nd .lst true (((rsts L.es j).filter fun r => decide (r < p)).map fun (r : Nat) => .int ((r : Int) + 1))) := by
        refine ev_lc (ys := rsts L.es j) (f := nT) (fun r => decide (r < p)) (fun (r : Nat) => .int ((r : Int) + 1)) (evi_seq (t := .nd .lst false ((rsts L.es j).map nT)) (by simp [ev, getS, strip, strips_nT]) rfl) (by omega) fun r _ => ?_
        refine ⟨[some (lgT L), some (.str j), some (nT p), some (.nd .lst true ((rsts L.es j).map nT)), none, some (nT r), none], rfl, ?_, fun _ => by simp [ev, getS, nT]⟩
        simp [evc, ev, getS, nT]
      have e2 : intsT (((rsts L.es j).filter fun r => decide (r < p)).map fun (r : Nat) => Rb.T.int ((r : Int) + 1)) = some (((rsts L.es j).filter fun r => decide (r < p)).map fun (r : Nat) => (r : Int) + 1) := by
        have := intsT_ints (((rsts L.es j).filter fun r => decide (r < p)).map fun (r : Nat) => (r : Int) + 1)
        rw [List.map_map] at this
        exact this
      rw [ev, e1]
      simp only [bind_ok, ev, mxdT, e2, optR_some]
      rfl
    · refine z_ret_es ?_
      show ev _ [some (lgT L), none, some (nT p), some (.nd .lst true ((rsts L.es j).map nT)), some (.int (loI L.es j p)), none, none] _ = _
      have e1 : ev (mkC T k) [some (lgT L), none, some (nT p), some (.nd .lst true ((rsts L.es j).map nT)), some (.int (loI L.es j p)), none, none] (.lc (.var 5) (.nm 5) (.seq (.var 3)) [.cmp .GtE (.var 5) (.var 2)]) = .ok (.nd .lst true (((rsts L.es j).filter fun r => decide (p ≤ r)).map nT)) := by
        refine ev_lc (ys := rsts L.es j) (f := nT) (fun r => decide (p ≤ r)) nT (evi_seq (t := .nd .lst false ((rsts L.es j).map nT)) (by simp [ev, getS, strip, strips_nT]) rfl) (by omega) fun r _ => ?_
        refine ⟨[some (lgT L), none, some (nT p), some (.nd .lst true ((rsts L.es j).map nT)), some (.int (loI L.es j p)), some (nT r), none], rfl, ?_, fun _ => by simp [ev, getS, nT]⟩
        simp [evc, ev, getS, nT]
      have e3 : ev (mkC T k) [some (lgT L), none, some (nT p), some (.nd .lst true ((rsts L.es j).map nT)), some (.int (loI L.es j p)), none, none] (.b1 .len (.att (.var 0) "_events")) = .ok (.int L.es.length) := by simp [ev, getS, att_evs h]
      have e4 : ev (mkC T k) [some (lgT L), none, some (nT p), some (.nd .lst true ((rsts L.es j).map nT)), some (.int (loI L.es j p)), none, none] (.mxd false (.lc (.var 5) (.nm 5) (.seq (.var 3)) [.cmp .GtE (.var 5) (.var 2)]) (.b1 .len (.att (.var 0) "_events"))) = .ok (.int (hiI L.es j p)) := by
        rw [ev, e1, bind_ok, e3, bind_ok, mxdT, intsT_nT, optR_some]
        rfl
      rw [ev, evs, evs, e4]
      simp [evs, ev, getS, sz2, mkTup2, flat]
theorem stretch_at_ok (hz : L.es.length ≤ 1000) {j d : Str} (hd : drfO L j = some d) {p : Nat} (hp : p ≤ L.es.length) : (mkC T (k + 4)).me "Log" "stretch_at" [lgT L, .str j, nT p] = .ok (.nd .lst true ((strAt L.es j p).map nT)) := by
  rw [me_of h.Log_stretch_at]
  have hr : (ansOf L.es j).length ≤ 1000 := by
    have := List.length_filter_le (judB L.es j) (ansN L.es)
    have := List.length_filter_le (isAt L.es) (List.range L.es.length)
    simp at this
    unfold ansOf ansN at *
    omega
  have e1 := ev_mth h L (k + 3) h.Log_answers_of rfl (env := [some (lgT L), some (.str j), none, none, none, none, none]) (e := .var 0) (es := [.var 1]) (ts := [.str j]) (by simp [ev, getS]) (by simp [ev, evs, getS])
  have e2 := ev_mth h L (k + 3) h.Log_span_at rfl (env := [some (lgT L), some (.str j), some (nT p), none, none, none, none]) (e := .var 0) (es := [.var 1, .var 2]) (ts := [.str j, nT p]) (by simp [ev, getS]) (by simp [ev, evs, getS])
  refine call_rt (env := [some (lgT L), some (.str j), some (nT p), none, none, none, none]) rfl (by simp [env0, strips]) (z_asg_es (t := .nd .lst true ((ansOf L.es j).map nT)) (env' := [some (lgT L), some (.str j), some (nT p), some (.nd .lst true ((ansOf L.es j).map nT)), none, none, none]) ?_ (by simp [asgT, frS, frSg]) (z_if_f ?_ (z_asg_es (t := .nd .tup false [.int (loI L.es j p), .int (hiI L.es j p)]) (env' := [some (lgT L), some (.str j), some (nT p), some (.nd .lst true ((ansOf L.es j).map nT)), some (.int (loI L.es j p)), some (.int (hiI L.es j p)), none]) ?_ ?_ (z_ret_es ?_))))
  · show ev _ [some (lgT L), some (.str j), none, none, none, none, none] _ = _
    rw [e1]; exact answers_of_ok h L k hz hd
  · simp [ev, getS, att_evs h, nT, hp]
  · show ev _ [some (lgT L), some (.str j), some (nT p), none, none, none, none] _ = _
    rw [e2]; exact span_ok h L (k + 2) hz j p
  · simp [asgT, asgP, asgPs, strip, strips, frS, frSg]
  · show ev _ [none, none, none, some (.nd .lst true ((ansOf L.es j).map nT)), some (.int (loI L.es j p)), some (.int (hiI L.es j p)), none] _ = _
    refine ev_lc (ys := ansOf L.es j) (f := nT) (strP L.es j p) nT (evi_seq (t := .nd .lst false ((ansOf L.es j).map nT)) (by simp [ev, getS, strip, strips_nT]) rfl) (by omega) fun q hq => ?_
    refine ⟨[none, none, none, some (.nd .lst true ((ansOf L.es j).map nT)), some (.int (loI L.es j p)), some (.int (hiI L.es j p)), some (nT q)], rfl, ?_, fun _ => by simp [ev, getS]⟩
    obtain ⟨i, g, e⟩ := mem_ansOf.mp hq
    have hql := (List.getElem?_eq_some_iff.mp e).1
    rw [← span_strP hql]
    simp [evc, ev, getS, nT]
    by_cases z : loI L.es j p ≤ (q : Int) <;> simp [z]
theorem stretch_of_ok (hz : L.es.length ≤ 1000) {j d : Str} (hd : drfO L j = some d) {p : Nat} (hp : p ∈ ansOf L.es j) : (mkC T (k + 5)).me "Log" "stretch_of" [lgT L, nT p] = .ok (.nd .lst true ((strAt L.es j p).map nT)) := by
  rw [me_of h.Log_stretch_of]
  obtain ⟨i, g, e⟩ := mem_ansOf.mp hp
  have hpl := (List.getElem?_eq_some_iff.mp e).1
  have e1 := ev_mth h L (k + 4) h.Log_judge_at rfl (env := [some (lgT L), some (nT p)]) (e := .var 0) (es := [.var 1]) (ts := [nT p]) (by simp [ev, getS]) (by simp [ev, evs, getS])
  have e1b : ev (mkC T (k + 4)) [some (lgT L), some (nT p)] (.mth (.var 0) "judge_at" [.var 1]) = .ok (.str j) := by rw [e1]; exact judge_at_ok h L (k + 1) e
  have e2 := ev_mth h L (k + 4) h.Log_stretch_at rfl (env := [some (lgT L), some (nT p)]) (e := .var 0) (es := [.mth (.var 0) "judge_at" [.var 1], .var 1]) (ts := [.str j, nT p]) (by simp [ev, getS]) (by rw [evs, e1b]; simp [ev, evs, getS])
  refine call_rt (env := [some (lgT L), some (nT p)]) rfl (by simp [env0, strips]) (z_ret_es ?_)
  show ev _ [some (lgT L), some (nT p)] _ = _
  rw [e2]; exact stretch_at_ok h L k hz hd (by omega)
end
/-- a list of places -/
def nsT (s : List Nat) : Rb.T := .nd .lst true (s.map nT)
theorem last_ns {fd : List (List Nat)} (hn : fd.length ≠ 0) : ixT (.nd .lst false ((fd.map nsT).map strip)) (.int (-1)) = .ok (.nd .lst false ((fd.getLastD []).map nT)) := by
  have e : ∃ l a, fd = l ++ [a] := ⟨fd.dropLast, fd.getLast (by rintro rfl; exact hn rfl), (List.dropLast_concat_getLast _).symm⟩
  obtain ⟨l, a, rfl⟩ := e
  have e2 : atI (((l ++ [a]).map nsT).map strip) (-1) = some (strip (nsT a)) := by
    unfold atI ixN
    have h1 : ¬ (0 : Int) ≤ -1 := by decide
    have h2 : -((((l ++ [a]).map nsT).map strip).length : Int) ≤ -1 := by simp; omega
    simp only [List.length_map, List.length_append, List.length_singleton] at h2 ⊢
    simp
    have h3 : (-1 + ((l.length : Int) + 1)).toNat = l.length := by omega
    have h4 : (1 : Int) ≤ (l.length : Int) + 1 := by omega
    rw [if_pos h4, h3]
    simp
  rw [ix_lst _ _ _ e2]
  simp [nsT, strip, strips_nT]
section
variable {T : Tab} (h : LogTab T) (L : Lg) (k : Nat)
include h
theorem stretches_ok (hz : L.es.length ≤ 1000) {j d : Str} (hd : drfO L j = some d) : (mkC T (k + 6)).me "Log" "stretches" [lgT L, .str j] = .ok (.nd .lst true ((strAll L.es j).map nsT)) := by
  rw [me_of h.Log_stretches]
  have hr : (ansOf L.es j).length ≤ 1000 := by
    have := List.length_filter_le (judB L.es j) (ansN L.es)
    have := List.length_filter_le (isAt L.es) (List.range L.es.length)
    simp at this
    unfold ansOf ansN at *
    omega
  have e1 := ev_mth h L (k + 5) h.Log_answers_of rfl (env := [some (lgT L), some (.str j), none, none]) (e := .var 0) (es := [.var 1]) (ts := [.str j]) (by simp [ev, getS]) (by simp [ev, evs, getS])
  refine call_rt (env := [some (lgT L), some (.str j), none, none]) rfl (by simp [env0, strips]) (z_asg_rd (t := .nd .lst true []) (env' := [some (lgT L), some (.str j), some (.nd .lst true []), none]) (by simp [ev, evs, sz0]) (by simp [own, owns]) (by simp [asgT]) ?_)
  refine z_forI (α := Nat) (σ := List (List Nat)) (f := nT) (E := fun s => [some (lgT L), some (.str j), some (.nd .lst true (s.map nsT)), none]) (fun l s => s.length + l.length ≤ 1000 ∧ ∀ y ∈ l, y ∈ ansOf L.es j) (strStep L.es j) (ys := ansOf L.es j) (s := []) ?_ ⟨by simpa using hr, fun _ z => z⟩ (fun s y l hI => ?_) fun _ => ?_
  · have := evF_seq (C := mkC T (k + 5)) (env := [some (lgT L), some (.str j), some (.nd .lst true []), none]) (fv := [0, 1]) (e := .mth (.var 0) "answers_of" [.var 1]) (xs := (ansOf L.es j).map nT) (t := .nd .lst true ((ansOf L.es j).map nT)) (by
      show ev _ [some (lgT L), some (.str j), none, none] _ = _
      rw [e1]; exact answers_of_ok h L (k + 2) hz hd) rfl
    rw [this]
    simp [frS, frSg]
  · have hy := hI.2 y List.mem_cons_self
    have hlen : (strStep L.es j s y).length + l.length ≤ 1000 := by
      have := hI.1
      unfold strStep
      simp only [List.length_cons] at this
      split <;> simp <;> omega
    refine ⟨?_, hlen, fun z hz => hI.2 z (List.mem_cons_of_mem _ hz)⟩
    refine ⟨[some (lgT L), some (.str j), some (.nd .lst true (s.map nsT)), some (nT y)], [some (lgT L), some (.str j), some (.nd .lst true ((strStep L.es j s y).map nsT)), some (nT y)], by simp [asgP], .inl ?_, by simp [kill]⟩
    have ec : ev (mkC T (k + 5)) [some (lgT L), some (.str j), some (.nd .lst true (s.map nsT)), some (nT y)] (.bo .Or [.cmp .Eq (.b1 .len (.var 2)) (.lit (.int 0)), .cmp .NotIn (.var 3) (.sub (.var 2) (.neg (.lit (.int 1))))]) = .ok (.bl (decide (s.length = 0 ∨ y ∉ s.getLastD []))) := by
      by_cases z : s.length = 0
      · simp [ev, evb, getS, strip, z, boPick, strips_map]
      · have := last_ns z
        simp [ev, evb, getS, strip, z, boPick, negT, strips_map] at this ⊢
        simp [this, inR_nT]
    by_cases z : s.length = 0 ∨ y ∉ s.getLastD []
    · rw [decide_eq_true z] at ec
      have e2 := ev_mth h L (k + 5) h.Log_stretch_of rfl (env := [some (lgT L), none, none, some (nT y)]) (e := .var 0) (es := [.var 3]) (ts := [nT y]) (by simp [ev, getS]) (by simp [ev, evs, getS])
      refine z_if_nx ec (env' := [some (lgT L), some (.str j), some (.nd .lst true ((strStep L.es j s y).map nsT)), some (nT y)]) (z_app (xs := s.map nsT) (t := nsT (strAt L.es j y)) (by simp [getS]) ?_ (by simp [getS, frS, frSg]) ?_ ?_ z_nil) z_nil
      · show ev _ [some (lgT L), none, none, some (nT y)] _ = _
        rw [e2]; exact stretch_of_ok h L k hz hd hy
      · have h2 := hI.1
        rw [sizeLine_eq, List.length_map]
        simp only [List.length_cons] at h2
        omega
      · rw [strStep, if_pos z]
        simp [frS, frSg]
    · rw [decide_eq_false z] at ec
      refine z_if_f ec ?_
      rw [strStep, if_neg z]
      exact z_nil
  · exact z_ret_mv (by simp [getS, strAll])
end
end Rb
namespace Rb
open PySem
open PySem.Spec
open L2
theorem keyT_O (q : Key) : keyT (keyO q) = some q := by cases q <;> rfl
theorem dcGo_ok {α : Type} {stp : T → R (Option (Key × T))} {f : α → T} {key : α → Key} {val : α → T} : ∀ {ys : List α} {ks : List Key} {vs : List T}, (∀ y ∈ ys, stp (f y) = .ok (some (key y, val y))) → (ks ++ ys.map key).Nodup → ks.length + ys.length ≤ 1000000 → dcGo stp (ys.map f) ks vs = .ok (ks ++ ys.map key, vs ++ ys.map val)
  | [], ks, vs, _, _, _ => by simp [dcGo]
  | y :: ys, ks, vs, h, hn, hl => by
    have hm : memK (key y) ks = false := by
      unfold memK
      rw [decide_eq_false_iff_not]
      intro m
      rw [List.nodup_append] at hn
      exact hn.2.2 _ m _ (List.mem_map_of_mem List.mem_cons_self) rfl
    have hs : decide (ks.length < sizeLine) = true := by
      rw [decide_eq_true_eq, sizeLine_eq]
      simp only [List.length_cons] at hl
      omega
    have hp : putT ks vs (key y) (val y) = (ks ++ [key y], vs ++ [val y]) := by
      unfold putT
      rw [hm]
      rfl
    have ih := dcGo_ok (stp := stp) (f := f) (key := key) (val := val) (ys := ys) (ks := ks ++ [key y]) (vs := vs ++ [val y]) (fun z m => h z (List.mem_cons_of_mem _ m)) (by simpa using hn) (by simp at hl ⊢; omega)
    have hc : (decide (ks.length < sizeLine) && (!memK (key y) ks || (flats vs && flat (val y)))) = true := by rw [hs, hm]; rfl
    rw [List.map_cons, dcGo, h y List.mem_cons_self, bnd_ok]
    dsimp only
    rw [if_pos hc, hp]
    dsimp only
    rw [ih]
    simp
theorem ev_dc {α : Type} {C : Calls} {env : Env} {tg : Pat} {it : It'} {kx vx : IE} {ifs : List IE} {ys : List α} {f : α → T} (key : α → Key) (val : α → T) (hi : evi C env it = .ok (ys.map f)) (hl : ys.length ≤ 1000000) (hn : (ys.map key).Nodup)
    (h : ∀ y ∈ ys, ∃ e1, asgP tg (f y) (kill (slots tg) env) = some e1 ∧ evc C e1 ifs = .ok true ∧ ev C e1 kx = .ok (keyO (key y)) ∧ ev C e1 vx = .ok (val y)) : ev C env (.dc kx vx tg it ifs) = .ok (.nd (.dk (ys.map key)) true (ys.map val)) := by
  rw [ev, hi, bnd_ok, dcGo_ok (key := key) (val := val)]
  · simp only [List.nil_append]
    rw [R.calm_ok, bnd_ok]
  · intro y m
    obtain ⟨e1, h1, h2, h3, h4⟩ := h y m
    simp only [h1, optR_some, h2, bind_ok, if_true, h3, h4, keyT_O]
  · simpa using hn
  · simpa using hl
theorem getK_map {α κ : Type} [DecidableEq κ] {key : α → κ} {val : α → T} : ∀ {ys : List α} {y : α}, (∀ a ∈ ys, key a = key y → a = y) → y ∈ ys → getK (ys.map key) (ys.map val) (key y) = some (val y)
  | z :: ys, y, hinj, m => by
    rw [List.map_cons, List.map_cons, getK]
    by_cases e : key z = key y
    · rw [if_pos e, hinj z List.mem_cons_self e]
    · rw [if_neg e]
      rcases List.mem_cons.mp m with rfl | m
      · exact absurd rfl e
      · exact getK_map (fun a b => hinj a (List.mem_cons_of_mem _ b)) m
theorem getK_none {α κ : Type} [DecidableEq κ] {key : α → κ} {val : α → T} {q : κ} : ∀ {ys : List α}, (∀ a ∈ ys, key a ≠ q) → getK (ys.map key) (ys.map val) q = none
  | [], _ => rfl
  | z :: ys, h => by
    rw [List.map_cons, List.map_cons, getK, if_neg (h z List.mem_cons_self)]
    exact getK_none fun a b => h a (List.mem_cons_of_mem _ b)
/-- a dict of places -/
def nD (o : Bool) (ps : List Nat) (val : Nat → T) : T := .nd (.dk (ps.map fun (p : Nat) => .inl (p : Int))) o (ps.map val)
/-- a dict of items -/
def sD (o : Bool) (xs : List Str) (val : Str → T) : T := .nd (.dk (xs.map .inr)) o (xs.map val)
theorem ix_dk {ks : List Key} {o : Bool} {xs : List T} {q : Key} {t : T} (h : getK ks xs q = some t) : ixT (.nd (.dk ks) o xs) (keyO q) = .ok (strip t) := by
  cases q <;> simp [ixT, keyO, dgetT, keyT, h]
theorem ix_nD {o : Bool} {ps : List Nat} {val : Nat → T} {p : Nat} (h : p ∈ ps) : ixT (nD o ps val) (nT p) = .ok (strip (val p)) :=
  ix_dk (q := .inl (p : Int)) (getK_map (key := fun p : Nat => (.inl (p : Int) : Key)) (fun a _ e => by injection e with e; omega) h)
theorem ix_sD {o : Bool} {ps : List Str} {val : Str → T} {p : Str} (h : p ∈ ps) : ixT (sD o ps val) (.str p) = .ok (strip (val p)) :=
  ix_dk (q := .inr p) (getK_map (key := fun p : Str => (.inr p : Key)) (fun a _ e => by injection e) h)
theorem strip_nD (o : Bool) (ps : List Nat) (val : Nat → T) : strip (nD o ps val) = nD false ps fun p => strip (val p) := by
  simp [nD, strip, strips_map, Function.comp_def]
theorem strip_sD (o : Bool) (ps : List Str) (val : Str → T) : strip (sD o ps val) = sD false ps fun p => strip (val p) := by
  simp [sD, strip, strips_map, Function.comp_def]
theorem nodup_inl {ps : List Nat} (h : ps.Nodup) : (ps.map fun (p : Nat) => (.inl (p : Int) : Key)).Nodup := by
  rw [List.Nodup, List.pairwise_map]
  exact h.imp fun n e => n (by injection e with e; omega)
theorem nodup_inr {ps : List Str} (h : ps.Nodup) : (ps.map fun p => (.inr p : Key)).Nodup := by
  rw [List.Nodup, List.pairwise_map]
  exact h.imp fun n e => n (by injection e)
def pT (p : Nat × Nat) : T := .nd .tup false [nT p.1, nT p.2]
theorem strip_pT (p : Nat × Nat) : strip (pT p) = pT p := by simp [strip, strips, pT]
theorem strips_pT : ∀ es : List (Nat × Nat), strips (es.map pT) = es.map pT
  | [] => rfl
  | e :: es => by simp [strips, strip_pT, strips_pT es]
theorem ev_call {C : Calls} {env : Env} {f : String} {es : List IE} {ts : List T} (hs : evs C env es = .ok ts) : ev C env (.call f es) = C.fn f (strips ts) := by rw [ev, hs, bind_ok]
abbrev stS : Str := "stays"
abbrev riS : Str := "rises"
theorem foldl_ap {α β : Type} (c : α → Bool) (g : α → β) : ∀ (ys : List α) (acc : List β), ys.foldl (fun acc y => if c y then acc ++ [g y] else acc) acc = acc ++ (ys.filter c).map g
  | [], acc => by simp
  | y :: ys, acc => by
    rw [List.foldl_cons, foldl_ap c g ys]
    cases q : c y <;> simp [q]
theorem foldl_fm {α β : Type} (g : α → List β) : ∀ (ys : List α) (acc : List β), ys.foldl (fun acc y => acc ++ g y) acc = acc ++ ys.flatMap g
  | [], acc => by simp
  | y :: ys, acc => by
    rw [List.foldl_cons, foldl_fm g ys]
    simp
section
variable {T : Tab} (h : LogTab T) (L : Lg) (k : Nat)
include h
theorem links_in_ok {d : Str} {s : List Nat} (hs : ∀ p ∈ s, p ∈ ansN L.es) (hn : s.Nodup) (hl : s.length ≤ 120) : (mkC T (k + 4)).fn "links_in" [lgT L, .str d, .nd .lst false (s.map nT)] = .ok (.nd .lst true ((lnkIn stS riS L.es d s).map pT)) := by
  rw [fn_of h.links_in]
  have hg : ∀ p ∈ s, ∃ j i, L.es[p]? = some (.ans j i (grdN L.es p)) := fun p hp => by
    have := mem_ansN.mp (hs p hp)
    unfold isAt at this
    cases q : L.es[p]? with
    | none => rw [q] at this; cases this
    | some e =>
      cases e with
      | rst j => rw [q] at this; cases this
      | ans j i g => exact ⟨j, i, by simp [grdN, q, grdE]⟩
  let D := nD true s fun p => .int (grdN L.es p)
  refine call_rt (env := [some (lgT L), some (.str d), some (.nd .lst false (s.map nT)), none, none, none, none, none]) rfl (by simp [env0, strips, strip, strips_nT]) (z_asg_es (t := D) (env' := [some (lgT L), some (.str d), some (.nd .lst false (s.map nT)), some D, none, none, none, none]) ?_ (by simp [asgT, frS, frSg, strip, strips_nT]) (z_asg_rd (t := .nd .lst true []) (env' := [some (lgT L), some (.str d), some (.nd .lst false (s.map nT)), some D, some (.nd .lst true []), none, none, none]) (by simp [ev, evs, sz0]) (by simp [own, owns]) (by simp [asgT]) ?_))
  · show ev _ [some (lgT L), none, some (.nd .lst false (s.map nT)), none, none, none, none, none] _ = _
    refine ev_dc (ys := s) (f := nT) (fun (p : Nat) => .inl (p : Int)) (fun p => .int (grdN L.es p)) (evi_seq (t := .nd .lst false (s.map nT)) (by simp [ev, getS, strip, strips_nT]) rfl) (by omega) (nodup_inl hn) fun p hp => ?_
    refine ⟨[some (lgT L), none, some (.nd .lst false (s.map nT)), none, none, none, none, some (nT p)], rfl, rfl, by simp [ev, getS, keyO, nT], ?_⟩
    have e1 := ev_mth h L (k + 3) h.Log_grade_at rfl (env := [some (lgT L), none, some (.nd .lst false (s.map nT)), none, none, none, none, some (nT p)]) (e := .var 0) (es := [.var 7]) (ts := [nT p]) (by simp [ev, getS]) (by simp [ev, evs, getS])
    obtain ⟨j, i, e⟩ := hg p hp
    rw [e1]; exact grade_at_ok h L k e
  · have hD : strip D = nD false s fun p => .int (grdN L.es p) := by
      show strip (nD true s _) = _
      rw [strip_nD]; rfl
    generalize hDD : D = DD at hD ⊢
    refine z_forI (α := Nat) (σ := List (Nat × Nat)) (f := nT) (E := fun fd => [some (lgT L), some (.str d), some (.nd .lst false (s.map nT)), some DD, some (.nd .lst true (fd.map pT)), none, none, none]) (fun l fd => fd.length + l.length * 120 ≤ 14400 ∧ ∀ y ∈ l, y ∈ s) (fun fd p => fd ++ ((s.filter fun q => decide (grdN L.es p < grdN L.es q) && ordB stS riS d p q).map fun q => (p, q))) (ys := s) (s := []) ?_ ⟨by simp; omega, fun _ z => z⟩ (fun fd p l hI => ?_) fun _ => ?_
    · have := evF_seq (C := mkC T (k + 3)) (env := [some (lgT L), some (.str d), some (.nd .lst false (s.map nT)), some DD, some (.nd .lst true []), none, none, none]) (fv := [2]) (e := .var 2) (xs := s.map nT) (t := .nd .lst false (s.map nT)) (by
        show ev _ [none, none, some (.nd .lst false (s.map nT)), none, none, none, none, none] _ = _
        simp [ev, getS, strip, strips_nT]) rfl
      rw [this]
      simp [frS, frSg, strip, strips_nT]
    · have hp := hI.2 p List.mem_cons_self
      have h1 := hI.1
      have hf := List.length_filter_le (fun q => decide (grdN L.es p < grdN L.es q) && ordB stS riS d p q) s
      simp only [List.length_cons] at h1
      refine ⟨?_, by simp only [List.length_append, List.length_map]; omega, fun z hz => hI.2 z (List.mem_cons_of_mem _ hz)⟩
      refine ⟨[some (lgT L), some (.str d), some (.nd .lst false (s.map nT)), some DD, some (.nd .lst true (fd.map pT)), some (nT p), none, none], [some (lgT L), some (.str d), some (.nd .lst false (s.map nT)), some DD, some (.nd .lst true ((fd ++ ((s.filter fun q => decide (grdN L.es p < grdN L.es q) && ordB stS riS d p q).map fun q => (p, q))).map pT)), some (nT p), none, none], by simp [asgP], .inl ?_, by simp [kill]⟩
      rw [← foldl_ap]
      refine z_forI (α := Nat) (σ := List (Nat × Nat)) (f := nT) (E := fun fd => [some (lgT L), some (.str d), some (.nd .lst false (s.map nT)), some DD, some (.nd .lst true (fd.map pT)), some (nT p), none, none]) (fun l fd => fd.length + l.length ≤ 14400 ∧ ∀ y ∈ l, y ∈ s) (fun fd q => if decide (grdN L.es p < grdN L.es q) && ordB stS riS d p q then fd ++ [(p, q)] else fd) (ys := s) (s := fd) ?_ ⟨by omega, fun _ z => z⟩ (fun fd q l hI => ?_) fun _ => z_nil
      · have := evF_seq (C := mkC T (k + 3)) (env := [some (lgT L), some (.str d), some (.nd .lst false (s.map nT)), some DD, some (.nd .lst true (fd.map pT)), some (nT p), none, none]) (fv := [2]) (e := .var 2) (xs := s.map nT) (t := .nd .lst false (s.map nT)) (by
          show ev _ [none, none, some (.nd .lst false (s.map nT)), none, none, none, none, none] _ = _
          simp [ev, getS, strip, strips_nT]) rfl
        rw [this]
        simp [frS, frSg, strip, strips_nT]
      · have hq := hI.2 q List.mem_cons_self
        have h2 := hI.1
        simp only [List.length_cons] at h2
        refine ⟨?_, by split <;> (try simp) <;> omega, fun z hz => hI.2 z (List.mem_cons_of_mem _ hz)⟩
        refine ⟨[some (lgT L), some (.str d), some (.nd .lst false (s.map nT)), some DD, some (.nd .lst true (fd.map pT)), some (nT p), some (nT q), none], [some (lgT L), some (.str d), some (.nd .lst false (s.map nT)), some DD, some (.nd .lst true ((if decide (grdN L.es p < grdN L.es q) && ordB stS riS d p q then fd ++ [(p, q)] else fd).map pT)), some (nT p), some (nT q), none], by simp [asgP], .inl ?_, by simp [kill]⟩
        have ec : ev (mkC T (k + 3)) [some (lgT L), some (.str d), some (.nd .lst false (s.map nT)), some DD, some (.nd .lst true (fd.map pT)), some (nT p), some (nT q), none] (.bo .And [.cmp .Lt (.sub (.var 3) (.var 5)) (.sub (.var 3) (.var 6)), .bo .Or [.cmp .Eq (.var 1) (.lit (.str "stays")), .cmp .Eq (.cmp .Lt (.var 5) (.var 6)) (.cmp .Eq (.var 1) (.lit (.str "rises")))]]) = .ok (.bl (decide (grdN L.es p < grdN L.es q) && ordB stS riS d p q)) := by
          have i1 := ix_nD (o := false) (val := fun p => Rb.T.int (grdN L.es p)) hp
          have i2 := ix_nD (o := false) (val := fun p => Rb.T.int (grdN L.es p)) hq
          have c1 : cmpT .Lt (nT p) (nT q) = .ok (.bl (decide (p < q))) := by simp [nT]
          simp [ev, evb, getS, hD, i1, i2, boPick, c1, ordB, beq_dec]
          by_cases a1 : grdN L.es p < grdN L.es q
          · by_cases a2 : d = stS
            · simp [a1, a2]
            · simp [a1, a2]
          · simp [a1]
        by_cases z : (decide (grdN L.es p < grdN L.es q) && ordB stS riS d p q) = true
        · rw [z] at ec
          refine z_if_nx ec (env' := [some (lgT L), some (.str d), some (.nd .lst false (s.map nT)), some DD, some (.nd .lst true ((fd ++ [(p, q)]).map pT)), some (nT p), some (nT q), none]) (z_app (xs := fd.map pT) (t := pT (p, q)) (by simp [getS]) ?_ (by simp [getS, frS, frSg]) ?_ ?_ z_nil) ?_
          · show ev _ [none, none, none, none, none, some (nT p), some (nT q), none] _ = _
            simp [ev, evs, getS, sz2, mkTup2, flat, pT, nT]
          · rw [sizeLine_eq, List.length_map]; omega
          · simp [frS, frSg]
          · rw [if_pos z]; exact z_nil
        · have z2 := Bool.eq_false_iff.mpr z
          rw [z2] at ec
          refine z_if_f ec ?_
          rw [if_neg z]
          exact z_nil
    · rw [foldl_fm]
      exact z_ret_mv (by simp [getS, lnkIn])
end
end Rb
namespace Rb
open PySem
open PySem.Spec
open L2
theorem flat_nT (p : Nat) : flat (nT p) = true := rfl
/-- what the drawn log is -/
structure Wf (L : Lg) : Prop where
  es_len : L.es.length ≤ 120
  js_len : L.js.length ≤ 8
  js_nd : (L.js.map (·.1)).Nodup
  it_nd : L.items.Nodup
  it_len : L.items.length ≤ 20
  it_pos : 0 < L.items.length
  ok : ∀ (p : Nat) (j i : Str) (g : Int), L.es[p]? = some (EvG.ans j i g) → (∃ d, (j, d) ∈ L.js) ∧ i ∈ L.items
theorem Wf.es1000 {L : Lg} (w : Wf L) : L.es.length ≤ 1000 := Nat.le_trans w.es_len (by decide)
theorem find_of {L : List (Str × Str)} : ∀ {j d : Str}, (L.map (·.1)).Nodup → (j, d) ∈ L → L.find? (fun p => decide (p.1 = j)) = some (j, d) := by
  induction L with
  | nil => intro j d _ h; cases h
  | cons x xs ih =>
    intro j d hn h
    rw [List.find?_cons]
    rcases List.mem_cons.mp h with rfl | h
    · simp
    · rw [List.map_cons, List.nodup_cons] at hn
      have : ¬ x.1 = j := fun e => hn.1 (e ▸ List.mem_map_of_mem h)
      simp only [this, decide_false]
      exact ih hn.2 h
theorem Wf.drf {L : Lg} (w : Wf L) {j d : Str} (h : (j, d) ∈ L.js) : drfO L j = some d := by
  unfold drfO
  rw [find_of w.js_nd h]; rfl
theorem nodup_ansN (es : List Evt) : (ansN es).Nodup := List.Nodup.sublist List.filter_sublist List.nodup_range
theorem nodup_ansOf (es : List Evt) (j : Str) : (ansOf es j).Nodup := List.Nodup.sublist List.filter_sublist (nodup_ansN es)
theorem nodup_strAt (es : List Evt) (j : Str) (p : Nat) : (strAt es j p).Nodup := List.Nodup.sublist List.filter_sublist (nodup_ansOf es j)
theorem len_ansN (es : List Evt) : (ansN es).length ≤ es.length := by
  have := List.length_filter_le (isAt es) (List.range es.length)
  simp at this
  exact this
theorem len_ansOf (es : List Evt) (j : Str) : (ansOf es j).length ≤ es.length := Nat.le_trans (List.length_filter_le _ _) (len_ansN es)
theorem len_strAt (es : List Evt) (j : Str) (p : Nat) : (strAt es j p).length ≤ es.length := Nat.le_trans (List.length_filter_le _ _) (len_ansOf es j)
theorem len_strStep (es : List Evt) (j : Str) : ∀ (l : List Nat) (fd : List (List Nat)), (l.foldl (strStep es j) fd).length ≤ fd.length + l.length
  | [], fd => Nat.le_refl _
  | p :: l, fd => by
    rw [List.foldl_cons]
    have := len_strStep es j l (strStep es j fd p)
    have h2 : (strStep es j fd p).length ≤ fd.length + 1 := by
      unfold strStep
      split <;> simp
    simp only [List.length_cons]
    omega
theorem len_strAll (es : List Evt) (j : Str) : (strAll es j).length ≤ es.length := by
  have := len_strStep es j (ansOf es j) []
  have h2 := len_ansOf es j
  unfold strAll
  simp at this
  omega
theorem strAll_mem {es : List Evt} {j : Str} {s : List Nat} (h : s ∈ strAll es j) : ∃ p ∈ ansOf es j, s = strAt es j p := (strGo (es := es) (j := j) (l := ansOf es j) (fd := []) (D := []) (fun _ z => z) (fun _ z => by cases z) (fun _ z => by cases z)).1 s h
theorem len_flatMap {α β : Type} (g : α → List β) (b : Nat) : ∀ (l : List α), (∀ x ∈ l, (g x).length ≤ b) → (l.flatMap g).length ≤ l.length * b
  | [], _ => by simp
  | x :: l, h => by
    rw [List.flatMap_cons, List.length_append, List.length_cons, Nat.succ_mul]
    have := h x List.mem_cons_self
    have := len_flatMap g b l fun y m => h y (List.mem_cons_of_mem _ m)
    omega
theorem len_lnkIn (es : List Evt) (d : Str) {s : List Nat} (hl : s.length ≤ 120) : (lnkIn stS riS es d s).length ≤ 14400 := by
  have := len_flatMap (fun p => (s.filter fun q => decide (grdN es p < grdN es q) && ordB stS riS d p q).map fun q => (p, q)) 120 s fun p _ => by
    rw [List.length_map]
    exact Nat.le_trans (List.length_filter_le _ _) hl
  unfold lnkIn
  omega
def ci (p : Nat × Nat) : Int × Int := ((p.1 : Int), (p.2 : Int))
def leN (p q : Nat × Nat) : Bool := leP (ci p) (ci q)
def srtN (l : List (Nat × Nat)) : List (Nat × Nat) := l.mergeSort leN
theorem pairsT_ok : ∀ l : List (Nat × Nat), pairsT (l.map pT) = some (l.map ci)
  | [] => rfl
  | p :: l => by
    rw [List.map_cons, pairsT, pairsT_ok l]
    rfl
theorem srt_pairs (o : Bool) (l : List (Nat × Nat)) : srtT (.nd .lst o (l.map pT)) = .ok (.nd .lst true ((srtN l).map pT)) := by
  have e : (l.map ci).mergeSort leP = (srtN l).map ci := (List.map_mergeSort (r := leN) (s := leP) (f := ci) fun a _ b _ => rfl).symm
  cases l with
  | nil => simp [srtT, intsT, srtN]
  | cons p l =>
    have h1 : intsT ((p :: l).map pT) = none := rfl
    rw [srtT, h1]
    dsimp only
    rw [pairsT_ok]
    dsimp only
    rw [e, List.map_map]
    rfl
theorem mem_srtN {l : List (Nat × Nat)} {p : Nat × Nat} : p ∈ srtN l ↔ p ∈ l := List.mem_mergeSort
theorem len_srtN {l : List (Nat × Nat)} : (srtN l).length = l.length := List.length_mergeSort l
def lnkS (L : Lg) : List (Nat × Nat) := srtN (lnkL stS riS L)
def itN (es : List Evt) (p : Nat) : Str := itmN "" es p
def enT (es : List Evt) (p : Nat × Nat) : T := .nd .tup false [pT p, .str (itN es p.1), .str (itN es p.2)]
theorem strip_enT (es : List Evt) (p : Nat × Nat) : strip (enT es p) = enT es p := by simp [strip, strips, enT, strip_pT]
theorem strips_enT (es : List Evt) : ∀ l : List (Nat × Nat), strips (l.map (enT es)) = l.map (enT es)
  | [] => rfl
  | e :: l => by simp [strips, strip_enT, strips_enT es l]
theorem len_lnkL {L : Lg} (w : Wf L) : (lnkL stS riS L).length ≤ 13824000 := by
  have h1 : ∀ jd ∈ L.js, ((strAll L.es jd.1).flatMap (lnkIn stS riS L.es jd.2)).length ≤ 120 * 14400 := fun jd _ => by
    have := len_flatMap (lnkIn stS riS L.es jd.2) 14400 (strAll L.es jd.1) fun s hs => by
      obtain ⟨p, _, rfl⟩ := strAll_mem hs
      exact len_lnkIn _ _ (Nat.le_trans (len_strAt _ _ _) w.es_len)
    have h2 := Nat.le_trans (len_strAll L.es jd.1) w.es_len
    omega
  have := len_flatMap _ _ L.js h1
  have := w.js_len
  unfold lnkL
  omega
section
variable {T : Tab} (h : LogTab T) (L : Lg) (k : Nat) (w : Wf L)
include h w
theorem links_of_ok : (mkC T (k + 7)).fn "links_of" [lgT L] = .ok (.nd .lst true ((lnkS L).map pT)) := by
  rw [fn_of h.links_of]
  refine call_rt (env := [some (lgT L), none, none, none, none]) rfl (by simp [env0, strips]) (z_asg_rd (t := .nd .lst true []) (env' := [some (lgT L), some (.nd .lst true []), none, none, none]) (by simp [ev, evs, sz0]) (by simp [own, owns]) (by simp [asgT]) ?_)
  refine z_forI (α := Str × Str) (σ := List (Nat × Nat)) (f := jT) (E := fun fd => [some (lgT L), some (.nd .lst true (fd.map pT)), none, none, none]) (fun l fd => fd.length + l.length * 1728000 ≤ 13824000 ∧ ∀ y ∈ l, y ∈ L.js) (fun fd jd => fd ++ (strAll L.es jd.1).flatMap (lnkIn stS riS L.es jd.2)) (ys := L.js) (s := []) ?_ ⟨by have := w.js_len; simp; omega, fun _ z => z⟩ (fun fd jd l hI => ?_) fun _ => ?_
  · have := evF_seq (C := mkC T (k + 6)) (env := [some (lgT L), some (.nd .lst true []), none, none, none]) (fv := [0]) (e := .att (.var 0) "judges") (xs := L.js.map jT) (t := .nd .lst true (L.js.map jT)) (by
      show ev _ [some (lgT L), none, none, none, none] _ = _
      simp [ev, getS, att_judg h]) rfl
    rw [this]
    simp [frS, frSg]
  · obtain ⟨j, d⟩ := jd
    have hj := hI.2 _ List.mem_cons_self
    have h1 := hI.1
    simp only [List.length_cons] at h1
    have hd := w.drf hj
    have h2 := Nat.le_trans (len_strAll L.es j) w.es_len
    have h3 := len_flatMap (lnkIn stS riS L.es d) 14400 (strAll L.es j) fun s hs => by
      obtain ⟨p, _, rfl⟩ := strAll_mem hs
      exact len_lnkIn _ _ (Nat.le_trans (len_strAt _ _ _) w.es_len)
    refine ⟨?_, by simp only [List.length_append]; omega, fun z hz => hI.2 z (List.mem_cons_of_mem _ hz)⟩
    refine ⟨[some (lgT L), some (.nd .lst true (fd.map pT)), some (.str j), some (.str d), none], [some (lgT L), some (.nd .lst true ((fd ++ (strAll L.es j).flatMap (lnkIn stS riS L.es d)).map pT)), some (.str j), some (.str d), none], by simp [jT, strip, strips, asgP, asgPs], .inl ?_, by simp [kill]⟩
    rw [← foldl_fm]
    refine z_forI (α := List Nat) (σ := List (Nat × Nat)) (f := nsT) (E := fun fd => [some (lgT L), some (.nd .lst true (fd.map pT)), some (.str j), some (.str d), none]) (fun l fd => fd.length + l.length * 14400 ≤ 13824000 ∧ ∀ y ∈ l, y ∈ strAll L.es j) (fun fd s => fd ++ lnkIn stS riS L.es d s) (ys := strAll L.es j) (s := fd) ?_ ⟨by omega, fun _ z => z⟩ (fun fd s l hI => ?_) fun _ => z_nil
    · have e1 := ev_mth h L (k + 6) h.Log_stretches rfl (env := [some (lgT L), none, some (.str j), none, none]) (e := .var 0) (es := [.var 2]) (ts := [.str j]) (by simp [ev, getS]) (by simp [ev, evs, getS])
      have := evF_seq (C := mkC T (k + 6)) (env := [some (lgT L), some (.nd .lst true (fd.map pT)), some (.str j), some (.str d), none]) (fv := [0, 2]) (e := .mth (.var 0) "stretches" [.var 2]) (xs := (strAll L.es j).map nsT) (t := .nd .lst true ((strAll L.es j).map nsT)) (by
        show ev _ [some (lgT L), none, some (.str j), none, none] _ = _
        rw [e1]; exact stretches_ok h L k w.es1000 hd) rfl
      rw [this]
      simp [frS, frSg]
    · have hs := hI.2 s List.mem_cons_self
      have h4 := hI.1
      simp only [List.length_cons] at h4
      obtain ⟨p, hp, rfl⟩ := strAll_mem hs
      have hl : (strAt L.es j p).length ≤ 120 := Nat.le_trans (len_strAt _ _ _) w.es_len
      have h5 := len_lnkIn L.es d hl
      refine ⟨?_, by simp only [List.length_append]; omega, fun z hz => hI.2 z (List.mem_cons_of_mem _ hz)⟩
      refine ⟨[some (lgT L), some (.nd .lst true (fd.map pT)), some (.str j), some (.str d), some (.nd .lst false ((strAt L.es j p).map nT))], [some (lgT L), some (.nd .lst true ((fd ++ lnkIn stS riS L.es d (strAt L.es j p)).map pT)), some (.str j), some (.str d), some (.nd .lst false ((strAt L.es j p).map nT))], by simp [asgP, nsT, strip, strips_nT], .inl ?_, by simp [kill]⟩
      refine z_ext (xs := fd.map pT) (ys := (lnkIn stS riS L.es d (strAt L.es j p)).map pT) (by simp [getS]) ?_ (by simp [getS, frS, frSg]) ?_ (by simp [frS, frSg, strip, strips_nT]) z_nil
      · show ev _ [some (lgT L), none, none, some (.str d), some (.nd .lst false ((strAt L.es j p).map nT))] _ = _
        rw [ev_call (ts := [lgT L, .str d, .nd .lst false ((strAt L.es j p).map nT)]) (by simp [evs, ev, getS, strip, strips_nT])]
        simp only [strips, strip_lg, strip_str, strip, strips_nT]
        exact links_in_ok h L (k + 2) (fun q hq => (List.mem_filter.mp (mem_strAt.mp hq).1).1) (nodup_strAt _ _ _) hl
      · rw [sizeLine_eq, List.length_map, List.length_map]; omega
  · refine z_ret_es ?_
    rw [foldl_fm]
    show ev _ [none, some (.nd .lst true (([] ++ lnkL stS riS L).map pT)), none, none, none] _ = _
    simp only [ev, getS, List.nil_append, List.getElem?_cons_succ, List.getElem?_cons_zero, optR_some, strip, strips_pT, bind_ok, srt_pairs]
    rfl
theorem ends_of_ok : (mkC T (k + 8)).fn "ends_of" [lgT L] = .ok (.nd .lst true ((lnkS L).map (enT L.es))) := by
  rw [fn_of h.ends_of]
  have e1 := ev_mth h L (k + 7) h.Log_answers rfl (env := [some (lgT L), none, none, none, none]) (e := .var 0) (es := []) (ts := []) (by simp [ev, getS]) (by simp [ev, evs, getS])
  refine call_rt (env := [some (lgT L), none, none, none, none]) rfl (by simp [env0, strips]) (z_asg_es (t := nD true (ansN L.es) fun p => .str (itN L.es p)) (env' := [some (lgT L), some (nD true (ansN L.es) fun p => .str (itN L.es p)), none, none, none]) ?_ (by simp [asgT, frS, frSg]) (z_ret_es ?_))
  · show ev _ [some (lgT L), none, none, none, none] _ = _
    refine ev_dc (ys := ansN L.es) (f := nT) (fun (p : Nat) => .inl (p : Int)) (fun p => .str (itN L.es p)) (evi_seq (by rw [e1]; exact answers_ok h L (k + 5) w.es1000) rfl) (by have := len_ansN L.es; have := w.es_len; omega) (nodup_inl (nodup_ansN _)) fun p hp => ?_
    refine ⟨[some (lgT L), none, some (nT p), none, none], rfl, rfl, by simp [ev, getS, keyO, nT], ?_⟩
    have e2 := ev_mth h L (k + 7) h.Log_item_at rfl (env := [some (lgT L), none, some (nT p), none, none]) (e := .var 0) (es := [.var 2]) (ts := [nT p]) (by simp [ev, getS]) (by simp [ev, evs, getS])
    have hq := mem_ansN.mp hp
    unfold isAt at hq
    cases q : L.es[p]? with
    | none => rw [q] at hq; cases hq
    | some e =>
      cases e with
      | rst j => rw [q] at hq; cases hq
      | ans j i g =>
        have : itN L.es p = i := by simp [itN, itmN, q, itmE]
        rw [e2, this]; exact item_at_ok h L (k + 4) q
  · show ev _ [some (lgT L), some (nD true (ansN L.es) fun p => .str (itN L.es p)), none, none, none] _ = _
    have := ev_lc (C := mkC T (k + 7)) (env := [some (lgT L), some (nD true (ansN L.es) fun p => .str (itN L.es p)), none, none, none]) (tg := .tp [.nm 3, .nm 4]) (it := .seq (.call "links_of" [.var 0])) (elt := .tup [.tup [.var 3, .var 4], .sub (.var 1) (.var 3), .sub (.var 1) (.var 4)]) (ifs := []) (ys := lnkS L) (f := pT) (fun _ => true) (enT L.es) (evi_seq (t := .nd .lst true ((lnkS L).map pT)) (by
      rw [ev_call (ts := [lgT L]) (by simp [evs, ev, getS])]
      simp only [strips, strip_lg]
      exact links_of_ok h L k w) rfl) (by
        have := len_lnkL w
        unfold lnkS
        rw [len_srtN]
        omega) fun pq hpq => ?_
    · rw [this, List.filter_eq_self.mpr fun _ _ => rfl]
    · obtain ⟨p, q⟩ := pq
      refine ⟨[some (lgT L), some (nD true (ansN L.es) fun p => .str (itN L.es p)), none, some (nT p), some (nT q)], rfl, rfl, fun _ => ?_⟩
      obtain ⟨j, d, i1, g1, i2, g2, _, a1, a2, _⟩ := mem_lnkL.mp (mem_srtN.mp hpq)
      have b1 : p ∈ ansN L.es := (List.mem_filter.mp (mem_ansOf.mpr ⟨i1, g1, a1⟩)).1
      have b2 : q ∈ ansN L.es := (List.mem_filter.mp (mem_ansOf.mpr ⟨i2, g2, a2⟩)).1
      have c1 := ix_nD (o := false) (val := fun p => Rb.T.str (itN L.es p)) b1
      have c2 := ix_nD (o := false) (val := fun p => Rb.T.str (itN L.es p)) b2
      simp [ev, evs, getS, sz2, sz3, mkTup2, flat, strip_nD, c1, c2, enT, pT, mkTup, flats, flat_nT]
end
end Rb
namespace Rb
open PySem
open PySem.Spec
open L2
def lsT (l : List Str) : T := .nd .lst true (l.map .str)
theorem strip_ls (l : List Str) : strip (lsT l) = .nd .lst false (l.map .str) := by simp [lsT, strip, strips_strs]
theorem strip_ls2 (l : List Str) : strip (.nd .lst false (l.map .str)) = .nd .lst false (l.map .str) := by simp [strip, strips_strs]
theorem strip_ls3 (l : List Str) : strip (.nd .lst true (l.map .str)) = .nd .lst false (l.map .str) := by simp [strip, strips_strs]
theorem owns_str (l : List Str) : owns (l.map .str) = true := by
  induction l with
  | nil => simp [owns]
  | cons a l ih => simp [owns, own, ih]
theorem own_ls (l : List Str) : own (lsT l) = true := by simp [lsT, own, owns_str]
/-- the pairs of a dict -/
def dtT (o : Bool) (P : List (Str × Str)) : T := .nd (.dt (P.map fun p => [.inr p.1, .inr p.2])) o (P.map fun _ => .bl true)
theorem strip_dt (o : Bool) (P : List (Str × Str)) : strip (dtT o P) = dtT false P := by simp [dtT, strip, strips_map, Function.comp_def]
theorem key2_inj {p q : Str × Str} (h : ([.inr p.1, .inr p.2] : List Key) = [.inr q.1, .inr q.2]) : p = q := by
  injection h with h1 h2
  injection h2 with h2 h3
  injection h1 with h1
  injection h2 with h2
  exact Prod.ext h1 h2
theorem inR_dt (o o' : Bool) (P : List (Str × Str)) (a b : Str) : inR (.nd .tup o' [.str a, .str b]) (dtT o P) = .ok (decide ((a, b) ∈ P)) := by
  have hk : keysT [.str a, .str b] = some [.inr a, .inr b] := rfl
  have e : inR (.nd .tup o' [.str a, .str b]) (dtT o P) = (dgetT (dtT o P) (.nd .tup o' [.str a, .str b]) >>= fun o => .ok o.isSome) := rfl
  have e2 : dgetT (dtT o P) (.nd .tup o' [.str a, .str b]) = .ok (getK (P.map fun p => ([.inr p.1, .inr p.2] : List Key)) (P.map fun _ => .bl true) [.inr a, .inr b]) := by
    simp only [dtT, dgetT, hk]
  rw [e, e2, bnd_ok]
  by_cases m : (a, b) ∈ P
  · have := getK_map (key := fun p : Str × Str => ([.inr p.1, .inr p.2] : List Key)) (val := fun _ => T.bl true) (ys := P) (y := (a, b)) (fun x _ z => key2_inj z) m
    rw [this, decide_eq_true m]
    rfl
  · have := getK_none (key := fun p : Str × Str => ([.inr p.1, .inr p.2] : List Key)) (val := fun _ => T.bl true) (ys := P) (q := [.inr a, .inr b]) fun x hx z => m (by have := key2_inj (q := (a, b)) z; exact this ▸ hx)
    rw [this, decide_eq_false m]
    rfl
theorem inR_nD (o : Bool) (ps : List Nat) (val : Nat → T) (p : Nat) : inR (nT p) (nD o ps val) = .ok (decide (p ∈ ps)) := by
  have e : inR (nT p) (nD o ps val) = (dgetT (nD o ps val) (nT p) >>= fun o => .ok o.isSome) := rfl
  have e2 : dgetT (nD o ps val) (nT p) = .ok (getK (ps.map fun (p : Nat) => (.inl (p : Int) : Key)) (ps.map val) (.inl (p : Int))) := rfl
  rw [e, e2, bnd_ok]
  by_cases m : p ∈ ps
  · have := getK_map (key := fun (p : Nat) => (.inl (p : Int) : Key)) (val := val) (ys := ps) (y := p) (fun a _ z => by injection z with z; omega) m
    rw [this, decide_eq_true m]
    rfl
  · have := getK_none (key := fun (p : Nat) => (.inl (p : Int) : Key)) (val := val) (ys := ps) (q := .inl (p : Int)) fun x hx z => m (by
      injection z with z
      have e3 : x = p := by omega
      exact e3 ▸ hx)
    rw [this, decide_eq_false m]
    rfl
theorem putV_map {α κ : Type} [DecidableEq α] [DecidableEq κ] {key : α → κ} {val : α → T} {a : α} {t : T} : ∀ {ys : List α}, (∀ x ∈ ys, key x = key a → x = a) → putV (ys.map key) (ys.map val) (key a) t = ys.map fun x => if x = a then t else val x
  | [], _ => rfl
  | y :: ys, h => by
    rw [List.map_cons, List.map_cons, putV, putV_map fun x m => h x (List.mem_cons_of_mem _ m), List.map_cons]
    congr 1
    by_cases e : y = a
    · subst e; simp
    · have : key y ≠ key a := fun z => e (h y List.mem_cons_self z)
      simp [e, this]
theorem memK_t {κ : Type} [DecidableEq κ] {q : κ} {ks : List κ} (h : q ∈ ks) : memK q ks = true := decide_eq_true h
theorem memK_f {κ : Type} [DecidableEq κ] {q : κ} {ks : List κ} (h : q ∉ ks) : memK q ks = false := decide_eq_false h
theorem put_sD {V : List Str} {val : Str → T} {a : Str} {t : T} (hn : V.Nodup) (hl : V.length ≤ 1000000) (hm : a ∈ V) : putTr (sD true V val) (.str a) t = some (sD true V fun x => if x = a then t else val x) := by
  have h1 : memK (.inr a) (V.map fun x => (.inr x : Key)) = true := memK_t (List.mem_map_of_mem (f := fun x => (.inr x : Key)) hm)
  have h2 : (decide ((V.map fun x => (.inr x : Key)).length < sizeLine) && (!memK (.inr a) (V.map fun x => (.inr x : Key)) || decide (V.map fun x => (.inr x : Key)).Nodup)) = true := by
    rw [Bool.and_eq_true, decide_eq_true_eq, sizeLine_eq, List.length_map, Bool.or_eq_true, decide_eq_true_eq]
    exact ⟨by omega, .inr (nodup_inr hn)⟩
  have h3 : putT (V.map fun x => (.inr x : Key)) (V.map val) (.inr a) t = (V.map fun x => (.inr x : Key), V.map fun x => if x = a then t else val x) := by
    unfold putT
    rw [if_pos h1, putV_map (key := fun x => (.inr x : Key)) fun x _ z => by injection z]
  have h4 : keyT (.str a) = some (.inr a) := rfl
  have e : putTr (sD true V val) (.str a) t = match keyT (.str a) with
    | some q => if decide ((V.map fun x => (.inr x : Key)).length < sizeLine) && (!memK q (V.map fun x => (.inr x : Key)) || decide (V.map fun x => (.inr x : Key)).Nodup) then some (.nd (.dk (putT (V.map fun x => (.inr x : Key)) (V.map val) q t).1) true (putT (V.map fun x => (.inr x : Key)) (V.map val) q t).2) else none
    | none => none := by
    simp only [putTr, sD] <;> rfl
  rw [e, h4]
  dsimp only
  rw [if_pos h2, h3]
  rfl
theorem put_new {V : List Str} {val : Str → T} {a : Str} (hl : V.length ≤ 1000000) (hm : a ∉ V) : putTr (sD true V val) (.str a) (val a) = some (sD true (V ++ [a]) val) := by
  have h1 : memK (.inr a) (V.map fun x => (.inr x : Key)) = false := memK_f fun z => by
    obtain ⟨x, hx, e⟩ := List.mem_map.mp z
    injection e with e
    exact hm (e ▸ hx)
  have h2 : (decide ((V.map fun x => (.inr x : Key)).length < sizeLine) && (!memK (.inr a) (V.map fun x => (.inr x : Key)) || decide (V.map fun x => (.inr x : Key)).Nodup)) = true := by
    rw [Bool.and_eq_true, decide_eq_true_eq, sizeLine_eq, List.length_map, h1]
    exact ⟨by omega, rfl⟩
  have h3 : putT (V.map fun x => (.inr x : Key)) (V.map val) (.inr a) (val a) = ((V ++ [a]).map fun x => (.inr x : Key), (V ++ [a]).map val) := by
    unfold putT
    rw [h1]
    simp
  have h4 : keyT (.str a) = some (.inr a) := rfl
  have e : putTr (sD true V val) (.str a) (val a) = match keyT (.str a) with
    | some q => if decide ((V.map fun x => (.inr x : Key)).length < sizeLine) && (!memK q (V.map fun x => (.inr x : Key)) || decide (V.map fun x => (.inr x : Key)).Nodup) then some (.nd (.dk (putT (V.map fun x => (.inr x : Key)) (V.map val) q (val a)).1) true (putT (V.map fun x => (.inr x : Key)) (V.map val) q (val a)).2) else none
    | none => none := by
    simp only [putTr, sD] <;> rfl
  rw [e, h4]
  dsimp only
  rw [if_pos h2, h3]
  rfl
theorem put_dt {P : List (Str × Str)} {a b : Str} {o : Bool} (hn : P.Nodup) (hl : P.length ≤ 14000000) : putTr (dtT true P) (.nd .tup o [.str a, .str b]) (.bl true) = some (dtT true (addA P (a, b))) := by
  have hk : keysT [.str a, .str b] = some [.inr a, .inr b] := rfl
  have hnd : (P.map fun p => ([.inr p.1, .inr p.2] : List Key)).Nodup := by
    rw [List.Nodup, List.pairwise_map]
    exact hn.imp fun n e => n (key2_inj e)
  have hm : memK [.inr a, .inr b] (P.map fun p => ([.inr p.1, .inr p.2] : List Key)) = decide ((a, b) ∈ P) := by
    unfold memK
    congr 1
    rw [List.mem_map]
    exact propext ⟨fun ⟨x, hx, e⟩ => by have := key2_inj (q := (a, b)) e; exact this ▸ hx, fun m => ⟨_, m, rfl⟩⟩
  have h2 : (decide ((P.map fun p => ([.inr p.1, .inr p.2] : List Key)).length < sizeLine) && (!memK [.inr a, .inr b] (P.map fun p => ([.inr p.1, .inr p.2] : List Key)) || decide (P.map fun p => ([.inr p.1, .inr p.2] : List Key)).Nodup)) = true := by
    rw [Bool.and_eq_true, decide_eq_true_eq, sizeLine_eq, List.length_map, Bool.or_eq_true, decide_eq_true_eq]
    exact ⟨by omega, .inr hnd⟩
  have h3 : putT (P.map fun p => ([.inr p.1, .inr p.2] : List Key)) (P.map fun _ => T.bl true) [.inr a, .inr b] (.bl true) = ((addA P (a, b)).map fun p => ([.inr p.1, .inr p.2] : List Key), (addA P (a, b)).map fun _ => T.bl true) := by
    unfold putT addA
    rw [hm]
    by_cases m : (a, b) ∈ P
    · rw [decide_eq_true m, if_pos rfl, if_pos m]
      have := putV_map (key := fun p : Str × Str => ([.inr p.1, .inr p.2] : List Key)) (val := fun _ => T.bl true) (a := (a, b)) (t := .bl true) (ys := P) fun x _ z => key2_inj z
      simp only [ite_self] at this
      rw [this]
    · rw [decide_eq_false m, if_neg (by simp), if_neg m]
      simp
  have e : putTr (dtT true P) (.nd .tup o [.str a, .str b]) (.bl true) = match keysT [.str a, .str b] with
    | some q => if decide ((P.map fun p => ([.inr p.1, .inr p.2] : List Key)).length < sizeLine) && (!memK q (P.map fun p => ([.inr p.1, .inr p.2] : List Key)) || decide (P.map fun p => ([.inr p.1, .inr p.2] : List Key)).Nodup) then some (.nd (.dt (putT (P.map fun p => ([.inr p.1, .inr p.2] : List Key)) (P.map fun _ => T.bl true) q (.bl true)).1) true (putT (P.map fun p => ([.inr p.1, .inr p.2] : List Key)) (P.map fun _ => T.bl true) q (.bl true)).2) else none
    | none => none := by
    simp only [putTr, dtT] <;> rfl
  rw [e, hk]
  dsimp only
  rw [if_pos h2, h3]
  rfl
theorem nodup_addA {α : Type} [DecidableEq α] {P : List α} {x : α} (h : P.Nodup) : (addA P x).Nodup := by
  unfold addA
  split
  · exact h
  · rename_i n
    rw [List.nodup_append]
    refine ⟨h, by simp, ?_⟩
    rintro a ha b hb rfl
    rw [List.mem_singleton] at hb
    exact n (hb ▸ ha)
theorem len_addA {α : Type} [DecidableEq α] {P : List α} {x : α} : (addA P x).length ≤ P.length + 1 := by
  unfold addA
  split <;> simp
section
variable {C : Calls} {env env' : Env} {ss : List IS} {r : SR}
theorem z_put_rd {i : Nat} {kx e : IE} {t q w w' : T} (h : ev C env e = .ok t) (ho : own t = true) (hi : getS env i = some w) (hk : ev C env kx = .ok q) (hq : own q = true) (hp : putTr w q t = some w') (he : env.set i (some w') = env') (hr : execs C ss env' = r) : execs C (.put i [] kx (.rd e) :: ss) env = r := by
  have h1 : resS C env i [] = .ok ([], w) := by rw [resS, hi]; rfl
  rw [execs, exec]
  simp only [evL, h, ho, if_pos, VR.go, h1, resGo, hk, hq, modS, hi, nodeAt, hp, putAt, he, SR.seq, hr]
theorem z_put_es {i : Nat} {fv : List Nat} {kx e : IE} {t q w w' : T} (h : ev C (keepS fv env) e = .ok t) (hi : getS (frS fv env) i = some w) (hk : ev C (frS fv env) kx = .ok q) (hq : own q = true) (hp : putTr w q t = some w') (he : (frS fv env).set i (some w') = env') (hr : execs C ss env' = r) : execs C (.put i [] kx (.es fv e) :: ss) env = r := by
  have h1 : resS C (frS fv env) i [] = .ok ([], w) := by rw [resS, hi]; rfl
  rw [execs, exec]
  simp only [evL, h, if_pos, VR.go, h1, resGo, hk, hq, modS, hi, nodeAt, hp, putAt, he, SR.seq, hr]
end
/-- the closure as the program begins it -/
def F0 (V : List Str) (P : List (Str × Str)) (a : Str) : List Str := V.filter fun b => decide ((a, b) ∈ P)
theorem foldl_mem {α β : Type} {f g : β → α → β} : ∀ {l : List α} {s : β}, (∀ s, ∀ x ∈ l, f s x = g s x) → l.foldl f s = l.foldl g s
  | [], s, _ => rfl
  | x :: l, s, h => by rw [List.foldl_cons, List.foldl_cons, h s x List.mem_cons_self, foldl_mem fun s y m => h s y (List.mem_cons_of_mem _ m)]
section
variable {T : Tab} (h : ReaTab T) (k : Nat)
include h
theorem reached_ok {V : List Str} (hV : V.Nodup) (hl : V.length ≤ 20) (P : List (Str × Str)) : (mkC T (k + 1)).fn "reached" [.nd .lst false (V.map .str), dtT false P] = .ok (sD true V fun a => lsT (wsh V (F0 V P) a)) := by
  rw [fn_of h.reached]
  let VT : Rb.T := .nd .lst false (V.map .str)
  have hVT : strip VT = VT := by simp [VT, strip, strips_strs]
  have hc : childs VT = .ok (V.map .str) := rfl
  generalize hg : VT = W at hVT hc
  have hg2 : (.nd .lst false (V.map .str) : Rb.T) = W := hg
  rw [hg2]
  refine call_rt (env := [some W, some (dtT false P), none, none, none, none]) rfl (by simp [env0, strips, hVT, strip_dt]) (z_asg_es (t := sD true V fun a => lsT (F0 V P a)) (env' := [some W, some (dtT false P), some (sD true V fun a => lsT (F0 V P a)), none, none, none]) ?_ (by simp [asgT, frS, frSg, hVT, strip_dt]) ?_)
  · show ev _ [some W, some (dtT false P), none, none, none, none] _ = _
    refine ev_dc (ys := V) (f := .str) (fun a => .inr a) (fun a => lsT (F0 V P a)) (evi_seq (t := W) (by simp [ev, getS, hVT]) hc) (by omega) (nodup_inr hV) fun a ha => ?_
    refine ⟨[some W, some (dtT false P), none, none, some (.str a), none], rfl, rfl, by simp [ev, getS, keyO], ?_⟩
    refine ev_lc (ys := V) (f := .str) (fun b => decide ((a, b) ∈ P)) .str (evi_seq (t := W) (by simp [ev, getS, hVT]) hc) (by omega) fun b hb => ?_
    refine ⟨[some W, some (dtT false P), none, none, some (.str a), some (.str b)], rfl, ?_, fun _ => by simp [ev, getS]⟩
    simp [evc, ev, evs, getS, sz2, mkTup, flats, flat, strip_dt, inR_dt]
  · refine z_forI (α := Str) (σ := Str → List Str) (f := .str) (E := fun F => [some W, some (dtT false P), some (sD true V fun a => lsT (F a)), none, none, none]) (fun l F => ∀ y ∈ l, y ∈ V) (fun F m => V.foldl (wshS V m) F) (ys := V) (s := F0 V P) ?_ (fun _ z => z) (fun F m l hI => ?_) fun _ => ?_
    · have := evF_seq (C := mkC T k) (env := [some W, some (dtT false P), some (sD true V fun a => lsT (F0 V P a)), none, none, none]) (fv := [0]) (e := .var 0) (xs := V.map .str) (t := W) (by
        show ev _ [some W, none, none, none, none, none] _ = _
        simp [ev, getS, hVT]) hc
      rw [this]
      simp [frS, frSg, hVT]
    · have hm := hI m List.mem_cons_self
      refine ⟨?_, fun z hz => hI z (List.mem_cons_of_mem _ hz)⟩
      refine ⟨[some W, some (dtT false P), some (sD true V fun a => lsT (F a)), some (.str m), none, none], [some W, some (dtT false P), some (sD true V fun a => lsT ((V.foldl (wshS V m) F) a)), some (.str m), none, none], by simp [asgP], .inl ?_, by simp [kill]⟩
      refine z_forI (α := Str) (σ := Str → List Str) (f := .str) (E := fun F => [some W, some (dtT false P), some (sD true V fun a => lsT (F a)), some (.str m), none, none]) (fun l F => ∀ y ∈ l, y ∈ V) (wshS V m) (ys := V) (s := F) ?_ (fun _ z => z) (fun F a l hI => ?_) fun _ => z_nil
      · have := evF_seq (C := mkC T k) (env := [some W, some (dtT false P), some (sD true V fun a => lsT (F a)), some (.str m), none, none]) (fv := [0]) (e := .var 0) (xs := V.map .str) (t := W) (by
          show ev _ [some W, none, none, none, none, none] _ = _
          simp [ev, getS, hVT]) hc
        rw [this]
        simp [frS, frSg, hVT]
      · have ha := hI a List.mem_cons_self
        refine ⟨?_, fun z hz => hI z (List.mem_cons_of_mem _ hz)⟩
        refine ⟨[some W, some (dtT false P), some (sD true V fun a => lsT (F a)), some (.str m), some (.str a), none], [some W, some (dtT false P), some (sD true V fun x => lsT (wshS V m F a x)), some (.str m), some (.str a), none], by simp [asgP], .inl ?_, by simp [kill]⟩
        have i1 : ∀ x, x ∈ V → ixT (sD false V fun p => strip (lsT (F p))) (.str x) = .ok (.nd .lst false ((F x).map .str)) := fun x hx => by
          rw [ix_sD hx, strip_ls, strip_ls2]
        have ec : ev (mkC T k) [some W, some (dtT false P), some (sD true V fun a => lsT (F a)), some (.str m), some (.str a), none] (.cmp .In (.var 3) (.sub (.var 2) (.var 4))) = .ok (.bl (decide (m ∈ F a))) := by
          simp [ev, getS, strip_sD, i1 a ha, inR_str]
        by_cases z : m ∈ F a
        · rw [decide_eq_true z] at ec
          refine z_if_nx ec (env' := [some W, some (dtT false P), some (sD true V fun x => lsT (wshS V m F a x)), some (.str m), some (.str a), none]) (z_put_rd (t := lsT (V.filter fun e => decide (e ∈ F a) || decide (e ∈ F m))) (q := .str a) ?_ (own_ls _) (by simp [getS]; rfl) (by simp [ev, getS]) rfl (put_sD hV (by omega) ha) ?_ z_nil) z_nil
          · refine ev_lc (ys := V) (f := .str) (fun e => decide (e ∈ F a) || decide (e ∈ F m)) .str (evi_seq (t := W) (by simp [ev, getS, hVT]) hc) (by omega) fun e he => ?_
            refine ⟨[some W, some (dtT false P), some (sD true V fun a => lsT (F a)), some (.str m), some (.str a), some (.str e)], rfl, ?_, fun _ => by simp [ev, getS]⟩
            simp [evc, ev, evb, getS, strip_sD, i1 a ha, i1 m hm, inR_str, boPick]
            by_cases z2 : e ∈ F a <;> simp [z2]
          · simp
            refine congrArg (sD true V) (funext fun x => ?_)
            rw [wshS, if_pos z, upF]
            split <;> rfl
        · rw [decide_eq_false z] at ec
          refine z_if_f ec ?_
          rw [show wshS V m F a = F from by rw [wshS, if_neg z]]
          exact z_nil
    · exact z_ret_mv rfl
end
end Rb
namespace Rb
open PySem
open PySem.Spec
open L2
/-- the pairs of items of the links among some places -/
def prStep (es : List Evt) (ns : List Nat) (P : List (Str × Str)) (pq : Nat × Nat) : List (Str × Str) := if decide (pq.1 ∈ ns) && decide (pq.2 ∈ ns) then addA P (itN es pq.1, itN es pq.2) else P
def prAll (L : Lg) (ns : List Nat) : List (Str × Str) := (lnkS L).foldl (prStep L.es ns) []
theorem mem_prGo {es : List Evt} {ns : List Nat} {x : Str × Str} : ∀ {l : List (Nat × Nat)} {P : List (Str × Str)}, x ∈ l.foldl (prStep es ns) P ↔ x ∈ P ∨ ∃ pq ∈ l, pq.1 ∈ ns ∧ pq.2 ∈ ns ∧ x = (itN es pq.1, itN es pq.2)
  | [], P => by simp
  | pq :: l, P => by
    rw [List.foldl_cons, mem_prGo]
    unfold prStep
    split
    · rename_i z
      simp only [Bool.and_eq_true, decide_eq_true_eq] at z
      rw [mem_addA]
      constructor
      · rintro ((a | a) | ⟨y, b, c⟩)
        · exact .inl a
        · exact .inr ⟨pq, List.mem_cons_self, z.1, z.2, a⟩
        · exact .inr ⟨y, List.mem_cons_of_mem _ b, c⟩
      · rintro (a | ⟨y, b, c⟩)
        · exact .inl (.inl a)
        · rcases List.mem_cons.mp b with rfl | b
          · exact .inl (.inr c.2.2)
          · exact .inr ⟨y, b, c⟩
    · rename_i z
      simp only [Bool.and_eq_true, decide_eq_true_eq] at z
      constructor
      · rintro (a | ⟨y, b, c⟩)
        · exact .inl a
        · exact .inr ⟨y, List.mem_cons_of_mem _ b, c⟩
      · rintro (a | ⟨y, b, c⟩)
        · exact .inl a
        · rcases List.mem_cons.mp b with rfl | b
          · exact absurd ⟨c.1, c.2.1⟩ z
          · exact .inr ⟨y, b, c⟩
theorem mem_prAll {L : Lg} {a b : Str} : (a, b) ∈ prAll L (ansN L.es) ↔ ∃ p q, lnkP stS riS L p q ∧ itN L.es p = a ∧ itN L.es q = b := by
  unfold prAll
  rw [mem_prGo]
  constructor
  · rintro (z | ⟨⟨p, q⟩, h1, h2, h3, h4⟩)
    · cases z
    · cases h4
      exact ⟨p, q, mem_lnkL.mp (mem_srtN.mp h1), rfl, rfl⟩
  · rintro ⟨p, q, h1, rfl, rfl⟩
    have h2 := h1
    obtain ⟨j, d, i1, g1, i2, g2, _, a1, a2, _⟩ := h1
    exact .inr ⟨(p, q), mem_srtN.mpr (mem_lnkL.mpr h2), (List.mem_filter.mp (mem_ansOf.mpr ⟨i1, g1, a1⟩)).1, (List.mem_filter.mp (mem_ansOf.mpr ⟨i2, g2, a2⟩)).1, rfl⟩
/-- for each item the items to which ways lead from it by some answers alone -/
def btF (L : Lg) (ns : List Nat) : Str → List Str := wsh L.items (F0 L.items (prAll L ns))
/-- for each item the items from which ways lead to it -/
def wtF (L : Lg) (a : Str) : List Str := L.items.filter fun b => decide (a ∈ btF L (ansN L.es) b)
section
variable {T : Tab} (h : LogTab T) (hm : NamTab T) (hr : ReaTab T) (hw : WorTab T) (hk : ChkTab T) (hy : HasTab T) (L : Lg) (k : Nat) (w : Wf L)
include h hm hr w
theorem better_by_ok {ns : List Nat} (hn : ns.Nodup) (hl : ns.length ≤ 120) : (mkC T (k + 9)).fn "better_by" [lgT L, .nd .lst false (ns.map nT)] = .ok (sD true L.items fun a => lsT (btF L ns a)) := by
  rw [fn_of hr.better_by]
  let KT := nD true ns fun _ => .bl true
  have hK : strip KT = nD false ns fun _ => .bl true := by
    show strip (nD true ns _) = _
    rw [strip_nD]; rfl
  have hKe : (nD true ns fun _ => .bl true) = KT := rfl
  generalize KT = KK at hK hKe
  refine call_rt (env := [some (lgT L), some (.nd .lst false (ns.map nT)), none, none, none, none, none, none, none]) rfl (by simp [env0, strips, strip, strips_nT]) (z_asg_es (t := KK) (env' := [some (lgT L), some (.nd .lst false (ns.map nT)), some KK, none, none, none, none, none, none]) ?_ (by simp [asgT, frS, frSg, strip, strips_nT]) (z_asg_rd (t := dtT true []) (env' := [some (lgT L), some (.nd .lst false (ns.map nT)), some KK, some (dtT true []), none, none, none, none, none]) (by simp [ev, dtT]) (by simp [dtT, own, owns]) (by simp [asgT]) ?_))
  · show ev _ [none, some (.nd .lst false (ns.map nT)), none, none, none, none, none, none, none] _ = _
    rw [← hKe]
    refine ev_dc (ys := ns) (f := nT) (fun (p : Nat) => .inl (p : Int)) (fun p => .bl true) (evi_seq (t := .nd .lst false (ns.map nT)) (by simp [ev, getS, strip, strips_nT]) rfl) (by omega) (nodup_inl hn) fun p hp => ?_
    exact ⟨[none, some (.nd .lst false (ns.map nT)), none, none, none, none, some (nT p), none, none], rfl, rfl, by simp [ev, getS, keyO, nT], by simp [ev]⟩
  · refine z_forI (α := Nat × Nat) (σ := List (Str × Str)) (f := enT L.es) (E := fun P => [some (lgT L), some (.nd .lst false (ns.map nT)), some KK, some (dtT true P), none, none, none, none, none]) (fun l P => P.Nodup ∧ P.length + l.length ≤ 13824000) (prStep L.es ns) (ys := lnkS L) (s := []) ?_ ⟨by simp, by have := len_lnkL w; unfold lnkS; rw [len_srtN]; simpa using this⟩ (fun P pq l hI => ?_) fun _ => ?_
    · have := evF_seq (C := mkC T (k + 8)) (env := [some (lgT L), some (.nd .lst false (ns.map nT)), some KK, some (dtT true []), none, none, none, none, none]) (fv := [0]) (e := .call "ends_of" [.var 0]) (xs := (lnkS L).map (enT L.es)) (t := .nd .lst true ((lnkS L).map (enT L.es))) (by
        show ev _ [some (lgT L), none, none, none, none, none, none, none, none] _ = _
        rw [ev_call (ts := [lgT L]) (by simp [evs, ev, getS])]
        simp only [strips, strip_lg]
        exact ends_of_ok h L k w) rfl
      rw [this]
      simp [frS, frSg]
    · obtain ⟨p, q⟩ := pq
      have h1 := hI.2
      simp only [List.length_cons] at h1
      have h2 : (prStep L.es ns P (p, q)).Nodup ∧ (prStep L.es ns P (p, q)).length ≤ P.length + 1 := by
        unfold prStep
        split
        · exact ⟨nodup_addA hI.1, len_addA⟩
        · exact ⟨hI.1, by omega⟩
      refine ⟨?_, h2.1, by omega⟩
      refine ⟨[some (lgT L), some (.nd .lst false (ns.map nT)), some KK, some (dtT true P), some (.str (itN L.es p)), some (.str (itN L.es q)), none, some (nT p), some (nT q)], [some (lgT L), some (.nd .lst false (ns.map nT)), some KK, some (dtT true (prStep L.es ns P (p, q))), some (.str (itN L.es p)), some (.str (itN L.es q)), none, some (nT p), some (nT q)], by rw [strip_enT]; rfl, .inl ?_, by simp [kill]⟩
      have ec : ev (mkC T (k + 8)) [some (lgT L), some (.nd .lst false (ns.map nT)), some KK, some (dtT true P), some (.str (itN L.es p)), some (.str (itN L.es q)), none, some (nT p), some (nT q)] (.bo .And [.cmp .In (.var 7) (.var 2), .cmp .In (.var 8) (.var 2)]) = .ok (.bl (decide (p ∈ ns) && decide (q ∈ ns))) := by
        simp [ev, evb, getS, hK, inR_nD, boPick]
        by_cases z : p ∈ ns <;> simp [z]
      by_cases z : (decide (p ∈ ns) && decide (q ∈ ns)) = true
      · rw [z] at ec
        refine z_if_nx ec (z_put_rd (t := .bl true) (q := .nd .tup false [.str (itN L.es p), .str (itN L.es q)]) (by simp [ev]) rfl (by simp [getS]) (by simp [ev, evs, getS, sz2, mkTup, flats, flat]) (by simp [own, flats, flat]) (put_dt hI.1 (by omega)) ?_ z_nil) z_nil
        simp [prStep, z]
      · have z2 := Bool.eq_false_iff.mpr z
        rw [z2] at ec
        refine z_if_f ec ?_
        rw [prStep, if_neg z]
        exact z_nil
    · refine z_ret_es ?_
      show ev _ [some (lgT L), none, none, some (dtT true (prAll L ns)), none, none, none, none, none] _ = _
      rw [ev_call (ts := [.nd .lst true (L.items.map .str), dtT false (prAll L ns)]) (by simp [evs, ev, getS, att_names h hm, strip_dt])]
      simp only [strips, strip_ls3, strip_dt]
      exact reached_ok hr (k + 7) w.it_nd w.it_len _
include hw in
theorem worse_than_ok : (mkC T (k + 10)).fn "worse_than" [lgT L] = .ok (sD true L.items fun a => lsT (wtF L a)) := by
  rw [fn_of hw.worse_than]
  have e1 := ev_mth h L (k + 9) h.Log_answers rfl (env := [some (lgT L), none, none, none]) (e := .var 0) (es := []) (ts := []) (by simp [ev, getS]) (by simp [ev, evs, getS])
  have e2 : ev (mkC T (k + 9)) [some (lgT L), none, none, none] (.mth (.var 0) "answers" []) = .ok (.nd .lst true ((ansN L.es).map nT)) := by
    rw [e1]; exact answers_ok h L (k + 7) w.es1000
  refine call_rt (env := [some (lgT L), none, none, none]) rfl (by simp [env0, strips]) (z_asg_es (t := sD true L.items fun a => lsT (btF L (ansN L.es) a)) (env' := [some (lgT L), some (sD true L.items fun a => lsT (btF L (ansN L.es) a)), none, none]) ?_ (by simp [asgT, frS, frSg]) (z_ret_es ?_))
  · show ev _ [some (lgT L), none, none, none] _ = _
    rw [ev_call (ts := [lgT L, .nd .lst true ((ansN L.es).map nT)]) (by rw [evs, evs, e2]; simp [evs, ev, getS])]
    simp only [strips, strip_lg, strip, strips_nT]
    exact better_by_ok h hm hr L k w (nodup_ansN _) (Nat.le_trans (len_ansN _) w.es_len)
  · show ev _ [some (lgT L), some (sD true L.items fun a => lsT (btF L (ansN L.es) a)), none, none] _ = _
    have e3 : ∀ x y, ev (mkC T (k + 9)) [some (lgT L), some (sD true L.items fun a => lsT (btF L (ansN L.es) a)), x, y] (.att (.var 0) "item_names") = .ok (.nd .lst true (L.items.map .str)) := fun x y => by simp [ev, getS, att_names h hm]
    refine ev_dc (ys := L.items) (f := .str) (fun a => .inr a) (fun a => lsT (wtF L a)) (evi_seq (e3 _ _) rfl) (by have := w.it_len; omega) (nodup_inr w.it_nd) fun a ha => ?_
    refine ⟨[some (lgT L), some (sD true L.items fun a => lsT (btF L (ansN L.es) a)), some (.str a), none], rfl, rfl, by simp [ev, getS, keyO], ?_⟩
    refine ev_lc (ys := L.items) (f := .str) (fun b => decide (a ∈ btF L (ansN L.es) b)) .str (evi_seq (e3 _ _) rfl) (by have := w.it_len; omega) fun b hb => ?_
    refine ⟨[some (lgT L), some (sD true L.items fun a => lsT (btF L (ansN L.es) a)), some (.str a), some (.str b)], rfl, ?_, fun _ => by simp [ev, getS]⟩
    have i1 : ixT (sD false L.items fun p => strip (lsT (btF L (ansN L.es) p))) (.str b) = .ok (.nd .lst false ((btF L (ansN L.es) b).map .str)) := by
      rw [ix_sD hb, strip_ls, strip_ls2]
    simp [evc, ev, getS, strip_sD, i1, inR_str]
omit hr w in
include hk in
theorem check_items_ok {xs : List Str} (hx : ∀ x ∈ xs, x ∈ L.items) : (mkC T (k + 2)).fn "check_items" [lgT L, .nd .lst false (xs.map .str)] = .ok .non := by
  rw [fn_of hk.check_items]
  refine call_nx (env := [some (lgT L), some (.nd .lst false (xs.map .str)), none]) (env' := [some (lgT L), some (.nd .lst false (xs.map .str)), none]) rfl (by simp [env0, strips, strip_ls2]) ?_
  refine z_forI (α := Str) (σ := Unit) (f := .str) (E := fun _ => [some (lgT L), some (.nd .lst false (xs.map .str)), none]) (fun l _ => ∀ y ∈ l, y ∈ L.items) (fun _ _ => ()) (ys := xs) (s := ()) ?_ hx (fun _ x l hI => ?_) fun _ => z_nil
  · have := evF_seq (C := mkC T (k + 1)) (env := [some (lgT L), some (.nd .lst false (xs.map .str)), none]) (fv := [1]) (e := .var 1) (xs := xs.map .str) (t := .nd .lst false (xs.map .str)) (by
      show ev _ [none, some (.nd .lst false (xs.map .str)), none] _ = _
      simp [ev, getS, strip_ls2]) rfl
    rw [this]
    simp [frS, frSg, strip_ls2]
  · refine ⟨⟨[some (lgT L), some (.nd .lst false (xs.map .str)), some (.str x)], [some (lgT L), some (.nd .lst false (xs.map .str)), some (.str x)], by simp [asgP], .inl (z_if_f ?_ z_nil), by simp [kill]⟩, fun z hz => hI z (List.mem_cons_of_mem _ hz)⟩
    have := hI x List.mem_cons_self
    simp [ev, getS, att_names h hm, inR_str, this]
include hw hk hy in
theorem has_way_ok {a b : Str} (ha : a ∈ L.items) (hb : b ∈ L.items) : (mkC T (k + 11)).fn "has_way" [lgT L, .str a, .str b] = .ok (.bl (decide (a ∈ wtF L b))) := by
  rw [fn_of hy.has_way]
  refine call_rt (env := [some (lgT L), some (.str a), some (.str b)]) rfl (by simp [env0, strips]) (z_exp (t := .non) ?_ (z_ret_rd ?_ rfl))
  · rw [ev_call (ts := [lgT L, .nd .lst true ([a, b].map .str)]) (by simp [evs, ev, getS, sz2])]
    simp only [strips, strip_lg, strip_ls3]
    exact check_items_ok h hm hk L (k + 8) (by simp [ha, hb])
  · have e1 : ev (mkC T (k + 10)) [some (lgT L), some (.str a), some (.str b)] (.call "worse_than" [.var 0]) = .ok (sD true L.items fun a => lsT (wtF L a)) := by
      rw [ev_call (ts := [lgT L]) (by simp [evs, ev, getS])]
      simp only [strips, strip_lg]
      exact worse_than_ok h hm hr hw L k w
    have i1 : ixT (sD true L.items fun p => lsT (wtF L p)) (.str b) = .ok (.nd .lst false ((wtF L b).map .str)) := by
      rw [ix_sD hb, strip_ls]
    have e2 : ev (mkC T (k + 10)) [some (lgT L), some (.str a), some (.str b)] (.sub (.call "worse_than" [.var 0]) (.var 2)) = .ok (.nd .lst false ((wtF L b).map .str)) := by
      rw [ev, e1]
      simp [ev, getS, i1]
    rw [ev, e2]
    simp [ev, getS, inR_str]
end
end Rb
namespace Rb
open PySem
open PySem.Spec
open L2
theorem ev_b1 {C : Calls} {env : Env} {f : B1} {a : IE} {x y : T} (h : ev C env a = .ok x) (g : b1T f x = .ok y) : ev C env (.b1 f a) = .ok y := by rw [ev, h, bnd_ok, g]
theorem ev_cmp {C : Calls} {env : Env} {op : CmpOp} {a b : IE} {x y : T} (h : ev C env a = .ok x) (g : ev C env b = .ok y) : ev C env (.cmp op a b) = cmpT op x y := by rw [ev, h, bnd_ok, g, bnd_ok]
theorem ev_sub {C : Calls} {env : Env} {a b : IE} {x y : T} (h : ev C env a = .ok x) (g : ev C env b = .ok y) : ev C env (.sub a b) = ixT x y := by rw [ev, h, bnd_ok, g, bnd_ok]
theorem ev_bin {C : Calls} {env : Env} {op : Operator} {a b : IE} {x y : T} (h : ev C env a = .ok x) (g : ev C env b = .ok y) : ev C env (.bin op a b) = binT op x y := by rw [ev, h, bnd_ok, g, bnd_ok]
theorem ev_no {C : Calls} {env : Env} {a : IE} {b : Bool} (h : ev C env a = .ok (.bl b)) : ev C env (.no a) = .ok (.bl (!b)) := by rw [ev, h, bnd_ok, truth_bl, bnd_ok]
theorem ev_and {C : Calls} {env : Env} {a b : IE} {x : Bool} {y : T} (h : ev C env a = .ok (.bl x)) (g : x = true → ev C env b = .ok y) (f : x = false → y = .bl false) : ev C env (.bo .And [a, b]) = .ok y := by
  rw [ev, evb, h, bnd_ok, truth_bl, bnd_ok, boPick, evb]
  cases x with
  | true => rw [if_pos rfl, g rfl]
  | false => rw [if_neg (by simp), f rfl]
  · simp
theorem ev_or {C : Calls} {env : Env} {a b : IE} {x : Bool} {y : T} (h : ev C env a = .ok (.bl x)) (g : x = false → ev C env b = .ok y) (f : x = true → y = .bl true) : ev C env (.bo .Or [a, b]) = .ok y := by
  rw [ev, evb, h, bnd_ok, truth_bl, bnd_ok, boPick, evb]
  cases x with
  | false => rw [if_neg (by simp), g rfl]
  | true => rw [if_pos rfl, f rfl]
  · simp
def paT (L : Lg) : T := .nd .tup false [.nd .lst false (L.items.map .str), .int L.gr, .nd .lst false (L.js.map jT), .nd .lst false (L.es.map evT)]
@[simp] theorem strip_pa (L : Lg) : strip (paT L) = paT L := by simp [paT, strip, strips, strips_strs, strips_js, strips_evs]
theorem pa_items (L : Lg) : ixT (paT L) (.int 0) = .ok (.nd .lst false (L.items.map .str)) := by
  simp [paT, ixT, atI, ixN, strip, strips_strs]
theorem pa_js (L : Lg) : ixT (paT L) (.int 2) = .ok (.nd .lst false (L.js.map jT)) := by
  simp [paT, ixT, atI, ixN, strip, strips_js]
theorem pa_es (L : Lg) : ixT (paT L) (.int 3) = .ok (.nd .lst false (L.es.map evT)) := by
  simp [paT, ixT, atI, ixN, strip, strips_evs]
theorem mem_cut {α : Type} {xs : List α} {a b : Nat} {x : α} : x ∈ (xs.drop a).take (b - a) ↔ ∃ r, a ≤ r ∧ r < b ∧ xs[r]? = some x := by
  rw [List.mem_iff_getElem?]
  constructor
  · rintro ⟨i, h⟩
    rw [List.getElem?_take] at h
    split at h
    · rw [List.getElem?_drop] at h
      exact ⟨a + i, by omega, by omega, h⟩
    · cases h
  · rintro ⟨r, h1, h2, h3⟩
    refine ⟨r - a, ?_⟩
    rw [List.getElem?_take, if_pos (by omega), List.getElem?_drop]
    have : a + (r - a) = r := by omega
    rw [this]; exact h3
def cutE (es : List Evt) (p q : Nat) : List Evt := (es.drop (min p q)).take (max p q - min p q)
/-- whether two answers are of one stretch, as the law says it -/
def alB (es : List Evt) (p q : Nat) : Bool := match es[p]?, es[q]? with
  | some (.ans j _ _), some (.ans j2 _ _) => decide (j = j2) && decide (((cutE es p q).filter fun e => decide (e = .rst j)).length = 0)
  | _, _ => false
theorem alB_iff {es : List Evt} {p q : Nat} : alB es p q = true ↔ ∃ j, p ∈ ansOf es j ∧ q ∈ ansOf es j ∧ ∀ r ∈ rsts es j, (r < p ↔ r < q) := by
  have key : ∀ {j i1 i2 g1 g2}, es[p]? = some (.ans j i1 g1) → es[q]? = some (.ans j i2 g2) → (((cutE es p q).filter fun e => decide (e = .rst j)).length = 0 ↔ ∀ r ∈ rsts es j, (r < p ↔ r < q)) := by
    intro j i1 i2 g1 g2 h1 h2
    rw [List.length_eq_zero_iff, List.filter_eq_nil_iff]
    simp only [decide_eq_true_eq]
    unfold cutE
    constructor
    · intro hh r hr
      have hr2 := mem_rsts.mp hr
      have n1 : r ≠ p := fun e => by rw [e, h1] at hr2; cases hr2
      have n2 : r ≠ q := fun e => by rw [e, h2] at hr2; cases hr2
      by_cases z : min p q ≤ r ∧ r < max p q
      · exact absurd rfl (hh _ (mem_cut.mpr ⟨r, z.1, z.2, hr2⟩))
      · omega
    · intro hh e he he2
      obtain ⟨r, a, b, c⟩ := mem_cut.mp he
      rw [he2] at c
      have := hh r (mem_rsts.mpr c)
      have n1 : r ≠ p := fun e => by rw [e, h1] at c; cases c
      have n2 : r ≠ q := fun e => by rw [e, h2] at c; cases c
      omega
  constructor
  · intro h
    unfold alB at h
    cases h1 : es[p]? with
    | none => rw [h1] at h; simp at h
    | some e1 =>
      cases h2 : es[q]? with
      | none => rw [h1, h2] at h; simp at h
      | some e2 =>
        rw [h1, h2] at h
        cases e1 with
        | rst j => simp at h
        | ans j i1 g1 =>
          cases e2 with
          | rst j2 => simp at h
          | ans j2 i2 g2 =>
            simp only [Bool.and_eq_true, decide_eq_true_eq] at h
            obtain ⟨rfl, h⟩ := h
            exact ⟨j, mem_ansOf.mpr ⟨i1, g1, h1⟩, mem_ansOf.mpr ⟨i2, g2, h2⟩, (key h1 h2).mp h⟩
  · rintro ⟨j, h1, h2, h3⟩
    obtain ⟨i1, g1, h1⟩ := mem_ansOf.mp h1
    obtain ⟨i2, g2, h2⟩ := mem_ansOf.mp h2
    unfold alB
    rw [h1, h2]
    simp only [decide_true, Bool.true_and, decide_eq_true_eq]
    exact (key h1 h2).mpr h3
def judN (es : List Evt) (p : Nat) : Str := ((es[p]?).map judE).getD ""
/-- whether two answers are of one stretch and in order, as the law says it -/
def orB (L : Lg) (p q : Nat) : Bool := alB L.es p q && (let d := (drfO L (judN L.es p)).getD ""; decide (d = "stays") || (decide (d = "rises") && decide (p ≤ q)) || (decide (d = "falls") && decide (q ≤ p)))
/-- the drifts are drifts -/
def WfD (L : Lg) : Prop := ∀ j d, (j, d) ∈ L.js → d = "rises" ∨ d = "falls" ∨ d = "stays"
def lkL (L : Lg) : List (Nat × Nat) := (List.range L.es.length).flatMap fun p => ((List.range L.es.length).filter fun q => orB L p q && decide (grdN L.es p < grdN L.es q)).map fun q => (p, q)
theorem mem_lkL {L : Lg} (w : Wf L) (wd : WfD L) {p q : Nat} : (p, q) ∈ lkL L ↔ lnkP stS riS L p q := by
  have e0 : (p, q) ∈ lkL L ↔ p < L.es.length ∧ q < L.es.length ∧ orB L p q = true ∧ grdN L.es p < grdN L.es q := by
    unfold lkL
    simp only [List.mem_flatMap, List.mem_map, List.mem_filter, List.mem_range, Bool.and_eq_true, decide_eq_true_eq, Prod.mk.injEq]
    exact ⟨fun ⟨a, ha, b, ⟨hb, h1⟩, e1, e2⟩ => by subst e1; subst e2; exact ⟨ha, hb, h1.1, h1.2⟩, fun ⟨a, b, c, d⟩ => ⟨p, a, q, ⟨b, c, d⟩, rfl, rfl⟩⟩
  have hs : ("stays" : Str) ≠ "rises" := by decide
  have hf : ("stays" : Str) ≠ "falls" := by decide
  have hrf : ("rises" : Str) ≠ "falls" := by decide
  have dr : ∀ {d : Str}, (d = "rises" ∨ d = "falls" ∨ d = "stays") → p ≠ q → ((decide (d = "stays") || (decide (d = "rises") && decide (p ≤ q)) || (decide (d = "falls") && decide (q ≤ p))) = ordB stS riS d p q) := by
    intro d hd hpq
    unfold ordB stS riS
    rcases hd with rfl | rfl | rfl
    · rw [decide_eq_false hs.symm, decide_eq_true rfl, decide_eq_false hrf, show decide (p ≤ q) = decide (p < q) from by rw [Bool.eq_iff_iff, decide_eq_true_eq, decide_eq_true_eq]; omega]
      cases decide (p < q) <;> rfl
    · rw [decide_eq_false hf.symm, decide_eq_false hrf.symm, decide_eq_true rfl, show decide (q ≤ p) = !decide (p < q) from by rw [Bool.eq_iff_iff, decide_eq_true_eq, Bool.not_eq_true', decide_eq_false_iff_not]; omega]
      cases decide (p < q) <;> rfl
    · rw [decide_eq_true rfl]
      rfl
  rw [e0]
  unfold lnkP
  constructor
  · rintro ⟨h1, h2, h3, h4⟩
    unfold orB at h3
    rw [Bool.and_eq_true] at h3
    obtain ⟨h3, h5⟩ := h3
    obtain ⟨j, a, b, c⟩ := alB_iff.mp h3
    obtain ⟨i1, g1, a1⟩ := mem_ansOf.mp a
    obtain ⟨i2, g2, a2⟩ := mem_ansOf.mp b
    obtain ⟨⟨d, hd⟩, _⟩ := w.ok p j i1 g1 a1
    have hj : judN L.es p = j := by simp [judN, a1, judE]
    rw [hj, w.drf hd] at h5
    have hg : grdN L.es p = g1 := by simp [grdN, a1, grdE]
    have hg2 : grdN L.es q = g2 := by simp [grdN, a2, grdE]
    have hpq : p ≠ q := by rintro rfl; omega
    refine ⟨j, d, i1, g1, i2, g2, hd, a1, a2, c, by omega, ?_⟩
    rw [← dr (wd _ _ hd) hpq]; exact h5
  · rintro ⟨j, d, i1, g1, i2, g2, hd, a1, a2, c, h4, h5⟩
    have hj : judN L.es p = j := by simp [judN, a1, judE]
    have hg : grdN L.es p = g1 := by simp [grdN, a1, grdE]
    have hg2 : grdN L.es q = g2 := by simp [grdN, a2, grdE]
    have hpq : p ≠ q := by rintro rfl; omega
    refine ⟨(List.getElem?_eq_some_iff.mp a1).1, (List.getElem?_eq_some_iff.mp a2).1, ?_, by omega⟩
    unfold orB
    rw [Bool.and_eq_true]
    refine ⟨alB_iff.mpr ⟨j, mem_ansOf.mpr ⟨_, _, a1⟩, mem_ansOf.mpr ⟨_, _, a2⟩, c⟩, ?_⟩
    rw [hj, w.drf hd, ← dr (wd _ _ hd) hpq] at *
    exact h5
/-- a link with its items, as the law keeps it -/
def lkT (es : List Evt) (p : Nat × Nat) : T := .nd .tup false [nT p.1, nT p.2, .str (itN es p.1), .str (itN es p.2)]
theorem len_evT (e : Evt) : b1T .len (evT e) = .ok (.int (if isA e then 4 else 2)) := by cases e <;> simp [evT, isA]
theorem ev_grade {j i : Str} {g : Int} : ixT (evT (.ans j i g)) (.int 3) = .ok (.int g) := by simp [evT, ixT, atI, ixN]
theorem ev_item {j i : Str} {g : Int} : ixT (evT (.ans j i g)) (.int 2) = .ok (.str i) := by simp [evT, ixT, atI, ixN]
theorem slT_evs (o : Bool) {es : List Evt} {a b : Nat} (ha : a ≤ es.length) (hb : b ≤ es.length) : slT (.nd .lst o (es.map evT)) (some (a : Int)) (some (b : Int)) = .ok (.nd .lst true (((es.drop a).take (b - a)).map evT)) := by
  rw [slT, cutT, HT.sIx_nat, HT.sIx_nat, List.length_map, Nat.min_eq_left ha, Nat.min_eq_left hb, ← List.map_drop, ← List.map_take, strips_evs]
section
variable {T : Tab} (h : LnkTab T) (L : Lg) (k : Nat)
include h
theorem alike_ok {p q : Nat} (hp : p < L.es.length) (hq : q < L.es.length) (hz : L.es.length ≤ 1000) : (mkC T (k + 1)).fn "_law_alike" [.nd .lst false (L.es.map evT), nT p, nT q] = .ok (.bl (alB L.es p q)) := by
  rw [fn_of h._law_alike]
  obtain ⟨e1, h1⟩ : ∃ e, L.es[p]? = some e := ⟨_, List.getElem?_eq_getElem hp⟩
  obtain ⟨e2, h2⟩ : ∃ e, L.es[q]? = some e := ⟨_, List.getElem?_eq_getElem hq⟩
  have i1 := ix_ev false h1
  have i2 := ix_ev false h2
  have hE : strip (.nd .lst false (L.es.map evT)) = .nd .lst false (L.es.map evT) := by simp [strip, strips_evs]
  have ec : ev (mkC T k) [some (.nd .lst false (L.es.map evT)), some (nT p), some (nT q), none, none] (.bo .Or [.cmp .Eq (.b1 .len (.sub (.var 0) (.var 1))) (.lit (.int 2)), .cmp .Eq (.b1 .len (.sub (.var 0) (.var 2))) (.lit (.int 2)), .cmp .NotEq (.sub (.sub (.var 0) (.var 1)) (.lit (.int 1))) (.sub (.sub (.var 0) (.var 2)) (.lit (.int 1)))]) = .ok (.bl (!isA e1 || (!isA e2 || !(judE e1 == judE e2)))) := by
    simp only [ev, evb, getS, List.getElem?_cons_zero, List.getElem?_cons_succ, optR_some, hE, strip_nT, bind_ok, i1, i2, len_evT, cmp_eq, cmp_ne, eqr_i, eqr_s, truth_bl, boPick, ev_judge]
    cases isA e1 <;> cases isA e2 <;> rfl
  refine call_rt (env := [some (.nd .lst false (L.es.map evT)), some (nT p), some (nT q), none, none]) rfl (by simp [env0, strips, hE]) ?_
  by_cases z : (!isA e1 || (!isA e2 || !(judE e1 == judE e2))) = true
  · rw [z] at ec
    refine z_if_rt ec (z_ret_rd (by
      rw [ev]
      have : alB L.es p q = false := by
        unfold alB
        rw [h1, h2]
        cases e1 <;> cases e2 <;> simp [isA, judE] at z ⊢
        exact fun e => absurd e z
      rw [this]) rfl)
  · rw [Bool.eq_false_iff.mpr z] at ec
    refine z_if_f ec ?_
    cases e1 with
    | rst j => exact absurd rfl z
    | ans j i1' g1 =>
      cases e2 with
      | rst j2 => exact absurd rfl z
      | ans j2 i2' g2 =>
        have hj : j = j2 := by simpa [isA, judE] using z
        subst hj
        have hb : ∀ (mx : Bool), b2T mx (nT p) (nT q) = .ok (nT (if mx then max p q else min p q)) := by
          intro mx
          cases mx
          · simp only [b2T, nT]
            congr 2
            simp only [Bool.false_eq_true, if_false]
            by_cases c : (q : Int) < p
            · rw [if_pos c]; omega
            · rw [if_neg c]; omega
          · simp only [b2T, nT]
            congr 2
            simp only [if_true]
            by_cases c : (q : Int) > p
            · rw [if_pos c]; omega
            · rw [if_neg c]; omega
        refine z_asg_es (t := .nd .lst true ((cutE L.es p q).map evT)) (env' := [some (.nd .lst false (L.es.map evT)), some (nT p), some (nT q), some (.nd .lst true ((cutE L.es p q).map evT)), none]) ?_ (by simp [asgT, frS, frSg, hE]) (z_ret_rd ?_ rfl)
        · show ev _ [some (.nd .lst false (L.es.map evT)), some (nT p), some (nT q), none, none] _ = _
          have := slT_evs false (es := L.es) (a := min p q) (b := max p q) (by omega) (by omega)
          simp only [ev, evo, getS, List.getElem?_cons_zero, List.getElem?_cons_succ, optR_some, hE, strip_nT, bind_ok, hb]
          simp only [nT, intT_int, bind_ok, if_true, Bool.false_eq_true, if_false]
          rw [this]
          rfl
        · have el : ev (mkC T k) [some (.nd .lst false (L.es.map evT)), some (nT p), some (nT q), some (.nd .lst true ((cutE L.es p q).map evT)), none] (.lc (.var 4) (.nm 4) (.seq (.var 3)) [.cmp .Eq (.var 4) (.tup [.lit (.str "reset"), .sub (.sub (.var 0) (.var 1)) (.lit (.int 1))])]) = .ok (.nd .lst true (((cutE L.es p q).filter fun e => decide (e = .rst j)).map evT)) := by
            refine ev_lc (ys := cutE L.es p q) (f := evT) (fun e => decide (e = .rst j)) evT (evi_seq (t := .nd .lst false ((cutE L.es p q).map evT)) (by simp [ev, getS, strip, strips_evs]) rfl) (by
              unfold cutE
              rw [List.length_take, List.length_drop]
              omega) fun e he => ?_
            refine ⟨[some (.nd .lst false (L.es.map evT)), some (nT p), some (nT q), some (.nd .lst true ((cutE L.es p q).map evT)), some (evT e)], rfl, ?_, fun _ => by simp [ev, getS, strip_evT]⟩
            simp only [evc, ev, evs, getS, List.getElem?_cons_zero, List.getElem?_cons_succ, optR_some, hE, strip_nT, bind_ok, i1, ev_judge, strip_evT, List.length_cons, List.length_nil, sz2, if_true, cmp_eq, judE]
            rw [mkTup2 _ _ ⟨rfl, rfl⟩, if_pos sz2, bind_ok, eqR_rst]
            rfl
          rw [ev_cmp (y := .int 0) (ev_b1 el (len_lst _ _)) (by rw [ev]), cmp_eq, eqr_i, bnd_ok, List.length_map]
          have : alB L.es p q = decide (((cutE L.es p q).filter fun e => decide (e = .rst j)).length = 0) := by
            unfold alB
            rw [h1, h2]
            simp
          rw [this]
          congr 2
          rw [Bool.eq_iff_iff]
          simp only [beq_iff_eq, decide_eq_true_eq]
          omega
end
end Rb
namespace Rb
open PySem
open PySem.Spec
open L2
theorem jT_0 (p : Str × Str) : ixT (jT p) (.int 0) = .ok (.str p.1) := by simp [jT, ixT, atI, ixN]
theorem jT_1 (p : Str × Str) : ixT (jT p) (.int 1) = .ok (.str p.2) := by simp [jT, ixT, atI, ixN]
section
variable {T : Tab} (h : LnkTab T) (L : Lg) (k : Nat) (w : Wf L)
include h w
theorem ordered_ok {p q : Nat} (hp : p < L.es.length) (hq : q < L.es.length) : (mkC T (k + 2)).fn "_law_ordered" [paT L, nT p, nT q] = .ok (.bl (orB L p q)) := by
  rw [fn_of h._law_ordered]
  have eE : ∀ a b c d, ev (mkC T (k + 1)) [some (paT L), a, b, c, d] (.sub (.var 0) (.lit (.int 3))) = .ok (.nd .lst false (L.es.map evT)) := fun a b c d => by simp [ev, getS, pa_es]
  have eA : ev (mkC T (k + 1)) [some (paT L), some (nT p), some (nT q), none, none] (.call "_law_alike" [.sub (.var 0) (.lit (.int 3)), .var 1, .var 2]) = .ok (.bl (alB L.es p q)) := by
    rw [ev_call (ts := [.nd .lst false (L.es.map evT), nT p, nT q]) (by rw [evs, eE]; simp [evs, ev, getS])]
    simp only [strips, strip_nT, strip, strips_evs]
    exact alike_ok h L k hp hq w.es1000
  refine call_rt (env := [some (paT L), some (nT p), some (nT q), none, none]) rfl (by simp [env0, strips]) ?_
  by_cases z : alB L.es p q = true
  · rw [z] at eA
    refine z_if_f (ev_no eA) ?_
    obtain ⟨j, a, b, c⟩ := alB_iff.mp z
    obtain ⟨i1, g1, h1⟩ := mem_ansOf.mp a
    obtain ⟨⟨d, hd⟩, _⟩ := w.ok p j i1 g1 h1
    have hj : judN L.es p = j := by simp [judN, h1, judE]
    have hdr := w.drf hd
    have hfd := find_of w.js_nd hd
    refine z_asg_es (t := .str d) (env' := [some (paT L), some (nT p), some (nT q), some (.str d), none]) ?_ (by simp [asgT, frS, frSg]) (z_ret_rd ?_ rfl)
    · show ev _ [some (paT L), some (nT p), none, none, none] _ = _
      have el : ev (mkC T (k + 1)) [some (paT L), some (nT p), none, none, none] (.lc (.sub (.var 4) (.lit (.int 1))) (.nm 4) (.seq (.sub (.var 0) (.lit (.int 2)))) [.cmp .Eq (.sub (.var 4) (.lit (.int 0))) (.sub (.sub (.sub (.var 0) (.lit (.int 3))) (.var 1)) (.lit (.int 1)))]) = .ok (.nd .lst true ((L.js.filter fun x => decide (x.1 = j)).map fun x => .str x.2)) := by
        refine ev_lc (ys := L.js) (f := jT) (fun x => decide (x.1 = j)) (fun x => .str x.2) (evi_seq (t := .nd .lst false (L.js.map jT)) (by simp [ev, getS, pa_js]) rfl) (by have := w.js_len; omega) fun x hx => ?_
        refine ⟨[some (paT L), some (nT p), none, none, some (jT x)], rfl, ?_, fun _ => by simp [ev, getS, strip_jT, jT_1]⟩
        have i1 := ix_ev false h1
        simp [evc, ev, getS, strip_jT, jT_0, pa_es, i1, judE, beq_dec]
      rw [ev_sub el (by rw [ev])]
      have hh : ((L.js.filter fun x => decide (x.1 = j)).map fun x => Rb.T.str x.2)[0]? = some (.str d) := by
        rw [List.getElem?_map, ← List.head?_eq_getElem?, List.head?_filter, hfd]
        rfl
      exact ix_nat true (p := 0) hh
    · unfold orB
      rw [z, hj, hdr]
      have c1 : cmpT .LtE (nT p) (nT q) = .ok (.bl (decide (p ≤ q))) := by simp [nT]
      have c2 : cmpT .GtE (nT p) (nT q) = .ok (.bl (decide (q ≤ p))) := by simp [nT]
      simp only [ev, evb, getS, List.getElem?_cons_zero, List.getElem?_cons_succ, optR_some, strip_nT, strip_str, bind_ok, cmp_eq, eqr_s, truth_bl, boPick, c1, c2, beq_dec, Bool.true_and, Option.getD_some]
      cases decide (d = "stays") <;> cases decide (d = "rises") <;> cases decide (d = "falls") <;> cases decide (p ≤ q) <;> cases decide (q ≤ p) <;> rfl
  · have z2 := Bool.eq_false_iff.mpr z
    rw [z2] at eA
    refine z_if_rt (ev_no eA) (z_ret_rd ?_ rfl)
    unfold orB
    rw [z2, ev]
    rfl
theorem law_links_ok : (mkC T (k + 3)).fn "_law_links" [paT L] = .ok (.nd .lst true ((lkL L).map (lkT L.es))) := by
  rw [fn_of h._law_links]
  have hE : strip (.nd .lst false (L.es.map evT)) = .nd .lst false (L.es.map evT) := by simp [strip, strips_evs]
  have hEg : ∃ W : Rb.T, W = .nd .lst false (L.es.map evT) := ⟨_, rfl⟩
  obtain ⟨W, hW⟩ := hEg
  have hsW : strip W = W := by rw [hW, hE]
  have hlW : b1T .len W = .ok (.int L.es.length) := by rw [hW, len_lst, List.length_map]
  have hz := w.es_len
  refine call_rt (env := [some (paT L), none, none, none, none]) rfl (by simp [env0, strips]) (z_asg_rd (t := .nd .lst true []) (env' := [some (paT L), some (.nd .lst true []), none, none, none]) (by simp [ev, evs, sz0]) (by simp [own, owns]) (by simp [asgT]) (z_asg_es (t := W) (env' := [some (paT L), some (.nd .lst true []), some W, none, none]) ?_ (by simp [asgT, frS, frSg]) ?_))
  · show ev _ [some (paT L), none, none, none, none] _ = _
    simp [ev, getS, pa_es, hW]
  · refine z_forI (α := Nat) (σ := List (Nat × Nat)) (f := nT) (E := fun fd => [some (paT L), some (.nd .lst true (fd.map (lkT L.es))), some W, none, none]) (fun l fd => fd.length + l.length * 120 ≤ 14400 ∧ ∀ y ∈ l, y ∈ List.range L.es.length) (fun fd p => fd ++ ((List.range L.es.length).filter fun q => orB L p q && decide (grdN L.es p < grdN L.es q)).map fun q => (p, q)) (ys := List.range L.es.length) (s := []) (evF_rng (by simp [ev, getS, hsW, hlW]) (by omega)) ⟨by simp; omega, fun _ z => z⟩ (fun fd p l hI => ?_) fun _ => ?_
    · have hp := hI.2 p List.mem_cons_self
      have h1 := hI.1
      have hf := List.length_filter_le (fun q => orB L p q && decide (grdN L.es p < grdN L.es q)) (List.range L.es.length)
      rw [List.length_range] at hf
      simp only [List.length_cons] at h1
      refine ⟨?_, by simp only [List.length_append, List.length_map]; omega, fun z hz => hI.2 z (List.mem_cons_of_mem _ hz)⟩
      refine ⟨[some (paT L), some (.nd .lst true (fd.map (lkT L.es))), some W, some (nT p), none], [some (paT L), some (.nd .lst true ((fd ++ ((List.range L.es.length).filter fun q => orB L p q && decide (grdN L.es p < grdN L.es q)).map fun q => (p, q)).map (lkT L.es))), some W, some (nT p), none], by simp [asgP], .inl ?_, by simp [kill]⟩
      rw [← foldl_ap]
      refine z_forI (α := Nat) (σ := List (Nat × Nat)) (f := nT) (E := fun fd => [some (paT L), some (.nd .lst true (fd.map (lkT L.es))), some W, some (nT p), none]) (fun l fd => fd.length + l.length ≤ 14400 ∧ ∀ y ∈ l, y ∈ List.range L.es.length) (fun fd q => if orB L p q && decide (grdN L.es p < grdN L.es q) then fd ++ [(p, q)] else fd) (ys := List.range L.es.length) (s := fd) (evF_rng (by simp [ev, getS, hsW, hlW]) (by omega)) ⟨by rw [List.length_range]; omega, fun _ z => z⟩ (fun fd q l hI => ?_) fun _ => z_nil
      have hq := hI.2 q List.mem_cons_self
      have h2 := hI.1
      simp only [List.length_cons] at h2
      refine ⟨?_, by split <;> (try simp) <;> omega, fun z hz => hI.2 z (List.mem_cons_of_mem _ hz)⟩
      refine ⟨[some (paT L), some (.nd .lst true (fd.map (lkT L.es))), some W, some (nT p), some (nT q)], [some (paT L), some (.nd .lst true ((if orB L p q && decide (grdN L.es p < grdN L.es q) then fd ++ [(p, q)] else fd).map (lkT L.es))), some W, some (nT p), some (nT q)], by simp [asgP], .inl ?_, by simp [kill]⟩
      have eo : ev (mkC T (k + 2)) [some (paT L), some (.nd .lst true (fd.map (lkT L.es))), some W, some (nT p), some (nT q)] (.call "_law_ordered" [.var 0, .var 3, .var 4]) = .ok (.bl (orB L p q)) := by
        rw [ev_call (ts := [paT L, nT p, nT q]) (by simp [evs, ev, getS])]
        simp only [strips, strip_nT, strip_pa]
        exact ordered_ok h L k w (List.mem_range.mp hp) (List.mem_range.mp hq)
      have dat : orB L p q = true → ∃ j i1 g1 i2 g2, L.es[p]? = some (.ans j i1 g1) ∧ L.es[q]? = some (.ans j i2 g2) := fun z => by
        unfold orB at z
        rw [Bool.and_eq_true] at z
        obtain ⟨j, a, b, c⟩ := alB_iff.mp z.1
        obtain ⟨i1, g1, a⟩ := mem_ansOf.mp a
        obtain ⟨i2, g2, b⟩ := mem_ansOf.mp b
        exact ⟨j, i1, g1, i2, g2, a, b⟩
      have ec : ev (mkC T (k + 2)) [some (paT L), some (.nd .lst true (fd.map (lkT L.es))), some W, some (nT p), some (nT q)] (.bo .And [.call "_law_ordered" [.var 0, .var 3, .var 4], .cmp .Lt (.sub (.sub (.var 2) (.var 3)) (.lit (.int 3))) (.sub (.sub (.var 2) (.var 4)) (.lit (.int 3)))]) = .ok (.bl (orB L p q && decide (grdN L.es p < grdN L.es q))) := by
        refine ev_and eo (fun z => ?_) (fun z => by rw [z]; rfl)
        obtain ⟨j, i1, g1, i2, g2, a, b⟩ := dat z
        have x1 := ix_ev false a
        have x2 := ix_ev false b
        rw [← hW] at x1 x2
        have g1' : grdN L.es p = g1 := by simp [grdN, a, grdE]
        have g2' : grdN L.es q = g2 := by simp [grdN, b, grdE]
        simp [ev, getS, hsW, x1, x2, ev_grade, z, g1', g2']
      by_cases z : (orB L p q && decide (grdN L.es p < grdN L.es q)) = true
      · rw [z] at ec
        refine z_if_nx ec (env' := [some (paT L), some (.nd .lst true ((fd ++ [(p, q)]).map (lkT L.es))), some W, some (nT p), some (nT q)]) (z_app (xs := fd.map (lkT L.es)) (t := lkT L.es (p, q)) (by simp [getS]) ?_ (by simp [getS, frS, frSg]) ?_ ?_ z_nil) ?_
        · show ev _ [none, none, some W, some (nT p), some (nT q)] _ = _
          rw [Bool.and_eq_true] at z
          obtain ⟨j, i1, g1, i2, g2, a, b⟩ := dat z.1
          have x1 := ix_ev false a
          have x2 := ix_ev false b
          rw [← hW] at x1 x2
          have g1' : itN L.es p = i1 := by simp [itN, itmN, a, itmE]
          have g2' : itN L.es q = i2 := by simp [itN, itmN, b, itmE]
          simp [ev, evs, getS, hsW, x1, x2, ev_item, sz4, mkTup, flats, flat_nT, flat, lkT, g1', g2']
        · rw [sizeLine_eq, List.length_map]; omega
        · simp [frS, frSg, hsW]
        · rw [if_pos z]; exact z_nil
      · have z2 := Bool.eq_false_iff.mpr z
        rw [z2] at ec
        refine z_if_f ec ?_
        rw [if_neg z]
        exact z_nil
    · rw [foldl_fm]
      exact z_ret_mv (by simp [getS, lkL])
end
/-- the items of a link -/
def pairE (es : List Evt) (p : Nat × Nat) : Str × Str := (itN es p.1, itN es p.2)
theorem addA_fold (w : Str) : ∀ (l : List Str) (F : Str → List Str), l.foldl (fun F x => upF F w (addA (F w) x)) F = upF F w (l.foldl addA (F w))
  | [], F => by funext x; simp [upF]; intro e; rw [e]
  | x :: l, F => by
    rw [List.foldl_cons, addA_fold w l, List.foldl_cons, upF_same]
    funext y
    unfold upF
    by_cases e : y = w <;> simp [e]
/-- lists of items without repeats -/
def Nd (V : List Str) (F : Str → List Str) : Prop := ∀ a, (F a).Nodup ∧ ∀ x ∈ F a, x ∈ V
theorem Nd.len {V : List Str} {F : Str → List Str} (h : Nd V F) (a : Str) : (F a).length ≤ V.length := nodup_len (h a).1 (h a).2
theorem Nd.up {V : List Str} {F : Str → List Str} (h : Nd V F) {w x : Str} (hx : x ∈ V) : Nd V (upF F w (addA (F w) x)) := fun a => by
  by_cases e : a = w
  · subst e
    rw [upF_same]
    exact ⟨nodup_addA (h a).1, fun y hy => (mem_addA.mp hy).elim (fun q => (h a).2 y q) fun q => q ▸ hx⟩
  · rw [upF_ne _ _ e]
    exact h a
theorem Nd.fold {V : List Str} {w : Str} : ∀ {l : List Str} {F : Str → List Str}, Nd V F → (∀ x ∈ l, x ∈ V) → Nd V (l.foldl (fun F x => upF F w (addA (F w) x)) F)
  | [], F, h, _ => h
  | x :: l, F, h, g => by
    rw [List.foldl_cons]
    exact Nd.fold (h.up (g x List.mem_cons_self)) fun y m => g y (List.mem_cons_of_mem _ m)
theorem Nd.stp {V : List Str} {F : Str → List Str} (h : Nd V F) {e : Str × Str} (he : e.2 ∈ V) : Nd V (stpB F e) := by
  unfold stpB
  rw [← addA_fold]
  exact h.fold fun x m => (List.mem_cons.mp m).elim (fun z => z ▸ he) fun z => (h e.2).2 x z
theorem Nd.rnd {V : List Str} : ∀ {es : List (Str × Str)} {F : Str → List Str}, Nd V F → (∀ e ∈ es, e.2 ∈ V) → Nd V (rndB es F)
  | [], F, h, _ => h
  | e :: es, F, h, g => Nd.rnd (es := es) (F := stpB F e) (h.stp (g e List.mem_cons_self)) fun y m => g y (List.mem_cons_of_mem _ m)
theorem bin_ls {o o' : Bool} {xs ys : List Str} (h : xs.length + ys.length ≤ 1000) : binT .Add (.nd .lst o (xs.map .str)) (.nd .lst o' (ys.map .str)) = .ok (.nd .lst true ((xs ++ ys).map .str)) := by
  have h2 : (xs.map T.str).length + (ys.map T.str).length ≤ sizeLine := by
    rw [sizeLine_eq, List.length_map, List.length_map]
    omega
  rw [binT, if_pos h2, strips_strs, strips_strs, List.map_append]
theorem strip_lkT (es : List Evt) (p : Nat × Nat) : strip (lkT es p) = lkT es p := by simp [strip, strips, lkT]
theorem strips_lkT (es : List Evt) : ∀ l : List (Nat × Nat), strips (l.map (lkT es)) = l.map (lkT es)
  | [] => rfl
  | e :: l => by simp [strips, strip_lkT, strips_lkT es l]
theorem z_dk0 {C : Calls} {env env' : Env} {ss : List IS} {r : SR} {i : Nat} (he : env.set i (some (sD true [] fun _ => .non)) = env') (hr : execs C ss env' = r) : execs C (.asg (.nm i) (.rd .dk0) :: ss) env = r :=
  z_asg_rd (t := sD true [] fun _ => .non) (by rw [ev]; rfl) (by simp [sD, own, owns]) (by rw [asgT, he]) hr
theorem sD_nil (f g : Str → T) : sD true [] f = sD true [] g := rfl
theorem foldl_id {α β : Type} (g : β → β) : ∀ (l : List α) (s : β), l.foldl (fun s _ => g s) s = (List.range l.length).foldl (fun s _ => g s) s
  | [], s => rfl
  | x :: l, s => by
    rw [List.foldl_cons, foldl_id g l, List.length_cons, List.range_succ_eq_map, List.foldl_cons, List.foldl_map]
section
variable {T : Tab} (h : BetTab T) (k : Nat) {V : List Str} (hV : V.Nodup) (hl : V.length ≤ 20)
include h hV hl
theorem law_better_ok {es : List Evt} {lk : List (Nat × Nat)} (hk : ∀ e ∈ lk, itN es e.1 ∈ V ∧ itN es e.2 ∈ V) : (mkC T (k + 1)).fn "_law_better" [.nd .lst false (V.map .str), .nd .lst false (lk.map (lkT es))] = .ok (sD true V fun a => lsT (betB (lk.map (pairE es)) (V.length + 1) a)) := by
  rw [fn_of h._law_better]
  obtain ⟨W, hW⟩ : ∃ W : Rb.T, W = .nd .lst false (V.map .str) := ⟨_, rfl⟩
  obtain ⟨U, hU⟩ : ∃ U : Rb.T, U = .nd .lst false (lk.map (lkT es)) := ⟨_, rfl⟩
  have hsW : strip W = W := by rw [hW, strip_ls2]
  have hsU : strip U = U := by rw [hU]; simp [strip, strips_lkT]
  have hlW : b1T .len W = .ok (.int V.length) := by rw [hW, len_lst, List.length_map]
  have hcW : childs W = .ok (V.map .str) := by rw [hW]; rfl
  have hcU : childs U = .ok (lk.map (lkT es)) := by rw [hU]; rfl
  rw [← hW, ← hU]
  refine call_rt (env := [some W, some U, none, none, none, none, none, none, none]) rfl (by simp [env0, strips, hsW, hsU]) (z_dk0 (env' := [some W, some U, some (sD true [] fun _ => .non), none, none, none, none, none, none]) (by simp) ?_)
  rw [sD_nil _ fun _ => lsT []]
  refine z_forI (α := Str) (σ := List Str) (f := .str) (E := fun D => [some W, some U, some (sD true D fun _ => lsT []), none, none, none, none, none, none]) (fun l D => D ++ l = V) (fun D x => D ++ [x]) (ys := V) (s := []) ?_ rfl (fun D x l hI => ?_) fun hD => ?_
  · have := evF_seq (C := mkC T k) (env := [some W, some U, some (sD true [] fun _ => lsT []), none, none, none, none, none, none]) (fv := [0]) (e := .var 0) (xs := V.map .str) (t := W) (by
      show ev _ [some W, none, none, none, none, none, none, none, none] _ = _
      simp [ev, getS, hsW]) hcW
    rw [this]
    simp [frS, frSg, hsW]
  · refine ⟨?_, by rw [← hI]; simp⟩
    have hx : x ∉ D := by
      rw [← hI, List.nodup_append] at hV
      exact fun m => hV.2.2 _ m _ List.mem_cons_self rfl
    have hDl : D.length ≤ 1000000 := by
      have := congrArg List.length hI
      rw [List.length_append] at this
      omega
    refine ⟨[some W, some U, some (sD true D fun _ => lsT []), some (.str x), none, none, none, none, none], [some W, some U, some (sD true (D ++ [x]) fun _ => lsT []), some (.str x), none, none, none, none, none], by simp [asgP], .inl ?_, by simp [kill]⟩
    exact z_put_rd (t := lsT []) (q := .str x) (by simp [ev, evs, sz0, lsT]) (own_ls _) (by simp [getS]) (by simp [ev, getS]) rfl (put_new (val := fun _ => lsT []) hDl hx) (by simp) z_nil
  · rw [List.append_nil] at hD
    rw [hD]
    let E : (Str → List Str) → Env := fun F => [some W, some U, some (sD true V fun a => lsT (F a)), none, none, none, none, none, none]
    refine z_forI (α := Nat) (σ := Str → List Str) (f := nT) (E := fun F => [some W, some U, some (sD true V fun a => lsT (F a)), none, none, none, none, none, none]) (fun l F => Nd V F) (fun F _ => rndB (lk.map (pairE es)) F) (ys := List.range (V.length + 1)) (s := fun _ => []) ?_ (fun a => ⟨List.nodup_nil, fun x m => by cases m⟩) (fun F m l hI => ?_) fun _ => ?_
    · refine evF_rng ?_ (by omega)
      rw [ev_bin (ev_b1 (x := W) (by simp [ev, getS, hsW]) hlW) (by rw [ev])]
      rfl
    · refine ⟨?_, hI.rnd fun e he => by
        obtain ⟨x, hx, rfl⟩ := List.mem_map.mp he
        exact (hk x hx).2⟩
      refine ⟨[some W, some U, some (sD true V fun a => lsT (F a)), none, some (nT m), none, none, none, none], [some W, some U, some (sD true V fun a => lsT (rndB (lk.map (pairE es)) F a)), none, some (nT m), none, none, none, none], by simp [asgP], .inl ?_, by simp [kill]⟩
      have e9 : rndB (lk.map (pairE es)) F = lk.foldl (fun F e => stpB F (pairE es e)) F := by rw [rndB, List.foldl_map]
      rw [e9]
      refine z_forI (α := Nat × Nat) (σ := Str → List Str) (f := lkT es) (E := fun F => [some W, some U, some (sD true V fun a => lsT (F a)), none, some (nT m), none, none, none, none]) (fun l F => Nd V F ∧ ∀ y ∈ l, y ∈ lk) (fun F e => stpB F (pairE es e)) (ys := lk) (s := F) ?_ ⟨hI, fun _ z => z⟩ (fun F e l hI => ?_) fun _ => z_nil
      · have := evF_seq (C := mkC T k) (env := [some W, some U, some (sD true V fun a => lsT (F a)), none, some (nT m), none, none, none, none]) (fv := [1]) (e := .var 1) (xs := lk.map (lkT es)) (t := U) (by
          show ev _ [none, some U, none, none, none, none, none, none, none] _ = _
          simp [ev, getS, hsU]) hcU
        rw [this]
        simp [frS, frSg, hsU]
      · obtain ⟨p, q⟩ := e
        have he := hk _ (hI.2 _ List.mem_cons_self)
        have hN := hI.1
        refine ⟨?_, hN.stp he.2, fun z hz => hI.2 z (List.mem_cons_of_mem _ hz)⟩
        simp only [pairE] at he ⊢
        generalize ha : itN es p = a at he ⊢
        generalize hb : itN es q = b at he ⊢
        refine ⟨[some W, some U, some (sD true V fun a => lsT (F a)), none, some (nT m), some (nT p), some (nT q), some (.str a), some (.str b)], [some W, some U, some (sD true V fun x => lsT (stpB F (a, b) x)), none, some (nT m), some (nT p), some (nT q), some (.str a), some (.str b)], by rw [strip_lkT, lkT]; simp [asgP, asgPs, ha, hb], .inl ?_, by simp [kill]⟩
        have e8 : stpB F (a, b) = (b :: F b).foldl (fun F x => upF F a (addA (F a) x)) F := by rw [addA_fold, stpB]
        rw [e8]
        have i1 : ∀ (F : Str → List Str) x, x ∈ V → ixT (sD false V fun p => strip (lsT (F p))) (.str x) = .ok (.nd .lst false ((F x).map .str)) := fun F x hx => by
          rw [ix_sD hx, strip_ls, strip_ls2]
        refine z_forI (α := Str) (σ := Str → List Str) (f := .str) (E := fun F => [some W, some U, some (sD true V fun a => lsT (F a)), none, some (nT m), some (nT p), some (nT q), some (.str a), some (.str b)]) (fun l F => Nd V F ∧ ∀ y ∈ l, y ∈ V) (fun F x => upF F a (addA (F a) x)) (ys := b :: F b) (s := F) (evF_own (o := true) ?_ (owns_str _)) ⟨hN, fun y hy => (List.mem_cons.mp hy).elim (fun z => z ▸ he.2) fun z => (hN b).2 y z⟩ (fun F x l hI => ?_) fun _ => z_nil
        · rw [ev_bin (x := .nd .lst true ([b].map .str)) (y := .nd .lst false ((F b).map .str)) (by simp [ev, evs, getS, sz1]) (by simp [ev, getS, strip_sD, i1 F b he.2])]
          rw [bin_ls (by have := hN.len b; simp; omega)]
          rfl
        · have hx := hI.2 x List.mem_cons_self
          refine ⟨?_, hI.1.up hx, fun z hz => hI.2 z (List.mem_cons_of_mem _ hz)⟩
          refine ⟨[some W, some U, some (sD true V fun a => lsT (F a)), some (.str x), some (nT m), some (nT p), some (nT q), some (.str a), some (.str b)], [some W, some U, some (sD true V fun y => lsT (upF F a (addA (F a) x) y)), some (.str x), some (nT m), some (nT p), some (nT q), some (.str a), some (.str b)], by simp [asgP], .inl ?_, by simp [kill]⟩
          have ec : ev (mkC T k) [some W, some U, some (sD true V fun a => lsT (F a)), some (.str x), some (nT m), some (nT p), some (nT q), some (.str a), some (.str b)] (.cmp .NotIn (.var 3) (.sub (.var 2) (.var 7))) = .ok (.bl (decide (x ∉ F a))) := by
            simp [ev, getS, strip_sD, i1 F a he.1, inR_str]
          by_cases z : x ∈ F a
          · rw [decide_eq_false (fun y => y z)] at ec
            refine z_if_f ec ?_
            have : upF F a (addA (F a) x) = F := by
              rw [addA, if_pos z]
              funext y
              unfold upF
              by_cases e : y = a <;> simp [e]
            rw [this]
            exact z_nil
          · rw [decide_eq_true z] at ec
            refine z_if_nx ec (z_put_rd (t := lsT (F a ++ [x])) (q := .str a) ?_ (own_ls _) (by simp [getS]; rfl) (by simp [ev, getS]) rfl (put_sD hV (by omega) he.1) ?_ z_nil) z_nil
            · rw [ev_bin (x := .nd .lst false ((F a).map .str)) (y := .nd .lst true ([x].map .str)) (by simp [ev, getS, strip_sD, i1 F a he.1]) (by simp [ev, evs, getS, sz1])]
              rw [bin_ls (by have := hI.1.len a; simp; omega)]
              rfl
            · simp
              refine congrArg (sD true V) (funext fun y => ?_)
              rw [addA, if_neg z, upF]
              split <;> rfl
    · exact z_ret_mv rfl
end
end Rb
namespace Rb
open PySem
open PySem.Spec
open L2
theorem bin_mod (i : Int) {j : Int} (h : 0 < j) : binT .Mod (.int i) (.int j) = .ok (.int (i % j)) := by rw [binT, if_pos h]
theorem bin_div (i : Int) {j : Int} (h : 0 < j) (h2 : j < 1073741824) : binT .FloorDiv (.int i) (.int j) = .ok (.int (i / j)) := by rw [binT, if_pos ⟨h, h2⟩]
theorem mulI_t {i : Int} (h1 : -1000000 < i) (h2 : i < 1000000) : mulI i = true := by
  unfold mulI
  rw [Bool.and_eq_true, decide_eq_true_eq, decide_eq_true_eq]
  exact ⟨Int.lt_trans (by decide) h1, Int.lt_trans h2 (by decide)⟩
theorem bin_mul_r (i : Int) {j : Int} (h1 : -1000000 < j) (h2 : j < 1000000) : binT .Mult (.int i) (.int j) = .ok (.int (i * j)) := by rw [binT, mulI_t h1 h2, Bool.or_true, if_pos rfl]
theorem bin_mul_l {i : Int} (j : Int) (h1 : -1000000 < i) (h2 : i < 1000000) : binT .Mult (.int i) (.int j) = .ok (.int (i * j)) := by rw [binT, mulI_t h1 h2, Bool.true_or, if_pos rfl]
theorem bin_pow18 : binT .Pow (.int 10) (.int 18) = .ok (.int (10 ^ 18)) := by rw [binT, if_pos (by decide)]; rfl
theorem b1_abs (i : Int) : b1T .abs (.int i) = .ok (.int (if i < 0 then -i else i)) := rfl
theorem b1_int (i : Int) : b1T .int (.int i) = .ok (.int i) := rfl
theorem b2_ok (mx : Bool) (i j : Int) : b2T mx (.int i) (.int j) = .ok (.int (if mx then (if j > i then j else i) else (if j < i then j else i))) := rfl
theorem forGo_env {α : Type} {p : Pat} {kl : List Nat} {b : Env → SR} {f : α → T} {I : List α → Env → Prop} : ∀ {ys : List α} {env : Env}, I ys env → (∀ env y l, I (y :: l) env → ∃ e1 e2, asgP p (strip (f y)) env = some e1 ∧ (b e1 = .nx e2 ∨ b e1 = .ct e2) ∧ I l (kill kl e2)) → ∃ env', forGo p kl b (ys.map f) env = .nx env' ∧ I [] env'
  | [], env, hi, _ => ⟨env, rfl, hi⟩
  | y :: ys, env, hi, h => by
    obtain ⟨e1, e2, h1, h2, h3⟩ := h env y ys hi
    obtain ⟨e3, h4, h5⟩ := forGo_env (p := p) (kl := kl) (b := b) (f := f) (I := I) h3 h
    refine ⟨e3, ?_, h5⟩
    rw [List.map_cons, forGo, h1]
    rcases h2 with h2 | h2 <;> simp only [h2, h4]
section
variable {C : Calls}
theorem zp {P : SR → Prop} {a b : SR} (hb : P b) (h : a = b) : P a := h ▸ hb
theorem z_forP {P : SR → Prop} {α : Type} {p : Pat} {ow : Bool} {fv kl : List Nat} {it : It'} {b ss : List IS} {f : α → T} {env e0 : Env} (I : List α → Env → Prop) {ys : List α} (hi : evF C env ow fv it = .ok (ys.map f) e0) (h0 : I ys e0) (h : ∀ env y l, I (y :: l) env → ∃ e1 e2, asgP p (strip (f y)) env = some e1 ∧ (execs C b e1 = .nx e2 ∨ execs C b e1 = .ct e2) ∧ I l (kill kl e2))
    (hr : ∀ env', I [] env' → P (execs C ss env')) : P (execs C (.floop p ow fv it kl b :: ss) env) := by
  obtain ⟨e3, h1, h2⟩ := forGo_env (p := p) (kl := kl) (b := fun e => execs C b e) (f := f) (I := I) h0 h
  rw [execs, exec, hi]
  simp only [LR.go, h1, SR.seq]
  exact hr e3 h2
theorem whGo_env {cd : Env → BR} {kl : List Nat} {f : Env → SR} {I : Nat → Env → Prop} {Q : Env → Prop} : ∀ (n m : Nat) {env : Env}, m < n → I m env → (∀ m env, I m env → (cd env = .ok false ∧ Q env) ∨ (cd env = .ok true ∧ ∃ e2 m', (f env = .nx e2 ∨ f env = .ct e2) ∧ m' < m ∧ I m' (kill kl e2))) → ∃ env', whGo cd kl f n env = .nx env' ∧ Q env'
  | n + 1, m, env, hm, hi, h => by
    rcases h m env hi with ⟨h1, h2⟩ | ⟨h1, e2, m', h2, h3, h4⟩
    · refine ⟨env, ?_, h2⟩
      rw [whGo, h1]
    · obtain ⟨e3, h5, h6⟩ := whGo_env (cd := cd) (kl := kl) (f := f) (I := I) (Q := Q) n m' (by omega) h4 h
      refine ⟨e3, ?_, h6⟩
      rw [whGo, h1]
      rcases h2 with h2 | h2 <;> simp only [h2, h5]
theorem wFuel_gt : 1000000 < wFuel := by unfold wFuel; decide
theorem z_whlP {P : SR → Prop} {c : IE} {kl : List Nat} {b ss : List IS} {env : Env} (I : Nat → Env → Prop) (Q : Env → Prop) {m : Nat} (hm : m ≤ 1000000) (h0 : I m env) (h : ∀ m env, I m env → (evC C env c = .ok false ∧ Q env) ∨ (evC C env c = .ok true ∧ ∃ e2 m', (execs C b env = .nx e2 ∨ execs C b env = .ct e2) ∧ m' < m ∧ I m' (kill kl e2)))
    (hr : ∀ env', Q env' → P (execs C ss env')) : P (execs C (.whl c kl b :: ss) env) := by
  obtain ⟨e3, h1, h2⟩ := whGo_env (cd := fun e => evC C e c) (kl := kl) (f := fun e => execs C b e) (I := I) (Q := Q) wFuel m (Nat.lt_of_le_of_lt hm wFuel_gt) h0 h
  rw [execs, exec, h1]
  simp only [SR.seq]
  exact hr e3 h2
theorem evC_ok {env : Env} {c : IE} {b : Bool} (h : ev C env c = .ok (.bl b)) : evC C env c = .ok b := by
  rw [evC, h, bnd_ok, truth_bl]; rfl
end
theorem owns_int (l : List Int) : owns (l.map .int) = true := by
  induction l with
  | nil => simp [owns]
  | cons a l ih => simp [owns, own, ih]
section
variable {T : Tab} (h : LogTab T) (k : Nat)
include h
theorem row_ok (c : Int) {m : Nat} (hm : m ≤ 1000) : ∃ l : List Int, l.length = m ∧ (mkC T (k + 1)).fn "_law_row" [.int c, .int m] = .ok (.nd .lst true (l.map .int)) := by
  let A : Int := if c < 0 then -c else c
  have hA : ∀ e1 e2 e3 e4 e5, ev (mkC T k) [some (.int c), e1, e2, e3, e4, e5] (.b1 .abs (.var 0)) = .ok (.int A) := fun e1 e2 e3 e4 e5 => by simp [ev, getS, b1_abs, A]
  suffices hh : ∀ P : SR → Prop, (∀ l : List Int, l.length = m → P (.rt (.nd .lst true (l.map .int)))) → P (execs (mkC T k) y__law_row [some (.int c), some (.int m), none, none, none, none]) by
    obtain ⟨l, h1, h2⟩ := hh (fun r => ∃ l : List Int, l.length = m ∧ r = .rt (.nd .lst true (l.map .int))) fun l hl => ⟨l, hl, rfl⟩
    refine ⟨l, h1, ?_⟩
    rw [fn_of h._law_row]
    exact call_rt rfl (by simp [env0, strips]) h2
  intro P hP
  have loop : ∀ r s : Int, P (execs (mkC T k) (y__law_row.drop 4) [some (.int c), some (.int m), some (.nd .lst true []), some (.int r), some (.int s), none]) := fun r s => by
    refine z_forP (f := nT) (fun (ys : List Nat) env => ∃ (l : List Int) (r s : Int), env = [some (.int c), some (.int m), some (.nd .lst true (l.map .int)), some (.int r), some (.int s), none] ∧ l.length + ys.length = m) (ys := List.range m) (evF_rng (by simp [ev, getS]) (by omega)) ⟨[], r, s, rfl, by simp⟩ ?_ ?_
    · rintro _ y ys ⟨l, r, s, rfl, hl⟩
      simp only [List.length_cons] at hl
      let S : Int := ((s + 1) * 48271 + 69621 * (y : Int)) % 2147483647
      have eS : ev (mkC T k) [some (.int c), some (.int m), some (.nd .lst true (l.map .int)), some (.int r), some (.int s), some (nT y)] (.bin .Mod (.b1 .int (.bin .Add (.bin .Mult (.bin .Add (.var 4) (.lit (.int 1))) (.lit (.int 48271))) (.bin .Mult (.lit (.int 69621)) (.var 5)))) (.lit (.int 2147483647))) = .ok (.int S) := by
        simp [ev, getS, bin_mul_r, bin_mul_l, nT, b1_int, bin_mod, S]
      have hlen : (l.map Rb.T.int).length < sizeLine := by rw [sizeLine_eq, List.length_map]; omega
      by_cases z : 0 < r
      · refine ⟨_, [some (.int c), some (.int m), some (.nd .lst true ((l ++ [r % 1009]).map .int)), some (.int (r / 1009)), some (.int S), some (nT y)], rfl, .inl (z_asg_rd (env' := [some (.int c), some (.int m), some (.nd .lst true (l.map .int)), some (.int r), some (.int S), some (nT y)]) eS rfl (by simp [asgT]) (z_if_nx (env' := [some (.int c), some (.int m), some (.nd .lst true ((l ++ [r % 1009]).map .int)), some (.int (r / 1009)), some (.int S), some (nT y)]) (by simp [ev, getS, z]) (z_app_rd (xs := l.map .int) (t := .int (r % 1009)) (env' := [some (.int c), some (.int m), some (.nd .lst true ((l ++ [r % 1009]).map .int)), some (.int r), some (.int S), some (nT y)]) (by simp [getS]) (by simp [ev, getS, b1_int, bin_mod]) rfl hlen (by simp) (z_asg_rd (t := .int (r / 1009)) (by simp [ev, getS, bin_div]) rfl (by simp [asgT]) z_nil)) z_nil)), ⟨_, _, _, rfl, by simp; omega⟩⟩
      · refine ⟨_, [some (.int c), some (.int m), some (.nd .lst true ((l ++ [S / 2048 % 1009]).map .int)), some (.int r), some (.int S), some (nT y)], rfl, .inl (z_asg_rd (env' := [some (.int c), some (.int m), some (.nd .lst true (l.map .int)), some (.int r), some (.int S), some (nT y)]) eS rfl (by simp [asgT]) (z_if_el (env' := [some (.int c), some (.int m), some (.nd .lst true ((l ++ [S / 2048 % 1009]).map .int)), some (.int r), some (.int S), some (nT y)]) (by simp [ev, getS, z]) (z_app_rd (xs := l.map .int) (t := .int (S / 2048 % 1009)) (by simp [getS]) (by simp [ev, getS, b1_int, bin_mod, bin_div]) rfl hlen (by simp) z_nil) z_nil)), ⟨_, _, _, rfl, by simp; omega⟩⟩
    · rintro _ ⟨l, r, s, rfl, hl⟩
      exact zp (hP l (by simpa using hl)) (z_ret_mv (by simp [getS]))
  refine zp ?_ (z_asg_rd (t := .nd .lst true []) (env' := [some (.int c), some (.int m), some (.nd .lst true []), none, none, none]) (by simp [ev, evs, sz0]) (by simp [own, owns]) (by simp [asgT]) rfl)
  refine zp ?_ (z_asg_rd (t := .int 0) (env' := [some (.int c), some (.int m), some (.nd .lst true []), some (.int 0), none, none]) (by simp [ev]) rfl (by simp [asgT]) rfl)
  by_cases z : (10 : Int) ^ 18 ≤ A
  · refine zp ?_ (z_if_nx (env' := [some (.int c), some (.int m), some (.nd .lst true []), some (.int A), none, none]) (by rw [ev_cmp (hA _ _ _ _ _) (ev_bin (x := .int 10) (y := .int 18) (by rw [ev]) (by rw [ev]) |>.trans bin_pow18), cmp_ge, decide_eq_true z]) (z_asg_rd (t := .int A) (hA _ _ _ _ _) rfl (by simp [asgT]) z_nil) rfl)
    exact zp (loop A (A % 2147483647)) (z_asg_rd (t := .int (A % 2147483647)) (by rw [ev_bin (ev_b1 (hA _ _ _ _ _) (b1_int _)) (by rw [ev]), bin_mod _ (by decide)]) rfl (by simp [asgT]) rfl)
  · refine zp ?_ (z_if_f (by rw [ev_cmp (hA _ _ _ _ _) (ev_bin (x := .int 10) (y := .int 18) (by rw [ev]) (by rw [ev]) |>.trans bin_pow18), cmp_ge, decide_eq_false z]) rfl)
    exact zp (loop 0 (A % 2147483647)) (z_asg_rd (t := .int (A % 2147483647)) (by rw [ev_bin (ev_b1 (hA _ _ _ _ _) (b1_int _)) (by rw [ev]), bin_mod _ (by decide)]) rfl (by simp [asgT]) rfl)
theorem numbers_ok (ns : List Int) (hn : ns.length ≤ 63) {m : Nat} (hm : m ≤ 900) : ∃ l : List Int, l.length = m ∧ (mkC T (k + 2)).fn "_law_numbers" [.nd .ext false (ns.map .int), .int m] = .ok (.nd .lst true (l.map .int)) := by
  suffices hh : ∀ P : SR → Prop, (∀ l : List Int, l.length = m → P (.rt (.nd .lst true (l.map .int)))) → P (execs (mkC T (k + 1)) y__law_numbers [some (.nd .ext false (ns.map .int)), some (.int m), none, none, none, none, none]) by
    obtain ⟨l, h1, h2⟩ := hh (fun r => ∃ l : List Int, l.length = m ∧ r = .rt (.nd .lst true (l.map .int))) fun l hl => ⟨l, hl, rfl⟩
    refine ⟨l, h1, ?_⟩
    rw [fn_of h._law_numbers]
    exact call_rt rfl (by simp [env0, strips, strip, strips_ints]) h2
  intro P hP
  obtain ⟨W, hW⟩ : ∃ W : Rb.T, W = .nd .ext false (ns.map .int) := ⟨_, rfl⟩
  have hsW : strip W = W := by rw [hW]; simp [strip, strips_ints]
  rw [← hW]
  obtain ⟨U, hU⟩ : ∃ U : Rb.T, U = .nd .lst true (ns.map .int) := ⟨_, rfl⟩
  have hsU : strip U = .nd .lst false (ns.map .int) := by rw [hU]; simp [strip, strips_ints]
  obtain ⟨e, he, he2⟩ : ∃ e : Nat, e ≤ 1000 ∧ (1 : Int) + (m : Int) / (if (ns.length : Int) > 1 then (ns.length : Int) else 1) = e := by
    refine ⟨(1 + (m : Int) / (if (ns.length : Int) > 1 then (ns.length : Int) else 1)).toNat, ?_, ?_⟩
    · have : (m : Int) / (if (ns.length : Int) > 1 then (ns.length : Int) else 1) ≤ m := Int.ediv_le_self _ (by omega)
      omega
    · have : 0 ≤ (m : Int) / (if (ns.length : Int) > 1 then (ns.length : Int) else 1) := Int.ediv_nonneg (by omega) (by split <;> omega)
      omega
  refine zp ?_ (z_asg_es (t := U) (env' := [some W, some (.int m), some U, none, none, none, none]) ?_ (by simp [asgT, frS, frSg, hsW]) rfl)
  rotate_left
  · show ev _ [some W, none, none, none, none, none, none] _ = _
    simp only [ev, evo, getS, List.getElem?_cons_zero, optR_some, hsW, bind_ok, intT_int]
    rw [hW, slT, cutT, HT.sIx_none, show (63 : Int) = ((63 : Nat) : Int) from rfl, HT.sIx_nat, List.length_map, Nat.min_eq_right hn, List.drop_zero, Nat.sub_zero, ← List.length_map (f := Rb.T.int), List.take_length, strips_ints, hU]
  refine zp ?_ (z_asg_rd (t := .int e) (env' := [some W, some (.int m), some U, some (.int e), none, none, none]) ?_ rfl (by simp [asgT]) rfl)
  rotate_left
  · have d1 : (0 : Int) < (if (ns.length : Int) > 1 then (ns.length : Int) else 1) := by split <;> omega
    have d2 : (if (ns.length : Int) > 1 then (ns.length : Int) else 1) < 1073741824 := by split <;> omega
    simp only [ev, getS, List.getElem?_cons_zero, List.getElem?_cons_succ, optR_some, hsU, strip_int, bind_ok, len_lst, List.length_map, b2_ok, if_true]
    rw [bin_div _ d1 d2, bind_ok, bin_add, he2]
  refine zp ?_ (z_asg_rd (t := .nd .lst true []) (env' := [some W, some (.int m), some U, some (.int e), some (.nd .lst true []), none, none]) (by simp [ev, evs, sz0]) (by simp [own, owns]) (by simp [asgT]) rfl)
  refine z_forP (f := Rb.T.int) (fun (ys : List Int) env => ∃ (l : List Int), env = [some W, some (.int m), some (.nd .lst false (ns.map .int)), some (.int e), some (.nd .lst true (l.map .int)), none, none] ∧ l.length + ys.length * 1000 ≤ 63000) (ys := ns) (e0 := [some W, some (.int m), some (.nd .lst false (ns.map .int)), some (.int e), some (.nd .lst true []), none, none]) ?_ ⟨[], rfl, by simp; omega⟩ ?_ ?_
  · have := evF_seq (C := mkC T (k + 1)) (env := [some W, some (.int m), some U, some (.int e), some (.nd .lst true []), none, none]) (fv := [2]) (e := .var 2) (xs := ns.map .int) (t := .nd .lst false (ns.map .int)) (by
      show ev _ [none, none, some U, none, none, none, none] _ = _
      simp [ev, getS, hsU]) rfl
    rw [this]
    simp [frS, frSg, hsU]
  · rintro _ c ys ⟨l, rfl, hl⟩
    simp only [List.length_cons] at hl
    obtain ⟨rw', hr1, hr2⟩ := row_ok h k c he
    refine ⟨[some W, some (.int m), some (.nd .lst false (ns.map .int)), some (.int e), some (.nd .lst true (l.map .int)), some (.int c), none], [some W, some (.int m), some (.nd .lst false (ns.map .int)), some (.int e), some (.nd .lst true ((l ++ rw').map .int)), some (.int c), none], rfl, .inl ?_, ⟨_, rfl, by rw [List.length_append]; omega⟩⟩
    have : l ++ rw' = rw'.foldl (fun l x => l ++ [x]) l := by
      have := foldl_fm (fun x : Int => [x]) rw' l
      rw [this]
      simp
    rw [this]
    refine z_forI (f := Rb.T.int) (E := fun (l : List Int) => [some W, some (.int m), some (.nd .lst false (ns.map .int)), some (.int e), some (.nd .lst true (l.map .int)), some (.int c), none]) (fun ys l => l.length + ys.length ≤ 63000) (fun l x => l ++ [x]) (ys := rw') (s := l) ?_ (by omega) (fun l x ys hI => ?_) fun _ => z_nil
    · have := evF_seq (C := mkC T (k + 1)) (env := [some W, some (.int m), some (.nd .lst false (ns.map .int)), some (.int e), some (.nd .lst true (l.map .int)), some (.int c), none]) (fv := [3, 5]) (e := .call "_law_row" [.var 5, .var 3]) (xs := rw'.map .int) (t := .nd .lst true (rw'.map .int)) (by
        show ev _ [none, none, none, some (.int e), none, some (.int c), none] _ = _
        rw [ev_call (ts := [.int c, .int e]) (by simp [evs, ev, getS])]
        exact hr2) rfl
      rw [this]
      simp [frS, frSg]
    · simp only [List.length_cons] at hI
      refine ⟨⟨[some W, some (.int m), some (.nd .lst false (ns.map .int)), some (.int e), some (.nd .lst true (l.map .int)), some (.int c), some (.int x)], [some W, some (.int m), some (.nd .lst false (ns.map .int)), some (.int e), some (.nd .lst true ((l ++ [x]).map .int)), some (.int c), some (.int x)], rfl, .inl ?_, rfl⟩, by simp; omega⟩
      refine z_app (xs := l.map .int) (t := .int x) (by simp [getS]) ?_ (by simp [getS, frS, frSg]) (by rw [sizeLine_eq, List.length_map]; omega) (by simp [frS, frSg]) z_nil
      show ev _ [none, none, none, none, none, none, some (.int x)] _ = _
      simp [ev, getS]
  · rintro _ ⟨l, rfl, hl⟩
    simp only [List.length_nil, Nat.zero_mul, Nat.add_zero] at hl
    refine z_whlP (fun u env => ∃ l : List Int, env = [some W, some (.int m), some (.nd .lst false (ns.map .int)), some (.int e), some (.nd .lst true (l.map .int)), none, none] ∧ l.length ≤ 64000 ∧ u = m - l.length) (fun env => ∃ l : List Int, env = [some W, some (.int m), some (.nd .lst false (ns.map .int)), some (.int e), some (.nd .lst true (l.map .int)), none, none] ∧ m ≤ l.length) (m := m - l.length) (by omega) ⟨l, rfl, by omega, rfl⟩ ?_ ?_
    · rintro _ _ ⟨l, rfl, hl, rfl⟩
      have ec : ev (mkC T (k + 1)) [some W, some (.int m), some (.nd .lst false (ns.map .int)), some (.int e), some (.nd .lst true (l.map .int)), none, none] (.cmp .Lt (.b1 .len (.var 4)) (.var 1)) = .ok (.bl (decide (l.length < m))) := by
        simp [ev, getS, strip, strips_ints]
      by_cases z : l.length < m
      · rw [decide_eq_true z] at ec
        refine .inr ⟨evC_ok ec, [some W, some (.int m), some (.nd .lst false (ns.map .int)), some (.int e), some (.nd .lst true ((l ++ [0]).map .int)), none, none], m - (l.length + 1), .inl ?_, by omega, ⟨l ++ [0], rfl, by simp; omega, by simp⟩⟩
        exact z_app_rd (xs := l.map .int) (t := .int 0) (by simp [getS]) (by simp [ev]) rfl (by rw [sizeLine_eq, List.length_map]; omega) (by simp) z_nil
      · rw [decide_eq_false z] at ec
        exact .inl ⟨evC_ok ec, l, rfl, by omega⟩
    · rintro _ ⟨l, rfl, hl⟩
      refine zp (hP (l.take m) (by rw [List.length_take]; omega)) (z_ret_es ?_)
      show ev _ [none, some (.int m), none, none, some (.nd .lst true (l.map .int)), none, none] _ = _
      simp only [ev, evo, getS, List.getElem?_cons_zero, List.getElem?_cons_succ, optR_some, strip, strip_int, strips_ints, bind_ok, intT_int]
      rw [slT, cutT, HT.sIx_none, HT.sIx_nat, List.length_map, Nat.min_eq_left hl, List.drop_zero, Nat.sub_zero, ← List.map_take, strips_ints]
end
end Rb
namespace Rb
open PySem
open PySem.Spec
open L2
def sixS : List Str := ["a", "b", "it3", "c4", "z", "0"]
def n3S : List Str := ["ann", "b", "7"]
def drS (d : Str) : Prop := d = "rises" ∨ d = "falls" ∨ d = "stays"
def evOk (items names : List Str) (gr : Int) : Evt → Prop
  | .rst j => j ∈ names
  | .ans j i g => j ∈ names ∧ i ∈ items ∧ 0 ≤ g ∧ g ≤ gr
/-- what a drawn log is -/
structure Drawn (me : Nat) (L : Lg) : Prop where
  it : ∃ n, 0 < n ∧ n ≤ 6 ∧ L.items = sixS.take n
  gr : L.gr ∈ ([1, 1, 2, 3, 9] : List Int)
  js : ∃ n, 0 < n ∧ n ≤ 3 ∧ L.js.map (·.1) = n3S.take n
  dr : ∀ jd ∈ L.js, drS jd.2
  es : ∀ e ∈ L.es, evOk L.items (L.js.map (·.1)) L.gr e
  el : L.es.length ≤ me
def paO (L : Lg) : T := .nd .tup true [.nd .lst false (L.items.map .str), .int L.gr, .nd .lst false (L.js.map jT), .nd .lst false (L.es.map evT)]
def vN (N : List Int) (i : Nat) : Int := N.getD i 0
theorem ix_N (o : Bool) {N : List Int} {i : Nat} (h : i < N.length) : ixT (.nd .lst o (N.map .int)) (.int (i : Int)) = .ok (.int (vN N i)) := by
  refine ix_nat (t := .int (vN N i)) o ?_
  simp [vN, List.getD_eq_getElem?_getD, List.getElem?_eq_getElem h]
theorem range_drop {n k : Nat} {y : Nat} {l : List Nat} (h : y :: l = (List.range n).drop k) : y = k ∧ k < n ∧ l = (List.range n).drop (k + 1) := by
  have hk : k < (List.range n).length := by
    refine Nat.lt_of_not_le fun g => ?_
    rw [List.drop_eq_nil_of_le g] at h
    cases h
  rw [List.drop_eq_getElem_cons hk] at h
  injection h with h1 h2
  refine ⟨by simpa using h1, by simpa using hk, h2⟩
theorem ix_mod (o : Bool) (xs : List T) (v : Int) (h : 0 < xs.length) : ∃ t ∈ xs, ixT (.nd .lst o xs) (.int (v % (xs.length : Int))) = .ok (strip t) := by
  have h0 : 0 ≤ v % (xs.length : Int) := Int.emod_nonneg _ (by omega)
  have h1 : v % (xs.length : Int) < xs.length := Int.emod_lt_of_pos _ (by omega)
  obtain ⟨i, hi⟩ := Int.eq_ofNat_of_zero_le h0
  rw [hi] at h1 ⊢
  have h2 : i < xs.length := by omega
  exact ⟨xs[i], List.getElem_mem h2, ix_nat o (List.getElem?_eq_getElem h2)⟩
theorem mx0 (g v : Int) (hg : 0 ≤ g) : 0 ≤ (if (if v < g then v else g) > 0 then (if v < g then v else g) else 0) ∧ (if (if v < g then v else g) > 0 then (if v < g then v else g) else 0) ≤ g := by
  split <;> split <;> constructor <;> omega
abbrev y_log_ev : List IS := match y__law_log[6]? with
  | some (IS.floop _ _ _ _ _ b) => b
  | _ => []
section
variable {T : Tab} (h : LogTab T) (k : Nat)
include h
theorem log_ok2 {N : List Int} {at' mi me : Nat} (hN : at' + 13 + me ≤ N.length) (h1 : 0 < mi) (h2 : mi ≤ 6) (h3 : me ≤ 100) : ∃ L : Lg, Drawn me L ∧ L.items.length ≤ mi ∧ (mkC T (k + 1)).fn "_law_log" [.nd .lst false (N.map .int), .int at', .int mi, .int me] = .ok (paO L) := by
  suffices hh : ∀ P : SR → Prop, (∀ L : Lg, Drawn me L → L.items.length ≤ mi → P (.rt (paO L))) → P (execs (mkC T k) y__law_log [some (.nd .lst false (N.map .int)), some (.int at'), some (.int mi), some (.int me), none, none, none, none, none, none, none, none, none, none, none, none]) by
    obtain ⟨L, h1, h4, h2⟩ := hh (fun r => ∃ L : Lg, Drawn me L ∧ L.items.length ≤ mi ∧ r = .rt (paO L)) fun l hl h4 => ⟨l, hl, h4, rfl⟩
    refine ⟨L, h1, h4, ?_⟩
    rw [fn_of h._law_log]
    exact call_rt rfl (by simp [env0, strips, strip, strips_ints]) h2
  intro P hP
  obtain ⟨W, hW⟩ : ∃ W : Rb.T, W = .nd .lst false (N.map .int) := ⟨_, rfl⟩
  have hsW : strip W = W := by rw [hW]; simp [strip, strips_ints]
  have iW : ∀ i : Nat, i < N.length → ixT W (.int (i : Int)) = .ok (.int (vN N i)) := fun i hi => by rw [hW]; exact ix_N _ hi
  rw [← hW]
  -- the items
  obtain ⟨n, hn0, hn6, hnmi, hn⟩ : ∃ n : Nat, 0 < n ∧ n ≤ 6 ∧ n ≤ mi ∧ (1 : Int) + vN N at' % mi = n := by
    have a := Int.emod_nonneg (vN N at') (b := (mi : Int)) (by omega)
    have b := Int.emod_lt_of_pos (vN N at') (b := (mi : Int)) (by omega)
    exact ⟨(1 + vN N at' % mi).toNat, by omega, by omega, by omega, by omega⟩
  let items := sixS.take n
  have hil : items.length = n := by
    show (sixS.take n).length = n
    rw [List.length_take]
    show min n 6 = n
    omega
  refine zp ?_ (z_asg_es (t := .nd .lst true (items.map .str)) (env' := [some W, some (.int at'), some (.int mi), some (.int me), some (.nd .lst true (items.map .str)), none, none, none, none, none, none, none, none, none, none, none]) ?_ (by simp [asgT, frS, frSg, hsW]) rfl)
  rotate_left
  · show ev _ [some W, some (.int at'), some (.int mi), none, none, none, none, none, none, none, none, none, none, none, none, none] _ = _
    have hm := bin_mod (vN N at') (j := (mi : Int)) (by omega)
    have el : ∀ env, ev (mkC T k) env (.lst [.lit (.str "a"), .lit (.str "b"), .lit (.str "it3"), .lit (.str "c4"), .lit (.str "z"), .lit (.str "0")]) = .ok (.nd .lst true (sixS.map .str)) := fun env => by
      have : 6 ≤ sizeLine := by rw [sizeLine_eq]; decide
      simp [ev, evs, this, sixS]
    rw [ev, el]
    simp only [ev, evo, getS, List.getElem?_cons_zero, List.getElem?_cons_succ, optR_some, hsW, strip_int, bind_ok, iW at' (by omega), b1_int, hm, bin_add, hn, intT_int]
    have h6 : (sixS.map Rb.T.str).length = 6 := rfl
    rw [slT, cutT, HT.sIx_none, HT.sIx_nat, h6, Nat.min_eq_left hn6, List.drop_zero, Nat.sub_zero, ← List.map_take, strips_strs]
  -- the highest grade
  obtain ⟨gT, hgm, hg⟩ := ix_mod true (([1, 1, 2, 3, 9] : List Int).map .int) (vN N (at' + 1)) (by decide)
  obtain ⟨gr, hgr, rfl⟩ := List.mem_map.mp hgm
  have hgp : 1 ≤ gr ∧ gr ≤ 9 := by
    simp only [List.mem_cons, List.not_mem_nil, or_false] at hgr
    omega
  refine zp ?_ (z_asg_es (t := .int gr) (env' := [some W, some (.int at'), some (.int mi), some (.int me), some (.nd .lst true (items.map .str)), some (.int gr), none, none, none, none, none, none, none, none, none, none]) ?_ (by simp [asgT, frS, frSg, hsW]) rfl)
  rotate_left
  · show ev _ [some W, some (.int at'), none, none, none, none, none, none, none, none, none, none, none, none, none, none] _ = _
    have el : ∀ env, ev (mkC T k) env (.lst [.lit (.int 1), .lit (.int 1), .lit (.int 2), .lit (.int 3), .lit (.int 9)]) = .ok (.nd .lst true (([1, 1, 2, 3, 9] : List Int).map .int)) := fun env => by
      have : 5 ≤ sizeLine := by rw [sizeLine_eq]; decide
      simp [ev, evs, this]
    have i1 := iW (at' + 1) (by omega)
    rw [Int.natCast_add] at i1
    have hm := bin_mod (vN N (at' + 1)) (j := 5) (by decide)
    rw [ev_sub (el _) (y := .int (vN N (at' + 1) % 5)) (by
      simp only [ev, getS, List.getElem?_cons_zero, List.getElem?_cons_succ, optR_some, hsW, strip_int, bind_ok, bin_add]
      rw [show ((at' : Int) + 1) = (at' : Int) + ((1 : Nat) : Int) from rfl, i1, bind_ok, b1_int, bind_ok, hm])]
    exact hg
  refine zp ?_ (z_asg_rd (t := .nd .lst true []) (env' := [some W, some (.int at'), some (.int mi), some (.int me), some (.nd .lst true (items.map .str)), some (.int gr), some (.nd .lst true []), none, none, none, none, none, none, none, none, none]) (by simp [ev, evs, sz0]) (by simp [own, owns]) (by simp [asgT]) rfl)
  -- the judges
  obtain ⟨nj, hj0, hj3, hnj⟩ : ∃ n : Nat, 0 < n ∧ n ≤ 3 ∧ (1 : Int) + vN N (at' + 2) % 3 = n := by
    have a := Int.emod_nonneg (vN N (at' + 2)) (b := 3) (by omega)
    have b := Int.emod_lt_of_pos (vN N (at' + 2)) (b := 3) (by omega)
    exact ⟨(1 + vN N (at' + 2) % 3).toNat, by omega, by omega, by omega⟩
  refine z_forP (f := nT) (fun (ys : List Nat) env => ∃ (js : List (Str × Str)) (v7 : Option Rb.T), env = [some W, some (.int at'), some (.int mi), some (.int me), some (.nd .lst true (items.map .str)), some (.int gr), some (.nd .lst true (js.map jT)), v7, none, none, none, none, none, none, none, none] ∧ (v7 = none ∨ ∃ y, v7 = some (nT y)) ∧ ys = (List.range nj).drop js.length ∧ js.map (·.1) = n3S.take js.length ∧ js.length ≤ nj ∧ ∀ jd ∈ js, drS jd.2) (ys := List.range nj) (evF_rng (n := nj) ?_ (by omega)) ⟨[], none, rfl, .inl rfl, rfl, rfl, by simp, fun _ z => by cases z⟩ ?_ ?_
  · have i1 := iW (at' + 2) (by omega)
    rw [Int.natCast_add] at i1
    have hm := bin_mod (vN N (at' + 2)) (j := 3) (by decide)
    simp only [ev, getS, List.getElem?_cons_zero, List.getElem?_cons_succ, optR_some, hsW, strip_int, bind_ok, bin_add]
    rw [show ((at' : Int) + 2) = (at' : Int) + ((2 : Nat) : Int) from rfl, i1, bind_ok, b1_int, bind_ok, hm, bind_ok, bin_add, hnj]
  · rintro _ y ys ⟨js, v7, rfl, hv7, hys, hjn, hjl, hjd⟩
    obtain ⟨rfl, hy, hys⟩ := range_drop hys
    obtain ⟨nm, hnm⟩ : ∃ nm, n3S[js.length]? = some nm := ⟨_, List.getElem?_eq_getElem (show js.length < 3 by omega)⟩
    obtain ⟨dT, hdm, hd⟩ := ix_mod true ((["rises", "falls", "rises", "falls", "stays"] : List Str).map .str) (vN N (at' + 3 + js.length)) (by decide)
    obtain ⟨d, hdr, rfl⟩ := List.mem_map.mp hdm
    have hdr2 : drS d := by
      simp only [List.mem_cons, List.not_mem_nil, or_false] at hdr
      unfold drS
      rcases hdr with rfl | rfl | rfl | rfl | rfl <;> simp
    refine ⟨[some W, some (.int at'), some (.int mi), some (.int me), some (.nd .lst true (items.map .str)), some (.int gr), some (.nd .lst true (js.map jT)), some (nT js.length), none, none, none, none, none, none, none, none], [some W, some (.int at'), some (.int mi), some (.int me), some (.nd .lst true (items.map .str)), some (.int gr), some (.nd .lst true ((js ++ [(nm, d)]).map jT)), some (nT js.length), none, none, none, none, none, none, none, none], by simp [asgP], .inl (z_app (xs := js.map jT) (t := jT (nm, d)) (by simp [getS]) ?_ (by simp [getS, frS, frSg]) (by rw [sizeLine_eq, List.length_map]; omega) (by simp [frS, frSg, hsW]) z_nil), ⟨js ++ [(nm, d)], some (nT js.length), rfl, .inr ⟨_, rfl⟩, by simpa using hys, ?_, by simp; omega, ?_⟩⟩
    · show ev _ [some W, some (.int at'), none, none, none, none, none, some (nT js.length), none, none, none, none, none, none, none, none] _ = _
      have el3 : ∀ env, ev (mkC T k) env (.lst [.lit (.str "ann"), .lit (.str "b"), .lit (.str "7")]) = .ok (.nd .lst true (n3S.map .str)) := fun env => by simp [ev, evs, sz3, n3S]
      have el5 : ∀ env, ev (mkC T k) env (.lst [.lit (.str "rises"), .lit (.str "falls"), .lit (.str "rises"), .lit (.str "falls"), .lit (.str "stays")]) = .ok (.nd .lst true ((["rises", "falls", "rises", "falls", "stays"] : List Str).map .str)) := fun env => by
        have : 5 ≤ sizeLine := by rw [sizeLine_eq]; decide
        simp [ev, evs, this]
      have e1 : ev (mkC T k) [some W, some (.int at'), none, none, none, none, none, some (nT js.length), none, none, none, none, none, none, none, none] (.sub (.lst [.lit (.str "ann"), .lit (.str "b"), .lit (.str "7")]) (.var 7)) = .ok (.str nm) := by
        rw [ev_sub (el3 _) (y := nT js.length) (by simp [ev, getS])]
        exact ix_nat true (t := .str nm) (by rw [List.getElem?_map, hnm]; rfl)
      have i1 := iW (at' + 3 + js.length) (by omega)
      rw [Int.natCast_add, Int.natCast_add] at i1
      have hm := bin_mod (vN N (at' + 3 + js.length)) (j := 5) (by decide)
      have e2 : ev (mkC T k) [some W, some (.int at'), none, none, none, none, none, some (nT js.length), none, none, none, none, none, none, none, none] (.sub (.lst [.lit (.str "rises"), .lit (.str "falls"), .lit (.str "rises"), .lit (.str "falls"), .lit (.str "stays")]) (.bin .Mod (.b1 .int (.sub (.var 0) (.bin .Add (.bin .Add (.var 1) (.lit (.int 3))) (.var 7)))) (.lit (.int 5)))) = .ok (.str d) := by
        rw [ev_sub (el5 _) (y := .int (vN N (at' + 3 + js.length) % 5)) (by
          simp only [ev, getS, List.getElem?_cons_zero, List.getElem?_cons_succ, optR_some, hsW, strip_int, bind_ok, bin_add, nT]
          rw [show ((at' : Int) + 3) = (at' : Int) + ((3 : Nat) : Int) from rfl, i1, bind_ok, b1_int, bind_ok, hm])]
        exact hd
      rw [ev, evs, e1, evs, e2]
      simp only [evs, bind_ok, List.length_cons, List.length_nil, sz2, if_true]
      rw [if_pos sz2, mkTup2 _ _ ⟨rfl, rfl⟩]
      rfl
    · rw [List.map_append, hjn, List.length_append, List.length_singleton, List.take_add_one, hnm]
      rfl
    · intro jd hjd'
      rcases List.mem_append.mp hjd' with z | z
      · exact hjd _ z
      · rw [List.mem_singleton] at z
        rw [z]; exact hdr2
  · rintro _ ⟨js, v7, rfl, hv7, hys, hjn, hjl, hjd⟩
    have hjsl : js.length = nj := by
      have := congrArg List.length hys
      simp at this
      omega
    -- the hidden qualities
    let hs : List Int := (List.range n).map fun y => vN N (at' + 6 + y) % 7
    have hhl : hs.length = n := by simp [hs]
    refine zp ?_ (z_asg_es (t := .nd .lst true (hs.map .int)) (env' := [some W, some (.int at'), some (.int mi), some (.int me), some (.nd .lst false (items.map .str)), some (.int gr), some (.nd .lst true (js.map jT)), v7, some (.nd .lst true (hs.map .int)), none, none, none, none, none, none, none]) ?_ (by rcases hv7 with rfl | ⟨y, rfl⟩ <;> simp [asgT, frS, frSg, hsW, strip, strips_strs]) rfl)
    rotate_left
    · show ev _ [some W, some (.int at'), none, none, some (.nd .lst true (items.map .str)), none, none, v7, none, none, none, none, none, none, none, none] _ = _
      have := ev_lc (C := mkC T k) (env := [some W, some (.int at'), none, none, some (.nd .lst true (items.map .str)), none, none, v7, none, none, none, none, none, none, none, none]) (tg := .nm 7) (it := .rng1 (.b1 .len (.var 4))) (elt := .bin .Mod (.b1 .int (.sub (.var 0) (.bin .Add (.bin .Add (.var 1) (.lit (.int 6))) (.var 7)))) (.lit (.int 7))) (ifs := []) (ys := List.range n) (f := nT) (fun _ => true) (fun y => .int (vN N (at' + 6 + y) % 7)) (evi_rng (n := n) (by simp [ev, getS, strip, strips_strs, hil]) (by omega)) (by simp; omega) fun y hy => by
        have hy := List.mem_range.mp hy
        refine ⟨[some W, some (.int at'), none, none, some (.nd .lst true (items.map .str)), none, none, some (nT y), none, none, none, none, none, none, none, none], rfl, rfl, fun _ => ?_⟩
        have i1 := iW (at' + 6 + y) (by omega)
        rw [Int.natCast_add, Int.natCast_add] at i1
        have hm := bin_mod (vN N (at' + 6 + y)) (j := 7) (by decide)
        simp only [ev, getS, List.getElem?_cons_zero, List.getElem?_cons_succ, optR_some, hsW, strip_int, bind_ok, bin_add, nT]
        rw [show ((at' : Int) + 6) = (at' : Int) + ((6 : Nat) : Int) from rfl, i1, bind_ok, b1_int, bind_ok, hm]
      rw [this, List.filter_eq_self.mpr fun _ _ => rfl]
      show _ = R.ok (Rb.T.nd .lst true (((List.range n).map fun y => vN N (at' + 6 + y) % 7).map .int))
      rw [List.map_map]
      rfl
    refine zp ?_ (z_asg_rd (t := .nd .lst true []) (env' := [some W, some (.int at'), some (.int mi), some (.int me), some (.nd .lst false (items.map .str)), some (.int gr), some (.nd .lst true (js.map jT)), v7, some (.nd .lst true (hs.map .int)), some (.nd .lst true []), none, none, none, none, none, none]) (by simp [ev, evs, sz0]) (by simp [own, owns]) (by simp [asgT]) rfl)
    obtain ⟨ne, hne, hne2⟩ : ∃ n : Nat, n ≤ me ∧ vN N (at' + 12) % ((me : Int) + 1) = n := by
      have a := Int.emod_nonneg (vN N (at' + 12)) (b := (me : Int) + 1) (by omega)
      have b := Int.emod_lt_of_pos (vN N (at' + 12)) (b := (me : Int) + 1) (by omega)
      exact ⟨(vN N (at' + 12) % ((me : Int) + 1)).toNat, by omega, by omega⟩
    refine z_forP (f := nT) (fun (ys : List Nat) env => ∃ (es : List Evt) (v7 : Option Rb.T), env = [some W, some (.int at'), some (.int mi), some (.int me), some (.nd .lst false (items.map .str)), some (.int gr), some (.nd .lst true (js.map jT)), v7, some (.nd .lst true (hs.map .int)), some (.nd .lst true (es.map evT)), none, none, none, none, none, none] ∧ ys = (List.range ne).drop es.length ∧ es.length ≤ ne ∧ ∀ e ∈ es, evOk items (js.map (·.1)) gr e) (ys := List.range ne) (e0 := [some W, some (.int at'), some (.int mi), some (.int me), some (.nd .lst false (items.map .str)), some (.int gr), some (.nd .lst true (js.map jT)), v7, some (.nd .lst true (hs.map .int)), some (.nd .lst true []), none, none, none, none, none, none]) (evF_rng (n := ne) ?_ (by omega)) ⟨[], v7, rfl, rfl, by simp, fun _ z => by cases z⟩ ?_ ?_
    · have i1 := iW (at' + 12) (by omega)
      rw [Int.natCast_add] at i1
      have hm := bin_mod (vN N (at' + 12)) (j := (me : Int) + 1) (by omega)
      simp only [ev, getS, List.getElem?_cons_zero, List.getElem?_cons_succ, optR_some, hsW, strip_int, bind_ok, bin_add]
      rw [show ((at' : Int) + 12) = (at' : Int) + ((12 : Nat) : Int) from rfl, i1, bind_ok, b1_int, bind_ok, hm, hne2]
    · rintro _ y ys ⟨es, v7, rfl, hys, hel, hes⟩
      obtain ⟨rfl, hy, hys⟩ := range_drop hys
      let E : List Evt → Option Rb.T → Option Rb.T → Option Rb.T → Option Rb.T → Option Rb.T → Option Rb.T → Env := fun es' v10 v11 v12 v13 v14 v15 => [some W, some (.int at'), some (.int mi), some (.int me), some (.nd .lst false (items.map .str)), some (.int gr), some (.nd .lst true (js.map jT)), some (nT es.length), some (.nd .lst true (hs.map .int)), some (.nd .lst true (es'.map evT)), v10, v11, v12, v13, v14, v15]
      let v := vN N (at' + 13 + es.length)
      -- the judge
      obtain ⟨jt, hjm, hji⟩ := ix_mod false (js.map jT) v (by rw [List.length_map]; omega)
      obtain ⟨jd, hjm2, rfl⟩ := List.mem_map.mp hjm
      rw [strip_jT, List.length_map] at hji
      have hjn' : jd.1 ∈ js.map (·.1) := List.mem_map_of_mem hjm2
      -- the place
      obtain ⟨pl, hpl, hpl2⟩ : ∃ p : Nat, p < n ∧ v / 27 % (n : Int) = p := by
        have a := Int.emod_nonneg (v / 27) (b := (n : Int)) (by omega)
        have b := Int.emod_lt_of_pos (v / 27) (b := (n : Int)) (by omega)
        exact ⟨(v / 27 % (n : Int)).toNat, by omega, by omega⟩
      obtain ⟨it, hit⟩ : ∃ i, items[pl]? = some i := ⟨_, List.getElem?_eq_getElem (by omega)⟩
      have hitm : it ∈ items := List.mem_of_getElem? hit
      obtain ⟨hq, hhq⟩ : ∃ i, hs[pl]? = some i := ⟨_, List.getElem?_eq_getElem (by omega)⟩
      have g10 : ∀ v10 v11 v12 v13 v14 v15, ev (mkC T k) (E es v10 v11 v12 v13 v14 v15) (.b1 .int (.sub (.var 0) (.bin .Add (.bin .Add (.var 1) (.lit (.int 13))) (.var 7)))) = .ok (.int v) := fun v10 v11 v12 v13 v14 v15 => by
        have i1 := iW (at' + 13 + es.length) (by omega)
        rw [Int.natCast_add, Int.natCast_add] at i1
        simp only [E, ev, getS, List.getElem?_cons_zero, List.getElem?_cons_succ, optR_some, hsW, strip_int, bind_ok, bin_add, nT]
        rw [show ((at' : Int) + 13) = (at' : Int) + ((13 : Nat) : Int) from rfl, i1, bind_ok, b1_int]
      have s6 : strip (.nd .lst true (js.map jT)) = .nd .lst false (js.map jT) := by simp [strip, strips_js]
      have s8 : strip (.nd .lst true (hs.map .int)) = .nd .lst false (hs.map .int) := by simp [strip, strips_ints]
      have g11 : ∀ v11 v12 v13 v14 v15, ev (mkC T k) (E es (some (.int v)) v11 v12 v13 v14 v15) (.sub (.var 6) (.bin .Mod (.b1 .int (.var 10)) (.b1 .len (.var 6)))) = .ok (jT jd) := fun v11 v12 v13 v14 v15 => by
        have hm := bin_mod v (j := (js.length : Int)) (by omega)
        simp only [E, ev, getS, List.getElem?_cons_zero, List.getElem?_cons_succ, optR_some, s6, strip_int, bind_ok, b1_int, len_lst, List.length_map, hm, hji]
      have g12 : ∀ v11 v12 v13 v14 v15, ev (mkC T k) (E es (some (.int v)) v11 v12 v13 v14 v15) (.bin .Mod (.b1 .int (.bin .FloorDiv (.var 10) (.lit (.int 3)))) (.lit (.int 9))) = .ok (.int (v / 3 % 9)) := fun v11 v12 v13 v14 v15 => by
        simp only [E, ev, getS, List.getElem?_cons_zero, List.getElem?_cons_succ, optR_some, strip_int, bind_ok, b1_int]
        rw [bin_div _ (by decide) (by decide), bind_ok, b1_int, bind_ok, bin_mod _ (by decide)]
      have g13 : ∀ v11 v12 v13 v14 v15, ev (mkC T k) (E es (some (.int v)) v11 v12 v13 v14 v15) (.bin .Mod (.b1 .int (.bin .FloorDiv (.var 10) (.lit (.int 27)))) (.b1 .len (.var 4))) = .ok (nT pl) := fun v11 v12 v13 v14 v15 => by
        simp only [E, ev, getS, List.getElem?_cons_zero, List.getElem?_cons_succ, optR_some, strip_int, bind_ok, b1_int, strip_ls2, len_lst, List.length_map, hil]
        rw [bin_div _ (by decide) (by decide), bind_ok, b1_int, bind_ok, bin_mod _ (by omega), hpl2]
        rfl
      have g15 : ∀ b : Int, ∃ g : Int, 0 ≤ g ∧ g ≤ gr ∧ ∀ v10 v11 v12 v15, ev (mkC T k) (E es v10 v11 v12 (some (nT pl)) (some (.int b)) v15) (.b2 true (.lit (.int 0)) (.b2 false (.var 5) (.bin .Sub (.sub (.var 8) (.var 13)) (.b1 .int (.bin .FloorDiv (.bin .Mult (.var 14) (.lit (.int 5))) (.bin .Add (.var 3) (.lit (.int 1)))))))) = .ok (.int g) := fun b => by
        have q := mx0 gr (hq - b * 5 / ((me : Int) + 1)) (by omega)
        refine ⟨_, q.1, q.2, fun v10 v11 v12 v15 => ?_⟩
        have ih : ixT (.nd .lst false (hs.map .int)) (nT pl) = .ok (.int hq) := ix_nat false (t := .int hq) (by rw [List.getElem?_map, hhq]; rfl)
        simp only [E, ev, getS, List.getElem?_cons_zero, List.getElem?_cons_succ, optR_some, strip_int, strip_nT, bind_ok, s8, ih, bin_add]
        rw [bin_mul_r _ (by decide) (by decide), bind_ok, bin_div _ (by omega) (by omega), bind_ok, b1_int, bind_ok, bin_sub, bind_ok, b2_ok, bind_ok, b2_ok]
        rfl
      have s11 : own (jT jd) = true := by simp [jT, own, flats, flat]
      have fin : ∀ (e : Evt), evOk items (js.map (·.1)) gr e → ∀ v10 v11 v12 v13 v14 v15, ∃ (es' : List Evt) (v7' : Option Rb.T), kill [7, 10, 11, 12, 13, 14, 15] (E (es ++ [e]) v10 v11 v12 v13 v14 v15) = [some W, some (.int at'), some (.int mi), some (.int me), some (.nd .lst false (items.map .str)), some (.int gr), some (.nd .lst true (js.map jT)), v7', some (.nd .lst true (hs.map .int)), some (.nd .lst true (es'.map evT)), none, none, none, none, none, none] ∧ ys = (List.range ne).drop es'.length ∧ es'.length ≤ ne ∧ ∀ e ∈ es', evOk items (js.map (·.1)) gr e := fun e he v10 v11 v12 v13 v14 v15 => by
        refine ⟨es ++ [e], none, by simp [kill, E], by simpa using hys, by simp; omega, fun e' he' => ?_⟩
        rcases List.mem_append.mp he' with z | z
        · exact hes _ z
        · rw [List.mem_singleton] at z
          rw [z]; exact he
      have hlen : (es.map evT).length < sizeLine := by rw [sizeLine_eq, List.length_map]; omega
      have hb : ∃ b : Int, ∀ ss r, execs (mkC T k) ss (E es (some (.int v)) (some (jT jd)) (some (.int (v / 3 % 9))) (some (nT pl)) (some (.int b)) none) = r → execs (mkC T k) (y_log_ev.take 6 ++ ss) (E es none none none none none none) = r := by
        have s1 : ∀ ss r, execs (mkC T k) ss (E es (some (.int v)) (some (jT jd)) (some (.int (v / 3 % 9))) (some (nT pl)) (some (nT es.length)) none) = r → execs (mkC T k) (y_log_ev.take 5 ++ ss) (E es none none none none none none) = r := fun ss r hr =>
          z_asg_rd (env' := E es (some (.int v)) none none none none none) (g10 _ _ _ _ _ _) rfl rfl (z_asg_rd (env' := E es (some (.int v)) (some (jT jd)) none none none none) (g11 _ _ _ _ _) s11 rfl (z_asg_rd (env' := E es (some (.int v)) (some (jT jd)) (some (.int (v / 3 % 9))) none none none) (g12 _ _ _ _ _) rfl rfl (z_asg_rd (env' := E es (some (.int v)) (some (jT jd)) (some (.int (v / 3 % 9))) (some (nT pl)) none none) (g13 _ _ _ _ _) rfl rfl (z_asg_es (t := nT es.length) (env' := E es (some (.int v)) (some (jT jd)) (some (.int (v / 3 % 9))) (some (nT pl)) (some (nT es.length)) none) (by
            show ev _ [none, none, none, none, none, none, none, some (nT es.length), none, none, none, none, none, none, none, none] _ = _
            simp [ev, getS]) rfl hr))))
        have ec : ev (mkC T k) (E es (some (.int v)) (some (jT jd)) (some (.int (v / 3 % 9))) (some (nT pl)) (some (nT es.length)) none) (.cmp .Eq (.sub (.var 11) (.lit (.int 1))) (.lit (.str "falls"))) = .ok (.bl (jd.2 == "falls")) := by
          simp [E, ev, getS, strip_jT, jT_1]
        cases z : (jd.2 == ("falls" : Str)) with
        | true =>
          rw [z] at ec
          refine ⟨(me : Int) - es.length, fun ss r hr => ?_⟩
          refine s1 _ _ (z_if_nx ec (z_asg_es (t := .int ((me : Int) - es.length)) (env' := E es (some (.int v)) (some (jT jd)) (some (.int (v / 3 % 9))) (some (nT pl)) (some (.int ((me : Int) - es.length))) none) ?_ rfl z_nil) hr)
          show ev _ [none, none, none, some (.int me), none, none, none, some (nT es.length), none, none, none, none, none, none, none, none] _ = _
          simp [ev, getS, nT]
        | false =>
          rw [z] at ec
          exact ⟨es.length, fun ss r hr => s1 _ _ (z_if_f ec hr)⟩
      obtain ⟨b, hb⟩ := hb
      obtain ⟨g, hg0, hg1, hg⟩ := g15 b
      let F : List Evt → Int → Env := fun es' g => E es' (some (.int v)) (some (jT jd)) (some (.int (v / 3 % 9))) (some (nT pl)) (some (.int b)) (some (.int g))
      have tail : ∃ (e : Evt) (g' : Int), evOk items (js.map (·.1)) gr e ∧ execs (mkC T k) (y_log_ev.drop 7) (F es g) = .nx (F (es ++ [e]) g') := by
        have ec : ev (mkC T k) (F es g) (.cmp .Eq (.var 12) (.lit (.int 0))) = .ok (.bl (v / 3 % 9 == 0)) := by
          simp [F, E, ev, getS]
        cases z : (v / 3 % 9 == 0) with
        | true =>
          rw [z] at ec
          refine ⟨.rst jd.1, g, hjn', z_if_nx ec (z_app (xs := es.map evT) (t := evT (.rst jd.1)) rfl ?_ rfl hlen ?_ z_nil) z_nil⟩
          · show ev _ [none, none, none, none, none, none, none, none, none, none, none, some (jT jd), none, none, none, none] _ = _
            simp [ev, evs, getS, strip_jT, jT_0, sz2, mkTup, flats, flat, evT]
          · simp [F, E, frS, frSg, strip_jT]
        | false =>
          rw [z] at ec
          have ap : ∀ g' : Int, execs (mkC T k) [.app 9 [] (.es [4, 11, 13, 15] (.tup [.lit (.str "answer"), .sub (.var 11) (.lit (.int 0)), .sub (.var 4) (.var 13), .var 15]))] (F es g') = .nx (F (es ++ [.ans jd.1 it g']) g') := fun g' => by
            refine z_app (xs := es.map evT) (t := evT (.ans jd.1 it g')) rfl ?_ rfl hlen ?_ z_nil
            · show ev _ [none, none, none, none, some (.nd .lst false (items.map .str)), none, none, none, none, none, none, some (jT jd), none, some (nT pl), none, some (.int g')] _ = _
              have ii : ixT (.nd .lst false (items.map .str)) (nT pl) = .ok (.str it) := ix_nat false (t := .str it) (by rw [List.getElem?_map, hit]; rfl)
              simp [ev, evs, getS, strip_jT, jT_0, strip_ls2, ii, sz4, mkTup, flats, flat, evT]
            · simp [F, E, frS, frSg, strip_jT, strip_ls2]
          have ec2 : ∃ c, ev (mkC T k) (F es g) (.bo .Or [.cmp .Eq (.var 12) (.lit (.int 1)), .bo .And [.cmp .Eq (.sub (.var 11) (.lit (.int 1))) (.lit (.str "stays")), .cmp .Lt (.var 12) (.lit (.int 5))]]) = .ok (.bl c) := by
            refine ⟨(v / 3 % 9 == 1) || ((jd.2 == "stays") && decide (v / 3 % 9 < 5)), ?_⟩
            simp only [F, E, ev, evb, getS, List.getElem?_cons_zero, List.getElem?_cons_succ, optR_some, strip_int, strip_jT, bind_ok, cmp_eq, eqr_i, truth_bl, boPick, jT_1, eqr_s, cmp_lt]
            cases (v / 3 % 9 == 1) <;> cases (jd.2 == ("stays" : Str)) <;> rfl
          obtain ⟨c, ec2⟩ := ec2
          cases c with
          | false => exact ⟨.ans jd.1 it g, g, ⟨hjn', hitm, hg0, hg1⟩, z_if_el ec (z_if_f ec2 (ap g)) z_nil⟩
          | true =>
            have d0 := Int.emod_nonneg (v / 31) (b := gr + 1) (by omega)
            have d1 := Int.emod_lt_of_pos (v / 31) (b := gr + 1) (by omega)
            refine ⟨.ans jd.1 it (v / 31 % (gr + 1)), v / 31 % (gr + 1), ⟨hjn', hitm, d0, by omega⟩, z_if_el ec (z_if_nx ec2 (z_asg_rd (t := .int (v / 31 % (gr + 1))) (env' := F es (v / 31 % (gr + 1))) ?_ rfl rfl z_nil) (ap _)) z_nil⟩
            simp only [F, E, ev, getS, List.getElem?_cons_zero, List.getElem?_cons_succ, optR_some, strip_int, bind_ok, b1_int]
            rw [bin_div _ (by decide) (by decide), bind_ok, b1_int, bind_ok, bin_add, bind_ok, bin_mod _ (by omega)]
      obtain ⟨e, g', hev, ht⟩ := tail
      refine ⟨E es none none none none none none, F (es ++ [e]) g', rfl, .inl (hb _ _ (z_asg_rd (env' := F es g) (hg _ _ _ _) rfl rfl ht)), ?_⟩
      exact fin e hev _ _ _ _ _ _
    · rintro _ ⟨es, v7, rfl, hys, hel, hes⟩
      refine zp (hP ⟨items, gr, js, es⟩ ⟨⟨n, hn0, hn6, rfl⟩, hgr, ⟨nj, hj0, hj3, by rw [← hjsl]; exact hjn⟩, hjd, hes, Nat.le_trans hel hne⟩ (by show items.length ≤ mi; omega)) (z_ret_es ?_)
      show ev _ [none, none, none, none, some (.nd .lst false (items.map .str)), some (.int gr), some (.nd .lst true (js.map jT)), none, none, some (.nd .lst true (es.map evT)), none, none, none, none, none, none] _ = _
      have s6 : strip (.nd .lst true (js.map jT)) = .nd .lst false (js.map jT) := by simp [strip, strips_js]
      have s8 : strip (.nd .lst true (es.map evT)) = .nd .lst false (es.map evT) := by simp [strip, strips_evs]
      simp [ev, evs, getS, sz4, s6, s8, strip_ls2, mkTup, flats, flat, paO]
theorem log_ok {N : List Int} {at' mi me : Nat} (hN : at' + 13 + me ≤ N.length) (h1 : 0 < mi) (h2 : mi ≤ 6) (h3 : me ≤ 100) : ∃ L : Lg, Drawn me L ∧ (mkC T (k + 1)).fn "_law_log" [.nd .lst false (N.map .int), .int at', .int mi, .int me] = .ok (paO L) := by
  obtain ⟨L, a, _, b⟩ := log_ok2 h k hN h1 h2 h3
  exact ⟨L, a, b⟩
end
end Rb
namespace Rb
open PySem
open PySem.Spec
open L2
theorem Drawn.wfd {me : Nat} {L : Lg} (d : Drawn me L) : WfD L := fun j x h => d.dr (j, x) h
theorem six_take {n : Nat} : (sixS.take n).Nodup ∧ (sixS.take n).length ≤ 6 := by
  refine ⟨List.Nodup.sublist (List.take_sublist _ _) (by decide), ?_⟩
  rw [List.length_take]
  exact Nat.min_le_right _ _
theorem Drawn.wf {me : Nat} {L : Lg} (d : Drawn me L) (hme : me ≤ 120) : Wf L := by
  obtain ⟨n, hn0, hn6, hi⟩ := d.it
  obtain ⟨m, hm0, hm3, hj⟩ := d.js
  have hjl : L.js.length ≤ 3 := by
    have := congrArg List.length hj
    rw [List.length_map, List.length_take] at this
    omega
  refine ⟨Nat.le_trans d.el hme, by omega, ?_, ?_, ?_, ?_, ?_⟩
  · rw [hj]
    exact List.Nodup.sublist (List.take_sublist _ _) (by decide)
  · rw [hi]; exact six_take.1
  · rw [hi]; exact Nat.le_trans six_take.2 (by decide)
  · rw [hi, List.length_take]
    show 0 < min n 6
    omega
  · intro p j i g h
    have := d.es _ (List.mem_of_getElem? h)
    obtain ⟨a, b, _⟩ := this
    obtain ⟨jd, c, e⟩ := List.mem_map.mp a
    exact ⟨⟨jd.2, by rw [← e]; exact c⟩, b⟩
theorem boolsT_ok : ∀ bs : List Bool, boolsT (bs.map T.bl) = some bs
  | [] => rfl
  | b :: bs => by rw [List.map_cons, boolsT, boolsT_ok bs]; rfl
theorem all_lst {α : Type} (o : Bool) (ys : List α) (g : α → Bool) (h : ∀ y ∈ ys, g y = true) : b1T .all (.nd .lst o (ys.map fun y => .bl (g y))) = .ok (.bl true) := by
  have e : (ys.map fun y => T.bl (g y)) = (ys.map g).map .bl := by rw [List.map_map]; rfl
  rw [e, b1T, boolsT_ok, optR_some]
  congr 2
  rw [List.all_eq_true]
  intro b hb
  obtain ⟨y, hy, rfl⟩ := List.mem_map.mp hb
  exact h y hy
def lettS : Str := "abcdefghijklmnopqrstuvwxyz0123456789"
/-- is a text a name -/
def nmB (x : Str) : Bool := decide (1 ≤ x.length) && decide (x.length ≤ 12) && x.cps.toList.all fun c => isIn c lettS
theorem strsT_ok : ∀ xs : List Str, strsT (xs.map T.str) = some xs
  | [] => rfl
  | x :: xs => by rw [List.map_cons, strsT, strsT_ok xs]; rfl
theorem scan_gt : 1000 < scanBound := by decide
section
variable {T : Tab} (h : LogTab T) (k : Nat)
include h
theorem is_name_ok {x : Str} (hx : nmB x = true) : (mkC T (k + 1)).fn "is_name" [.str x] = .ok (.bl true) := by
  rw [fn_of h.is_name]
  unfold nmB at hx
  rw [Bool.and_eq_true, Bool.and_eq_true, decide_eq_true_eq, decide_eq_true_eq, List.all_eq_true] at hx
  have hlen : x.cps.toList.length ≤ 12 := hx.1.2
  refine call_rt (env := [some (.str x), none]) rfl (by simp [env0, strips]) (z_ret_rd ?_ rfl)
  have l1 : (1 : Int) ≤ (x.length : Int) := by have := hx.1.1; omega
  have l2 : (x.length : Int) ≤ 12 := by have := hx.1.2; omega
  refine ev_and (x := true) ?_ (fun _ => ?_) (fun z => by cases z)
  · simp only [ev, getS, List.getElem?_cons_zero, optR_some, strip_str, bind_ok]
    have : b1T .len (.str x) = .ok (.int x.length) := rfl
    rw [this, bind_ok, cmp_le, decide_eq_true l1, bind_ok]
    simp only [cmp_le, decide_eq_true l2]
  · have el := ev_lc (C := mkC T k) (env := [some (.str x), none]) (tg := .nm 1) (it := .seq (.var 0)) (elt := .cmp .In (.var 1) (.glb "LETTERS" (.inr "abcdefghijklmnopqrstuvwxyz0123456789"))) (ifs := []) (ys := x.cps.toList) (f := fun c => .str ⟨#[c]⟩) (fun _ => true) (fun c => .bl (isIn c lettS)) (evi_seq (t := .str x) (by simp [ev, getS]) rfl) (by omega) fun c hc => by
      refine ⟨[some (.str x), some (.str ⟨#[c]⟩)], rfl, rfl, fun _ => ?_⟩
      simp only [ev, getS, List.getElem?_cons_zero, List.getElem?_cons_succ, optR_some, strip_str, bind_ok, cmp_in]
      rfl
    rw [List.filter_eq_self.mpr fun _ _ => rfl] at el
    exact ev_b1 el (all_lst _ _ _ hx.2)
theorem is_drift_ok {x : Str} (hx : drS x) : (mkC T (k + 1)).fn "is_drift" [.str x] = .ok (.bl true) := by
  rw [fn_of h.is_drift]
  refine call_rt (env := [some (.str x)]) rfl (by simp [env0, strips]) (z_ret_rd ?_ rfl)
  have et : ev (mkC T k) [some (.str x)] (.tup [.glb "RISES" (.inr "rises"), .glb "FALLS" (.inr "falls"), .glb "STAYS" (.inr "stays")]) = .ok (.nd .tup false [.str "rises", .str "falls", .str "stays"]) := by
    simp [ev, evs, keyO, sz3, mkTup, flats, flat]
  rw [ev_cmp (x := .str x) (by simp [ev, getS]) et, cmp_in]
  have : inR (.str x) (.nd .tup false [.str "rises", .str "falls", .str "stays"]) = .ok true := by
    rcases hx with rfl | rfl | rfl <;> simp [inR, atomT, eqT]
  rw [this, bnd_ok]
omit h in
theorem ev_and3 {C : Calls} {env : Env} {a b c : IE} {y : Rb.T} (h1 : ev C env a = .ok (.bl true)) (h2 : ev C env b = .ok (.bl true)) (h3 : ev C env c = .ok y) : ev C env (.bo .And [a, b, c]) = .ok y := by
  simp only [ev, evb, h1, h2, h3, bind_ok, truth_bl, boPick, if_true]
omit h in
theorem ev_or3 {C : Calls} {env : Env} {a b c : IE} {y : Rb.T} (h1 : ev C env a = .ok (.bl false)) (h2 : ev C env b = .ok (.bl false)) (h3 : ev C env c = .ok y) : ev C env (.bo .Or [a, b, c]) = .ok y := by
  simp only [ev, evb, h1, h2, h3, bind_ok, truth_bl, boPick]
  simp
omit h in
theorem lset_ok (o : Bool) {xs : List Str} (hn : xs.Nodup) (hl : xs.length ≤ 100) : lsetT (.nd .lst o (xs.map .str)) = .ok (.int xs.length) := by
  have h2 : (decide xs.Nodup && decide (xs.length + 1 < scanBound)) = true := by
    have := scan_gt
    rw [Bool.and_eq_true, decide_eq_true_eq, decide_eq_true_eq]
    exact ⟨hn, by omega⟩
  rw [lsetT, strsT_ok, optR_some, if_pos h2]
theorem are_names_ok {xs : List Str} {m : Int} (h1 : 0 < xs.length) (h2 : (xs.length : Int) ≤ m) (h3 : xs.length ≤ 100) (hn : xs.Nodup) (hx : ∀ x ∈ xs, nmB x = true) : (mkC T (k + 2)).fn "are_names" [.nd .lst false (xs.map .str), .int m] = .ok (.bl true) := by
  rw [fn_of h.are_names]
  refine call_rt (env := [some (.nd .lst false (xs.map .str)), some (.int m), none]) rfl (by simp [env0, strips, strip_ls2]) (z_ret_rd ?_ rfl)
  have l1 : (1 : Int) ≤ (xs.length : Int) := by omega
  refine ev_and3 ?_ ?_ ?_
  · simp [ev, getS, strip_ls2, l1, h2]
  · have el := ev_lc (C := mkC T (k + 1)) (env := [some (.nd .lst false (xs.map .str)), some (.int m), none]) (tg := .nm 2) (it := .seq (.var 0)) (elt := .call "is_name" [.var 2]) (ifs := []) (ys := xs) (f := .str) (fun _ => true) (fun x => .bl true) (evi_seq (t := .nd .lst false (xs.map .str)) (by simp [ev, getS, strip_ls2]) rfl) (by omega) fun x hx' => by
      refine ⟨[some (.nd .lst false (xs.map .str)), some (.int m), some (.str x)], rfl, rfl, fun _ => ?_⟩
      rw [ev_call (ts := [.str x]) (by simp [evs, ev, getS])]
      exact is_name_ok h k (hx x hx')
    rw [List.filter_eq_self.mpr fun _ _ => rfl] at el
    exact ev_b1 el (all_lst _ _ (fun _ => true) fun _ _ => rfl)
  · have e1 : ev (mkC T (k + 1)) [some (.nd .lst false (xs.map .str)), some (.int m), none] (.lset (.var 0)) = .ok (.int xs.length) := by
      simp [ev, getS, strip_ls2, lset_ok _ hn h3]
    rw [ev_cmp e1 (y := .int xs.length) (by simp [ev, getS, strip_ls2]), cmp_eq, eqr_i]
    simp
theorem is_event_ok {items names : List Str} {gr : Int} {e : Evt} (he : evOk items names gr e) : (mkC T (k + 1)).fn "is_event" [evT e, .nd .lst false (items.map .str), .int gr, .nd .lst false (names.map .str)] = .ok (.bl true) := by
  rw [fn_of h.is_event]
  refine call_rt (env := [some (evT e), some (.nd .lst false (items.map .str)), some (.int gr), some (.nd .lst false (names.map .str))]) rfl (by simp [env0, strips, strip_ls2, strip_evT]) ?_
  cases e with
  | rst j =>
    refine z_if_rt ?_ (z_ret_rd (t := .bl true) ?_ rfl)
    · simp [ev, evb, getS, strip_evT, len_evT, isA, boPick, keyO]
    · have : j ∈ names := he
      simp [ev, getS, strip_evT, judE, strip_ls2, inR_str, this]
  | ans j i g =>
    obtain ⟨a, b, c, d⟩ := he
    refine z_if_f ?_ (z_if_f ?_ (z_ret_rd (t := .bl true) ?_ rfl))
    · simp [ev, evb, getS, strip_evT, len_evT, isA, boPick, keyO]
    · simp [ev, evb, getS, strip_evT, len_evT, isA, boPick, keyO]
    · refine ev_and3 ?_ ?_ ?_
      · simp [ev, getS, strip_evT, judE, strip_ls2, inR_str, a]
      · simp [ev, getS, strip_evT, ev_item, strip_ls2, inR_str, b]
      · simp [ev, getS, strip_evT, ev_grade, c, d]
omit h in
theorem z_fld {C : Calls} {env env' : Env} {ss : List IS} {r : SR} {f cn : String} {fv : List Nat} {e : IE} {t : Rb.T} {fs : List String} {xs : List Rb.T} (h : ev C (keepS fv env) e = .ok t) (hi : getS (frS fv env) 0 = some (.nd (.obj cn fs) true xs)) (hf : C.fld cn f = true) (hl : fs.length < 1000) (hm : f ∉ fs) (he : (frS fv env).set 0 (some (.nd (.obj cn (fs ++ [f])) true (xs ++ [t]))) = env') (hr : execs C ss env' = r) : execs C (.fld f (.es fv e) :: ss) env = r := by
  have h2 : (C.fld cn f && decide (fs.length < 1000) && (!memK f fs || decide fs.Nodup)) = true := by
    rw [hf, decide_eq_true hl, memK_f hm]; rfl
  have h3 : fldT C f t (.nd (.obj cn fs) true xs) = some (.nd (.obj cn (fs ++ [f])) true (xs ++ [t])) := by
    rw [fldT, if_pos h2, putT, memK_f hm]; rfl
  rw [execs, exec]
  simp only [evL, h, VR.go, modS, hi, nodeAt, h3, putAt, he, SR.seq, hr]
omit h in
theorem call_init {C : Calls} {cn : String} {n np : Nat} {xs : List IS} {ts : List Rb.T} {env env' : Env} {t : Rb.T} (hl : ts.length + 1 = np) (he : env0 (n - 1) ts = env) (h : execs C xs (some (.nd (.obj cn []) true []) :: env) = .nx env') (hg : getS env' 0 = some t) : initB C cn n np xs ts = .ok t := by
  subst he
  rw [initB, if_pos hl, h, endI, hg]
/-- the log as it is made -/
def lgO (L : Lg) : Rb.T := .nd (.obj "Log" ["_items", "_grades", "_judges", "_events"]) true [.nd .lst true (L.items.map .str), .int L.gr, .nd .lst true (L.js.map jT), .nd .lst true (L.es.map evT)]
omit h in
@[simp] theorem strip_lgO (L : Lg) : strip (lgO L) = lgT L := by simp [lgO, lgT, strip, strips, strips_strs, strips_js, strips_evs]
/-- what the constructor asks of the parts -/
structure Fit (L : Lg) : Prop where
  i0 : 0 < L.items.length
  i1 : L.items.length ≤ 20
  i2 : L.items.Nodup
  i3 : ∀ x ∈ L.items, nmB x = true
  j0 : 0 < L.js.length
  j1 : L.js.length ≤ 8
  j2 : (L.js.map (·.1)).Nodup
  j3 : ∀ x ∈ L.js.map (·.1), nmB x = true
  j4 : ∀ jd ∈ L.js, drS jd.2
  g0 : 1 ≤ L.gr
  g1 : L.gr ≤ 9
  e0 : L.es.length ≤ 120
  e1 : ∀ e ∈ L.es, evOk L.items (L.js.map (·.1)) L.gr e
theorem init_ok {L : Lg} (f : Fit L) : (mkC T (k + 3)).nw "Log" [.nd .lst false (L.items.map .str), .int L.gr, .nd .lst false (L.js.map jT), .nd .lst false (L.es.map evT)] = .ok (lgO L) := by
  rw [nw_of h.Log]
  obtain ⟨I, hI⟩ : ∃ W : Rb.T, W = .nd .lst false (L.items.map .str) := ⟨_, rfl⟩
  obtain ⟨J, hJ⟩ : ∃ W : Rb.T, W = .nd .lst false (L.js.map jT) := ⟨_, rfl⟩
  obtain ⟨S, hS⟩ : ∃ W : Rb.T, W = .nd .lst false (L.es.map evT) := ⟨_, rfl⟩
  have sI : strip I = I := by rw [hI, strip_ls2]
  have sJ : strip J = J := by rw [hJ]; simp [strip, strips_js]
  have sS : strip S = S := by rw [hS]; simp [strip, strips_evs]
  rw [← hI, ← hJ, ← hS]
  let NM := L.js.map (·.1)
  have hNl : NM.length = L.js.length := by simp [NM]
  let A : Env := [some (.nd (.obj "Log" []) true []), some I, some (.int L.gr), some J, some S, none, none, none]
  let B : Env := [some (.nd (.obj "Log" []) true []), some I, some (.int L.gr), some J, some S, some (.nd .lst true (NM.map .str)), none, none]
  have sN : strip (.nd .lst true (NM.map .str)) = .nd .lst false (NM.map .str) := strip_ls3 _
  refine call_init (env := [some I, some (.int L.gr), some J, some S, none, none, none]) (env' := [some (lgO L), some I, some (.int L.gr), some J, some S, some (.nd .lst true (NM.map .str)), none, none]) rfl (by simp [env0, strips, sI, sJ, sS]) (z_if_f (ev_no (b := true) ?_) (z_asg_es (t := .nd .lst true (NM.map .str)) (env' := B) ?_ ?_ (z_if_f ?_ (z_if_f ?_ ?_)))) rfl
  · have el := ev_lc (C := mkC T (k + 2)) (env := A) (tg := .nm 6) (it := .seq (.var 3)) (elt := .bo .And [.cmp .Eq (.b1 .len (.var 6)) (.lit (.int 2)), .call "is_drift" [.sub (.var 6) (.lit (.int 1))]]) (ifs := []) (ys := L.js) (f := jT) (fun _ => true) (fun x => .bl true) (evi_seq (t := J) (by simp [A, ev, getS, sJ]) (by rw [hJ]; rfl)) (by have := f.j1; omega) fun x hx' => by
      refine ⟨[some (.nd (.obj "Log" []) true []), some I, some (.int L.gr), some J, some S, none, some (jT x), none], rfl, rfl, fun _ => ?_⟩
      refine ev_and (x := true) ?_ (fun _ => ?_) (fun z => by cases z)
      · rw [ev_cmp (ev_b1 (x := jT x) (y := .int 2) (by simp [ev, getS, strip_jT]) (by simp [jT])) (by rw [ev]), cmp_eq, eqr_i]
        rfl
      · rw [ev_call (ts := [.str x.2]) (by simp [evs, ev, getS, strip_jT, jT_1])]
        exact is_drift_ok h (k + 1) (f.j4 x hx')
    rw [List.filter_eq_self.mpr fun _ _ => rfl] at el
    exact ev_b1 el (all_lst _ _ (fun _ => true) fun _ _ => rfl)
  · show ev _ [none, none, none, some J, none, none, none, none] _ = _
    have el := ev_lc (C := mkC T (k + 2)) (env := [none, none, none, some J, none, none, none, none]) (tg := .nm 6) (it := .seq (.var 3)) (elt := .sub (.var 6) (.lit (.int 0))) (ifs := []) (ys := L.js) (f := jT) (fun _ => true) (fun x => .str x.1) (evi_seq (t := J) (by simp [ev, getS, sJ]) (by rw [hJ]; rfl)) (by have := f.j1; omega) fun x hx' => by
      exact ⟨[none, none, none, some J, none, none, some (jT x), none], rfl, rfl, fun _ => by simp [ev, getS, strip_jT, jT_0]⟩
    rw [List.filter_eq_self.mpr fun _ _ => rfl] at el
    rw [el]
    simp [NM]
  · simp [A, B, asgT, frS, frSg, sJ]
  · refine ev_or3 (ev_no (b := true) ?_) (ev_no (b := true) ?_) (ev_no (b := true) ?_)
    · rw [ev_call (ts := [I, .int 20]) (by simp [B, evs, ev, getS, keyO, sI])]
      simp only [strips, sI, strip_int]
      rw [hI]
      exact are_names_ok h k f.i0 (by have := f.i1; omega) (by have := f.i1; omega) f.i2 f.i3
    · rw [ev_call (ts := [.nd .lst false (NM.map .str), .int 8]) (by simp [B, evs, ev, getS, keyO, sN])]
      simp only [strips, strip_ls2, strip_int]
      exact are_names_ok h k (by rw [hNl]; exact f.j0) (by have := f.j1; omega) (by have := f.j1; omega) f.j2 f.j3
    · simp [B, ev, getS, keyO, f.g0, f.g1]
  · refine ev_or (x := false) ?_ (fun _ => ev_no (b := true) ?_) (fun z => by cases z)
    · have e1 : b1T .len S = .ok (.int L.es.length) := by rw [hS, len_lst, List.length_map]
      have : ¬ (120 : Int) < (L.es.length : Int) := by have := f.e0; omega
      simp [B, ev, getS, keyO, sS, e1, this]
    · have el := ev_lc (C := mkC T (k + 2)) (env := B) (tg := .nm 7) (it := .seq (.var 4)) (elt := .call "is_event" [.var 7, .var 1, .var 2, .var 5]) (ifs := []) (ys := L.es) (f := evT) (fun _ => true) (fun x => .bl true) (evi_seq (t := S) (by simp [B, ev, getS, sS]) (by rw [hS]; rfl)) (by have := f.e0; omega) fun x hx' => by
        refine ⟨[some (.nd (.obj "Log" []) true []), some I, some (.int L.gr), some J, some S, some (.nd .lst true (NM.map .str)), none, some (evT x)], rfl, rfl, fun _ => ?_⟩
        rw [ev_call (ts := [evT x, I, .int L.gr, .nd .lst false (NM.map .str)]) (by simp [evs, ev, getS, strip_evT, sI, sN])]
        simp only [strips, strip_ls2, strip_int, strip_evT, sI]
        rw [hI]
        exact is_event_ok h (k + 1) (f.e1 x hx')
      rw [List.filter_eq_self.mpr fun _ _ => rfl] at el
      exact ev_b1 el (all_lst _ _ (fun _ => true) fun _ _ => rfl)
  · refine z_fld (cn := "Log") (fs := []) (xs := []) (t := .nd .lst true (L.items.map .str)) (env' := [some (.nd (.obj "Log" ["_items"]) true [.nd .lst true (L.items.map .str)]), some I, some (.int L.gr), some J, some S, some (.nd .lst true (NM.map .str)), none, none]) ?_ rfl (fld_of h.f_items _) (by decide) (by simp) (by simp [B, frS, frSg, sI]) ?_
    · show ev _ [none, some I, none, none, none, none, none, none] _ = _
      rw [hI]
      simp [ev, getS, strip_ls2, strips_strs]
    refine z_fld (cn := "Log") (fs := ["_items"]) (t := .int L.gr) (env' := [some (.nd (.obj "Log" ["_items", "_grades"]) true [.nd .lst true (L.items.map .str), .int L.gr]), some I, some (.int L.gr), some J, some S, some (.nd .lst true (NM.map .str)), none, none]) ?_ rfl (fld_of h.f_grades _) (by decide) (by simp) (by simp [frS, frSg]) ?_
    · show ev _ [none, none, some (.int L.gr), none, none, none, none, none] _ = _
      simp [ev, getS]
    refine z_fld (cn := "Log") (fs := ["_items", "_grades"]) (t := .nd .lst true (L.js.map jT)) (env' := [some (.nd (.obj "Log" ["_items", "_grades", "_judges"]) true [.nd .lst true (L.items.map .str), .int L.gr, .nd .lst true (L.js.map jT)]), some I, some (.int L.gr), some J, some S, some (.nd .lst true (NM.map .str)), none, none]) ?_ rfl (fld_of h.f_judges _) (by decide) (by simp) (by simp [frS, frSg, sJ]) ?_
    · show ev _ [none, none, none, some J, none, none, none, none] _ = _
      rw [hJ]
      simp [ev, getS, strip, strips_js]
    refine z_fld (cn := "Log") (fs := ["_items", "_grades", "_judges"]) (t := .nd .lst true (L.es.map evT)) ?_ rfl (fld_of h.f_events _) (by decide) (by simp) (by simp [frS, frSg, sS, lgO]) z_nil
    · show ev _ [none, none, none, none, some S, none, none, none] _ = _
      rw [hS]
      simp [ev, getS, strip, strips_evs]
theorem made_ok {L : Lg} (f : Fit L) : (mkC T (k + 4)).fn "_law_made" [paT L] = .ok (lgO L) := by
  rw [fn_of h._law_made]
  refine call_rt (env := [some (paT L)]) rfl (by simp [env0, strips]) (z_ret_es ?_)
  show ev _ [some (paT L)] _ = _
  have pg : ixT (paT L) (.int 1) = .ok (.int L.gr) := by simp [paT, ixT, atI, ixN, strip]
  have es' : evs (mkC T (k + 3)) [some (paT L)] [.b1 .list (.sub (.var 0) (.lit (.int 0))), .sub (.var 0) (.lit (.int 1)), .b1 .list (.sub (.var 0) (.lit (.int 2))), .b1 .list (.sub (.var 0) (.lit (.int 3)))] = .ok [.nd .lst true (L.items.map .str), .int L.gr, .nd .lst true (L.js.map jT), .nd .lst true (L.es.map evT)] := by
    simp [evs, ev, getS, pa_items, pg, pa_js, pa_es, strips_strs, strips_js, strips_evs]
  rw [ev, es', bnd_ok]
  simp only [strips, strip, strips_strs, strips_js, strips_evs]
  exact init_ok h k f
end
theorem six_names : ∀ x ∈ sixS, nmB x = true := by decide
theorem n3_names : ∀ x ∈ n3S, nmB x = true := by decide
theorem Drawn.fit {me : Nat} {L : Lg} (d : Drawn me L) (hme : me ≤ 120) : Fit L := by
  have w := d.wf hme
  obtain ⟨n, hn0, hn6, hi⟩ := d.it
  obtain ⟨m, hm0, hm3, hj⟩ := d.js
  refine ⟨w.it_pos, w.it_len, w.it_nd, ?_, ?_, w.js_len, w.js_nd, ?_, d.dr, ?_, ?_, w.es_len, d.es⟩
  · rw [hi]; exact fun x hx => six_names x (List.mem_of_mem_take hx)
  · have := congrArg List.length hj
    rw [List.length_map, List.length_take] at this
    have e3 : n3S.length = 3 := rfl
    omega
  · rw [hj]; exact fun x hx => n3_names x (List.mem_of_mem_take hx)
  · have := d.gr
    simp only [List.mem_cons, List.not_mem_nil, or_false] at this
    omega
  · have := d.gr
    simp only [List.mem_cons, List.not_mem_nil, or_false] at this
    omega
end Rb
namespace Rb
open PySem
open PySem.Spec
open L2
abbrev y_k11_law : List IS := [.asg (.nm 1) (.es [0] (.call "_law_numbers" [.var 0, .lit (.int 40)])), .asg (.nm 2) (.es [1] (.call "_law_log" [.var 1, .lit (.int 0), .lit (.int 6), .lit (.int 18)])), .asg (.nm 3) (.es [2] (.call "_law_made" [.var 2])), .asg (.nm 4) (.es [2] (.call "_law_better" [.sub (.var 2) (.lit (.int 0)), .call "_law_links" [.var 2]])), .asg (.nm 5) (.rd (.dk0)), .floop (.nm 6) false [2] (.seq (.sub (.var 2) (.lit (.int 0)))) [6] [.put 5 [] (.var 6) (.es [2, 4, 6, 10] (.lc (.var 10) (.nm 10) (.seq (.sub (.var 2) (.lit (.int 0)))) [.cmp .In (.var 6) (.sub (.var 4) (.var 10))]))], .floop (.nm 7) false [] (.rng1 (.lit (.int 2))) [7, 9] [.asg (.nm 9) (.es [3] (.call "worse_than" [.var 3])), .iff (.bo .Or [.no (.isi (.var 9) "dict"), .cmp .NotEq (.var 9) (.var 5)]) [.ret (.rd (.lit (.bl false)))] [], .app 9 [.sub (.sub (.var 2) (.lit (.int 0))) (.lit (.int 0))] (.rd (.lit (.str "x"))), .clr 9 []], .floop (.nm 8) false [2] (.seq (.sub (.var 2) (.lit (.int 0)))) [8, 10, 11] [.floop (.nm 10) false [2] (.seq (.sub (.var 2) (.lit (.int 0)))) [10, 11] [.asg (.nm 11) (.es [3, 8, 10] (.call "has_way" [.var 3, .var 8, .var 10])), .iff (.bo .Or [.no (.isi (.var 11) "bool"), .cmp .NotEq (.var 11) (.cmp .In (.var 8) (.sub (.var 5) (.var 10)))]) [.ret (.rd (.lit (.bl false)))] []]], .ret (.rd (.lit (.bl true)))]
theorem eqDs_refl {V : List Str} {f : Str → T} (he : ∀ a ∈ V, eqT (f a) (f a) = true) : ∀ {l : List Str}, (∀ a ∈ l, a ∈ V) → eqDs (l.map fun x => (.inr x : Key)) (l.map f) (V.map fun x => (.inr x : Key)) (V.map f) = true
  | [], _ => by simp [eqDs]
  | a :: l, h => by
    rw [List.map_cons, List.map_cons, eqDs, getK_map (key := fun x : Str => (.inr x : Key)) (fun b _ e => by injection e) (h a List.mem_cons_self)]
    simp only [he a (h a List.mem_cons_self), Bool.true_and]
    exact eqDs_refl he fun b m => h b (List.mem_cons_of_mem _ m)
theorem eqok_ls (l : List Str) : eqok dpth (.nd .lst false (l.map .str)) = true := by
  show (l.map T.str).all (eqok 39) = true
  simp [List.all_map, Function.comp_def, eqok_str]
theorem eqR_sD {V : List Str} {F : Str → List Str} : eqR (sD false V fun a => .nd .lst false ((F a).map .str)) (sD false V fun a => .nd .lst false ((F a).map .str)) = .ok true := by
  have h1 : eqok dpth (sD false V fun a => .nd .lst false ((F a).map .str)) = false := rfl
  have h2 : (V.map fun a => T.nd .lst false ((F a).map .str)).all (eqok dpth) = true := by
    rw [List.all_map, List.all_eq_true]
    intro a _
    exact eqok_ls _
  rw [eqR, h1]
  rw [if_neg (by simp), sD, eqDi, h2, Bool.and_self, if_pos rfl, beq_self_eq_true, Bool.true_and, eqDs_refl (fun a _ => ?_) fun a h => h]
  rw [eqT, eqT_strs]
  simp
section
variable {C : Calls} {env env' : Env} {ss : List IS} {r : SR}
theorem z_app_sD {i : Nat} {e l : IE} {a : Str} {V : List Str} {f : Str → T} {xs : List T} {t : T} (hi : getS env i = some (sD true (a :: V) f)) (he : ev C env e = .ok (.str a)) (hf : f a = .nd .lst true xs) (h : ev C env l = .ok t) (ho : own t = true) (hl : xs.length < sizeLine)
    (h' : env.set i (some (.nd (.dk ((a :: V).map fun x => .inr x)) true (.nd .lst true (xs ++ [t]) :: V.map f))) = env') (hr : execs C ss env' = r) : execs C (.app i [e] (.rd l) :: ss) env = r := by
  have h0 : stepI (sD true (a :: V) f) (.str a) = some 0 := by
    simp [sD, stepI, keyT, idxK]
  have h00 : kidN (sD true (a :: V) f) 0 = some (.nd .lst true xs) := by
    rw [← hf]; rfl
  have h1 : resS C env i [e] = .ok ([0], .nd .lst true xs) := by
    rw [resS, hi]
    show (resR C env (sD true (a :: V) f) [e]) = _
    rw [resR, resR, bnd_ok, he, bnd_ok, nxt, if_pos (show own (.str a) = true from rfl), h0]
    dsimp only
    rw [h00]
    rfl
  have h2 : appT (.nd .lst true xs) t = some (.nd .lst true (xs ++ [t])) := by rw [appT, if_pos hl]
  have h3 : isLst (.nd .lst true xs) = true := rfl
  have h4 : nodeAt [0] (sD true (a :: V) f) = some (.nd .lst true xs) := by
    rw [← hf]; rfl
  have h5 : putAt [0] (.nd .lst true (xs ++ [t])) (sD true (a :: V) f) = .nd (.dk ((a :: V).map fun x => .inr x)) true (.nd .lst true (xs ++ [t]) :: V.map f) := rfl
  rw [execs, exec, h1]
  simp only [resGo, h3, if_pos, evL, h, ho, VR.go, modS, hi, h4, h2, h5, h', SR.seq, hr]
theorem z_clr {i : Nat} {ks : List Key} {xs : List T} (hi : getS env i = some (.nd (.dk ks) true xs)) (h' : env.set i (some (.nd (.dk []) true [])) = env') (hr : execs C ss env' = r) : execs C (.clr i [] :: ss) env = r := by
  have h1 : resS C env i [] = .ok ([], .nd (.dk ks) true xs) := by rw [resS, hi]; rfl
  have h2 : clrT (.nd (.dk ks) true xs) = some (.nd (.dk []) true []) := rfl
  rw [execs, exec, h1]
  simp only [resGo, modS, hi, nodeAt, h2, putAt, h', SR.seq, hr]
end
theorem ends_in {L : Lg} (w : Wf L) {p q : Nat} (h : lnkP stS riS L p q) : itN L.es p ∈ L.items ∧ itN L.es q ∈ L.items := by
  obtain ⟨j, d, i1, g1, i2, g2, hd, a1, a2, _⟩ := h
  have e1 : itN L.es p = i1 := by simp [itN, itmN, a1, itmE]
  have e2 : itN L.es q = i2 := by simp [itN, itmN, a2, itmE]
  rw [e1, e2]
  exact ⟨(w.ok _ _ _ _ a1).2, (w.ok _ _ _ _ a2).2⟩
theorem same_E {L : Lg} (w : Wf L) (wd : WfD L) {a b : Str} : b ∈ F0 L.items (prAll L (ansN L.es)) a ↔ (a, b) ∈ (lkL L).map (pairE L.es) := by
  unfold F0
  rw [List.mem_filter, decide_eq_true_eq, mem_prAll, List.mem_map]
  constructor
  · rintro ⟨_, p, q, h, rfl, rfl⟩
    exact ⟨(p, q), (mem_lkL w wd).mpr h, rfl⟩
  · rintro ⟨⟨p, q⟩, h, e⟩
    have h := (mem_lkL w wd).mp h
    cases e
    exact ⟨(ends_in w h).2, p, q, h, rfl, rfl⟩
/-- the law's closure and the program's -/
theorem same_C {L : Lg} (w : Wf L) (wd : WfD L) {a b : Str} : a ∈ btF L (ansN L.es) b ↔ a ∈ betB ((lkL L).map (pairE L.es)) (L.items.length + 1) b := by
  have hin : ∀ e ∈ (lkL L).map (pairE L.es), e.1 ∈ L.items ∧ e.2 ∈ L.items := fun e he => by
    obtain ⟨⟨p, q⟩, h, rfl⟩ := List.mem_map.mp he
    exact ends_in w ((mem_lkL w wd).mp h)
  unfold btF
  rw [wsh_iff (F := F0 L.items (prAll L (ansN L.es))) (fun a b h => (List.mem_filter.mp h).1) (fun a b h => (hin _ ((same_E w wd).mp h)).1), betB_iff (V := L.items) fun e he => (hin e he).2]
  have : (fun a b => b ∈ F0 L.items (prAll L (ansN L.es)) a) = fun a b => (a, b) ∈ (lkL L).map (pairE L.es) := by
    funext a b
    exact propext (same_E w wd)
  rw [this]
def dueF (L : Lg) (a : Str) : List Str := L.items.filter fun o => decide (a ∈ betB ((lkL L).map (pairE L.es)) (L.items.length + 1) o)
theorem wt_due {L : Lg} (w : Wf L) (wd : WfD L) (a : Str) : wtF L a = dueF L a := by
  unfold wtF dueF
  refine List.filter_congr fun o _ => ?_
  rw [Bool.eq_iff_iff, decide_eq_true_eq, decide_eq_true_eq]
  exact same_C w wd
section
variable {T : Tab} (hL : LogTab T) (hm : NamTab T) (hr : ReaTab T) (hw : WorTab T) (hk : ChkTab T) (hy : HasTab T) (hK : LnkTab T) (hB : BetTab T) (hl : T.at (.fn "law") = some (12, 1, y_k11_law)) (k : Nat)
include hL hm hr hw hk hy hK hB hl
theorem tr_k11 (ns : List Int) (hn : ns.length ≤ 63) : (mkC T (k + 12)).fn "law" [.nd .ext false (ns.map .int)] = .ok (.bl true) := by
  rw [fn_of hl]
  obtain ⟨N, hN, eN⟩ := numbers_ok hL (k + 9) ns hn (m := 40) (by decide)
  obtain ⟨L, hD, eL⟩ := log_ok hL (k + 10) (N := N) (at' := 0) (mi := 6) (me := 18) (by omega) (by decide) (by decide) (by decide)
  have w := hD.wf (by decide)
  have wd := hD.wfd
  have eM := made_ok hL (k + 7) (hD.fit (by decide))
  obtain ⟨W, hW⟩ : ∃ W : Rb.T, W = .nd .ext false (ns.map .int) := ⟨_, rfl⟩
  have sW : strip W = W := by rw [hW]; simp [strip, strips_ints]
  obtain ⟨U, hU⟩ : ∃ U : Rb.T, U = .nd .lst true (N.map .int) := ⟨_, rfl⟩
  have sU : strip U = .nd .lst false (N.map .int) := by rw [hU]; simp [strip, strips_ints]
  have sU2 : strip (.nd .lst false (N.map .int)) = .nd .lst false (N.map .int) := by simp [strip, strips_ints]
  have sP : strip (paO L) = paT L := by simp [paO, paT, strip, strips, strips_strs, strips_js, strips_evs]
  let bF : Str → List Str := fun a => betB ((lkL L).map (pairE L.es)) (L.items.length + 1) a
  rw [← hW]
  refine call_rt (env := [some W, none, none, none, none, none, none, none, none, none, none, none]) rfl (by simp [env0, strips, sW]) ?_
  refine z_asg_es (t := U) (env' := [some W, some U, none, none, none, none, none, none, none, none, none, none]) ?_ (by simp [asgT, frS, frSg, sW]) ?_
  · show ev _ [some W, none, none, none, none, none, none, none, none, none, none, none] _ = _
    rw [ev_call (ts := [W, .int 40]) (by simp [evs, ev, getS, sW])]
    simp only [strips, sW, strip_int]
    rw [hW, hU]; exact eN
  refine z_asg_es (t := paO L) (env' := [some W, some (.nd .lst false (N.map .int)), some (paO L), none, none, none, none, none, none, none, none, none]) ?_ (by simp [asgT, frS, frSg, sU]) ?_
  · show ev _ [none, some U, none, none, none, none, none, none, none, none, none, none] _ = _
    rw [ev_call (ts := [.nd .lst false (N.map .int), .int 0, .int 6, .int 18]) (by simp [evs, ev, getS, sU])]
    simp only [strips, sU2, strip_int]
    exact eL
  refine z_asg_es (t := lgO L) (env' := [some W, some (.nd .lst false (N.map .int)), some (paT L), some (lgO L), none, none, none, none, none, none, none, none]) ?_ (by simp [asgT, frS, frSg, sP]) ?_
  · show ev _ [none, none, some (paO L), none, none, none, none, none, none, none, none, none] _ = _
    rw [ev_call (ts := [paT L]) (by simp [evs, ev, getS, sP])]
    simp only [strips, strip_pa]
    exact eM
  refine z_asg_es (t := sD true L.items fun a => lsT (bF a)) (env' := [some W, some (.nd .lst false (N.map .int)), some (paT L), some (lgO L), some (sD true L.items fun a => lsT (bF a)), none, none, none, none, none, none, none]) ?_ (by simp [asgT, frS, frSg]) ?_
  · show ev _ [none, none, some (paT L), none, none, none, none, none, none, none, none, none] _ = _
    have e1 : ev (mkC T (k + 11)) [none, none, some (paT L), none, none, none, none, none, none, none, none, none] (.call "_law_links" [.var 2]) = .ok (.nd .lst true ((lkL L).map (lkT L.es))) := by
      rw [ev_call (ts := [paT L]) (by simp [evs, ev, getS])]
      simp only [strips, strip_pa]
      exact law_links_ok hK L (k + 8) w
    rw [ev_call (ts := [.nd .lst false (L.items.map .str), .nd .lst true ((lkL L).map (lkT L.es))]) (by rw [evs, evs, e1]; simp [evs, ev, getS, pa_items])]
    simp only [strips, strip_ls2, strip, strips_lkT, strips_strs]
    exact law_better_ok hB (k + 10) w.it_nd w.it_len fun e he => ends_in w ((mem_lkL w wd).mp he)
  have sB : strip (sD true L.items fun a => lsT (bF a)) = sD false L.items fun a => .nd .lst false ((bF a).map .str) := by
    rw [strip_sD]
    congr 1
    funext a
    exact strip_ls _
  have sB2 : strip (sD false L.items fun a => .nd .lst false ((bF a).map .str)) = sD false L.items fun a => .nd .lst false ((bF a).map .str) := by
    rw [strip_sD]
    congr 1
    funext a
    exact strip_ls2 _
  refine z_dk0 (env' := [some W, some (.nd .lst false (N.map .int)), some (paT L), some (lgO L), some (sD true L.items fun a => lsT (bF a)), some (sD true [] fun _ => .non), none, none, none, none, none, none]) (by simp) ?_
  rw [sD_nil _ fun a => lsT (dueF L a)]
  have iV : ∀ env : Env, getS env 2 = some (paT L) → ev (mkC T (k + 11)) env (.sub (.var 2) (.lit (.int 0))) = .ok (.nd .lst false (L.items.map .str)) := fun env he => by
    simp [ev, he, pa_items]
  let P : SR → Prop := fun r => r = .rt (.bl true)
  show P _
  refine z_forP (f := Rb.T.str) (fun (l : List Str) env => ∃ (D : List Str) (v4 : Rb.T), env = [some W, some (.nd .lst false (N.map .int)), some (paT L), some (lgO L), some v4, some (sD true D fun a => lsT (dueF L a)), none, none, none, none, none, none] ∧ D ++ l = L.items ∧ strip v4 = sD false L.items fun a => .nd .lst false ((bF a).map .str)) (ys := L.items) (e0 := [some W, some (.nd .lst false (N.map .int)), some (paT L), some (lgO L), some (sD true L.items fun a => lsT (bF a)), some (sD true [] fun a => lsT (dueF L a)), none, none, none, none, none, none]) ?_ ⟨[], _, rfl, rfl, sB⟩ ?_ ?_
  · have := evF_seq (C := mkC T (k + 11)) (env := [some W, some (.nd .lst false (N.map .int)), some (paT L), some (lgO L), some (sD true L.items fun a => lsT (bF a)), some (sD true [] fun a => lsT (dueF L a)), none, none, none, none, none, none]) (fv := [2]) (e := .sub (.var 2) (.lit (.int 0))) (xs := L.items.map .str) (t := .nd .lst false (L.items.map .str)) (iV _ rfl) rfl
    rw [this]
    simp [frS, frSg]
  · rintro _ x l ⟨D, v4, rfl, hI, h4⟩
    have hx : x ∉ D := by
      have := w.it_nd
      rw [← hI, List.nodup_append] at this
      exact fun m => this.2.2 _ m _ List.mem_cons_self rfl
    have hDl : D.length ≤ 1000000 := by
      have := congrArg List.length hI
      have := w.it_len
      rw [List.length_append] at *
      omega
    refine ⟨[some W, some (.nd .lst false (N.map .int)), some (paT L), some (lgO L), some v4, some (sD true D fun a => lsT (dueF L a)), some (.str x), none, none, none, none, none], [some W, some (.nd .lst false (N.map .int)), some (paT L), some (lgO L), some (sD false L.items fun a => .nd .lst false ((bF a).map .str)), some (sD true (D ++ [x]) fun a => lsT (dueF L a)), some (.str x), none, none, none, none, none], rfl, .inl ?_, ⟨D ++ [x], _, rfl, by rw [← hI]; simp, sB2⟩⟩
    refine z_put_es (t := lsT (dueF L x)) (q := .str x) (w := sD true D fun a => lsT (dueF L a)) ?_ rfl (by simp [ev, getS, frS, frSg]) rfl (put_new (val := fun a => lsT (dueF L a)) hDl hx) (by simp [frS, frSg, h4]) z_nil
    show ev _ [none, none, some (paT L), none, some v4, none, some (.str x), none, none, none, none, none] _ = _
    refine ev_lc (ys := L.items) (f := .str) (fun o => decide (x ∈ bF o)) .str (evi_seq (iV _ rfl) rfl) (by have := w.it_len; omega) fun o ho => ?_
    refine ⟨[none, none, some (paT L), none, some v4, none, some (.str x), none, none, none, some (.str o), none], rfl, ?_, fun _ => by simp [ev, getS]⟩
    have i1 : ixT (sD false L.items fun a => .nd .lst false ((bF a).map .str)) (.str o) = .ok (.nd .lst false ((bF o).map .str)) := by
      rw [ix_sD ho, strip_ls2]
    simp [evc, ev, getS, h4, i1, inR_str]
  · rintro _ ⟨D, v4, rfl, hI, h4⟩
    rw [List.append_nil] at hI
    subst hI
    obtain ⟨x0, xs0, hx0⟩ : ∃ a l, L.items = a :: l := by
      cases q : L.items with
      | nil => have := w.it_pos; rw [q] at this; cases this
      | cons a l => exact ⟨a, l, rfl⟩
    have sW' : strip (sD true L.items fun a => lsT (dueF L a)) = sD false L.items fun a => .nd .lst false ((dueF L a).map .str) := by
      rw [strip_sD]
      congr 1
      funext a
      exact strip_ls _
    have ew : (mkC T (k + 11)).fn "worse_than" [lgT L] = .ok (sD true L.items fun a => lsT (dueF L a)) := by
      have := worse_than_ok hL hm hr hw L (k + 1) w
      rw [this]
      congr 2
      funext a
      rw [wt_due w wd]
    refine z_forP (f := nT) (fun (l : List Nat) env => ∃ (v3 : Rb.T), env = [some W, some (.nd .lst false (N.map .int)), some (paT L), some v3, some v4, some (sD true L.items fun a => lsT (dueF L a)), none, none, none, none, none, none] ∧ strip v3 = lgT L) (ys := List.range 2) (evF_rng (n := 2) (by simp [ev]) (by omega)) ⟨_, rfl, strip_lgO L⟩ ?_ ?_
    · rintro _ y l ⟨v3, rfl, h3⟩
      let E : Option Rb.T → Env := fun v9 => [some W, some (.nd .lst false (N.map .int)), some (paT L), some (lgT L), some v4, some (sD true L.items fun a => lsT (dueF L a)), none, some (nT y), none, v9, none, none]
      refine ⟨[some W, some (.nd .lst false (N.map .int)), some (paT L), some v3, some v4, some (sD true L.items fun a => lsT (dueF L a)), none, some (nT y), none, none, none, none], E (some (.nd (.dk []) true [])), rfl, .inl ?_, ⟨_, rfl, strip_lg L⟩⟩
      refine z_asg_es (t := sD true L.items fun a => lsT (dueF L a)) (env' := E (some (sD true L.items fun a => lsT (dueF L a)))) ?_ (by simp [E, asgT, frS, frSg, h3]) (z_if_f ?_ ?_)
      · show ev _ [none, none, none, some v3, none, none, none, none, none, none, none, none] _ = _
        rw [ev_call (ts := [lgT L]) (by simp [evs, ev, getS, h3])]
        simp only [strips, strip_lg]
        exact ew
      · refine ev_or (x := false) (ev_no (b := true) ?_) (fun _ => ?_) (fun z => by cases z)
        · have : isiT (sD false L.items fun a => .nd .lst false ((dueF L a).map .str)) "dict" = .ok (.bl true) := rfl
          simp only [E, ev, getS, List.getElem?_cons_zero, List.getElem?_cons_succ, optR_some, sW', bind_ok, this]
        · rw [ev_cmp (x := sD false L.items fun a => .nd .lst false ((dueF L a).map .str)) (y := sD false L.items fun a => .nd .lst false ((dueF L a).map .str)) (by simp [E, ev, getS, sW']) (by simp [E, ev, getS, sW']), cmp_ne, eqR_sD, bnd_ok]
          rfl
      · rw [hx0]
        have e0 : ∀ v9, ev (mkC T (k + 11)) (E v9) (.sub (.sub (.var 2) (.lit (.int 0))) (.lit (.int 0))) = .ok (.str x0) := fun v9 => by
          rw [ev_sub (iV _ rfl) (y := .int 0) (by rw [ev])]
          exact ix_nat false (p := 0) (t := .str x0) (by rw [hx0]; rfl)
        refine z_app_sD (a := x0) (V := xs0) (f := fun a => lsT (dueF L a)) (xs := (dueF L x0).map .str) (t := .str "x") rfl (by rw [← hx0]; exact e0 _) rfl (by rw [ev]) rfl (by
          have h1 : (dueF L x0).length ≤ L.items.length := List.length_filter_le _ _
          have := w.it_len
          rw [sizeLine_eq, List.length_map]
          omega) rfl (z_clr rfl (by rw [← hx0]; rfl) z_nil)
    · rintro _ ⟨v3, rfl, h3⟩
      have hway : ∀ a b, a ∈ L.items → b ∈ L.items → (mkC T (k + 11)).fn "has_way" [lgT L, .str a, .str b] = .ok (.bl (decide (a ∈ dueF L b))) := fun a b ha hb => by
        rw [has_way_ok hL hm hr hw hk hy L k w ha hb, wt_due w wd]
      have iD : ∀ b, b ∈ L.items → ixT (sD false L.items fun a => .nd .lst false ((dueF L a).map .str)) (.str b) = .ok (.nd .lst false ((dueF L b).map .str)) := fun b hb => by
        rw [ix_sD hb, strip_ls2]
      refine z_forP (f := Rb.T.str) (fun (l : List Str) env => (∃ (v3 : Rb.T), env = [some W, some (.nd .lst false (N.map .int)), some (paT L), some v3, some v4, some (sD true L.items fun a => lsT (dueF L a)), none, none, none, none, none, none] ∧ strip v3 = lgT L) ∧ ∀ y ∈ l, y ∈ L.items) (ys := L.items) (e0 := [some W, some (.nd .lst false (N.map .int)), some (paT L), some v3, some v4, some (sD true L.items fun a => lsT (dueF L a)), none, none, none, none, none, none]) ?_ ⟨⟨_, rfl, h3⟩, fun _ z => z⟩ ?_ ?_
      · have := evF_seq (C := mkC T (k + 11)) (env := [some W, some (.nd .lst false (N.map .int)), some (paT L), some v3, some v4, some (sD true L.items fun a => lsT (dueF L a)), none, none, none, none, none, none]) (fv := [2]) (e := .sub (.var 2) (.lit (.int 0))) (xs := L.items.map .str) (t := .nd .lst false (L.items.map .str)) (iV _ rfl) rfl
        rw [this]
        simp [frS, frSg]
      · rintro _ a l ⟨⟨v3, rfl, h3⟩, hl⟩
        have ha := hl a List.mem_cons_self
        have inner : ∃ v3', strip v3' = lgT L ∧ execs (mkC T (k + 11)) (match y_k11_law[7]? with | some (IS.floop _ _ _ _ _ b) => b | _ => []) [some W, some (.nd .lst false (N.map .int)), some (paT L), some v3, some v4, some (sD true L.items fun a => lsT (dueF L a)), none, none, some (.str a), none, none, none] = .nx [some W, some (.nd .lst false (N.map .int)), some (paT L), some v3', some v4, some (sD true L.items fun a => lsT (dueF L a)), none, none, some (.str a), none, none, none] := by
          let Q : SR → Prop := fun r => ∃ v3', strip v3' = lgT L ∧ r = .nx [some W, some (.nd .lst false (N.map .int)), some (paT L), some v3', some v4, some (sD true L.items fun a => lsT (dueF L a)), none, none, some (.str a), none, none, none]
          show Q _
          refine z_forP (f := Rb.T.str) (fun (l : List Str) env => (∃ (v3 : Rb.T), env = [some W, some (.nd .lst false (N.map .int)), some (paT L), some v3, some v4, some (sD true L.items fun a => lsT (dueF L a)), none, none, some (.str a), none, none, none] ∧ strip v3 = lgT L) ∧ ∀ y ∈ l, y ∈ L.items) (ys := L.items) (e0 := [some W, some (.nd .lst false (N.map .int)), some (paT L), some v3, some v4, some (sD true L.items fun a => lsT (dueF L a)), none, none, some (.str a), none, none, none]) ?_ ⟨⟨_, rfl, h3⟩, fun _ z => z⟩ ?_ ?_
          · have := evF_seq (C := mkC T (k + 11)) (env := [some W, some (.nd .lst false (N.map .int)), some (paT L), some v3, some v4, some (sD true L.items fun a => lsT (dueF L a)), none, none, some (.str a), none, none, none]) (fv := [2]) (e := .sub (.var 2) (.lit (.int 0))) (xs := L.items.map .str) (t := .nd .lst false (L.items.map .str)) (iV _ rfl) rfl
            rw [this]
            simp [frS, frSg]
          · rintro _ b l ⟨⟨v3, rfl, h3⟩, hl⟩
            have hb := hl b List.mem_cons_self
            let E : Option Rb.T → Env := fun v11 => [some W, some (.nd .lst false (N.map .int)), some (paT L), some (lgT L), some v4, some (sD true L.items fun a => lsT (dueF L a)), none, none, some (.str a), none, some (.str b), v11]
            refine ⟨[some W, some (.nd .lst false (N.map .int)), some (paT L), some v3, some v4, some (sD true L.items fun a => lsT (dueF L a)), none, none, some (.str a), none, some (.str b), none], E (some (.bl (decide (a ∈ dueF L b)))), rfl, .inl ?_, ⟨⟨_, rfl, strip_lg L⟩, fun y hy => hl y (List.mem_cons_of_mem _ hy)⟩⟩
            refine z_asg_es (t := .bl (decide (a ∈ dueF L b))) (env' := E (some (.bl (decide (a ∈ dueF L b))))) ?_ (by simp [E, asgT, frS, frSg, h3]) (z_if_f ?_ z_nil)
            · show ev _ [none, none, none, some v3, none, none, none, none, some (.str a), none, some (.str b), none] _ = _
              rw [ev_call (ts := [lgT L, .str a, .str b]) (by simp [evs, ev, getS, h3])]
              simp only [strips, strip_lg, strip_str]
              exact hway a b ha hb
            · refine ev_or (x := false) (ev_no (b := true) ?_) (fun _ => ?_) (fun z => by cases z)
              · simp [E, ev, getS, isiT]
              · have e1 : ev (mkC T (k + 11)) (E (some (.bl (decide (a ∈ dueF L b))))) (.cmp .In (.var 8) (.sub (.var 5) (.var 10))) = .ok (.bl (decide (a ∈ dueF L b))) := by
                  simp [E, ev, getS, sW', iD b hb, inR_str]
                rw [ev_cmp (x := .bl (decide (a ∈ dueF L b))) (by simp [E, ev, getS]) e1, cmp_ne, eqr_b, bnd_ok, beq_self_eq_true]
                rfl
          · rintro _ ⟨⟨v3, rfl, h3⟩, _⟩
            exact ⟨v3, h3, by rw [z_nil]⟩
        obtain ⟨v3', h3', hi⟩ := inner
        exact ⟨_, _, rfl, .inl hi, ⟨⟨v3', rfl, h3'⟩, fun y hy => hl y (List.mem_cons_of_mem _ hy)⟩⟩
      · rintro _ ⟨⟨v3, rfl, h3⟩, _⟩
        exact z_ret_rd (by rw [ev]) rfl
end
end Rb
namespace Rb
open PySem
open PySem.Spec
open L2
abbrev y_k14_raised : List IS := [.asg (.tp [.nm 8, .nm 9, .nm 10, .nm 11]) (.es [0] (.var 0)), .asg (.nm 2) (.es [4, 11] (.lc (.var 4) (.nm 4) (.rng1 (.b1 .len (.var 11))) [.cmp .Eq (.b1 .len (.sub (.var 11) (.var 4))) (.lit (.int 4))])), .asg (.nm 3) (.rd (.dk0)), .floop (.nm 4) false [2] (.seq (.var 2)) [4, 12] [.put 3 [] (.var 4) (.rd (.bin .Mult (.lst [.neg (.lit (.int 1000))]) (.var 9))), .floop (.nm 12) false [4, 9, 11] (.rng2 (.bin .Add (.sub (.sub (.var 11) (.var 4)) (.lit (.int 3))) (.lit (.int 1))) (.bin .Add (.var 9) (.lit (.int 1)))) [12] [.put 3 [.var 4] (.bin .Sub (.var 12) (.lit (.int 1))) (.rd (.bin .Add (.sub (.var 1) (.sub (.sub (.var 11) (.var 4)) (.lit (.int 2)))) (.lit (.int 1))))]], .asg (.nm 5) (.rd (.lst [])), .floop (.nm 6) false [2] (.seq (.var 2)) [6] [.asg (.nm 5) (.es [0, 2, 5, 6, 13] (.bin .Add (.var 5) (.lc (.tup [.var 6, .var 13]) (.nm 13) (.seq (.var 2)) [.call "_law_ordered" [.var 0, .var 6, .var 13]])))], .floop (.nm 7) false [2] (.rng1 (.bin .Add (.b1 .len (.var 2)) (.lit (.int 1)))) [4, 6, 7, 13, 14] [.floop (.tp [.nm 6, .nm 13]) false [5] (.seq (.var 5)) [6, 13, 14] [.floop (.nm 14) false [9] (.rng1 (.var 9)) [14] [.put 3 [.var 13] (.var 14) (.rd (.b2 true (.sub (.sub (.var 3) (.var 13)) (.var 14)) (.sub (.sub (.var 3) (.var 6)) (.var 14))))]], .floop (.nm 4) false [2] (.seq (.var 2)) [4, 14] [.floop (.nm 14) false [9] (.rng2 (.lit (.int 1)) (.var 9)) [14] [.put 3 [.var 4] (.var 14) (.rd (.b2 true (.sub (.sub (.var 3) (.var 4)) (.var 14)) (.sub (.sub (.var 3) (.var 4)) (.bin .Sub (.var 14) (.lit (.int 1))))))]]], .floop (.nm 4) false [2] (.seq (.var 2)) [4, 12] [.floop (.nm 12) false [4, 11] (.rng2 (.lit (.int 1)) (.bin .Add (.sub (.sub (.var 11) (.var 4)) (.lit (.int 3))) (.lit (.int 1)))) [12] [.iff (.cmp .Gt (.sub (.sub (.var 3) (.var 4)) (.bin .Sub (.var 12) (.lit (.int 1)))) (.sub (.var 1) (.sub (.sub (.var 11) (.var 4)) (.lit (.int 2))))) [.ret (.rd (.lit .non))] []]], .ret (.mv 3)]
abbrev y_k14_law : List IS := [.asg (.nm 1) (.es [0] (.call "_law_numbers" [.var 0, .lit (.int 70)])), .asg (.nm 2) (.es [1] (.call "_law_log" [.var 1, .lit (.int 0), .lit (.int 5), .lit (.int 14)])), .asg (.nm 3) (.es [2] (.call "_law_made" [.var 2])), .asg (.nm 4) (.es [2] (.call "_law_links" [.var 2])), .floop (.nm 5) false [] (.rng1 (.lit (.int 5))) [5, 6, 7, 8, 9, 10, 11, 12, 13] [.asg (.nm 6) (.rd (.dk0)), .floop (.nm 7) false [2] (.seq (.sub (.var 2) (.lit (.int 0)))) [7] [.put 6 [] (.var 7) (.rd (.lit (.int 0)))], .iff (.cmp .Gt (.var 5) (.lit (.int 1))) [.floop (.nm 11) false [2] (.rng1 (.b1 .len (.sub (.var 2) (.lit (.int 0))))) [11] [.floop (.tp [.nm 14, .nm 15, .nm 16, .nm 17]) false [4] (.seq (.var 4)) [] [.put 6 [] (.var 17) (.rd (.b2 false (.lit (.int 9)) (.b2 true (.sub (.var 6) (.var 17)) (.bin .Add (.sub (.var 6) (.var 16)) (.lit (.int 1))))))]]] [], .floop (.tp [.nm 12, .nm 7]) false [2] (.enm (.sub (.var 2) (.lit (.int 0)))) [7, 12, 13] [.asg (.nm 13) (.rd (.b1 .int (.sub (.var 1) (.bin .Add (.bin .Add (.lit (.int 30)) (.bin .Mult (.lit (.int 6)) (.var 5))) (.var 12))))), .iff (.bo .Or [.cmp .Lt (.var 5) (.lit (.int 2)), .cmp .Eq (.bin .Mod (.b1 .int (.var 13)) (.lit (.int 5))) (.lit (.int 0))]) [.put 6 [] (.var 7) (.rd (.bin .Sub (.bin .Add (.sub (.var 6) (.var 7)) (.bin .Mod (.b1 .int (.var 13)) (.lit (.int 7)))) (.lit (.int 2))))] [], .iff (.cmp .Eq (.var 5) (.lit (.int 4))) [.put 6 [] (.var 7) (.rd (.bin .Sub (.bin .Mult (.bin .Pow (.lit (.int 10)) (.lit (.int 15))) (.sub (.var 6) (.var 7))) (.lit (.int 5))))] []], .asg (.nm 8) (.rd (.b1 .dict (.var 6))), .asg (.nm 9) (.es [3, 8] (.call "explains" [.var 3, .var 8])), .asg (.nm 10) (.rd (.b1 .all (.lc (.cmp .Lt (.sub (.var 6) (.var 16)) (.sub (.var 6) (.var 17))) (.tp [.nm 14, .nm 15, .nm 16, .nm 17]) (.seq (.var 4)) []))), .iff (.bo .Or [.no (.isi (.var 9) "bool"), .cmp .NotEq (.var 9) (.var 10), .cmp .NotEq (.var 8) (.var 6)]) [.ret (.rd (.lit (.bl false)))] [], .iff (.bo .And [.cmp .Lt (.var 5) (.lit (.int 4)), .cmp .NotEq (.var 10) (.cmp .IsNot (.call "_law_raised" [.var 2, .var 6]) (.lit .non))]) [.ret (.rd (.lit (.bl false)))] []], .ret (.rd (.lit (.bl true)))]
abbrev y_explains : List IS := [.ret (.rd (.b1 .all (.lc (.cmp .Lt (.sub (.var 1) (.var 3)) (.sub (.var 1) (.var 4))) (.tp [.nm 2, .nm 3, .nm 4]) (.seq (.call "ends_of" [.var 0])) [])))]
theorem forGo_chk {α : Type} {p : Pat} {kl : List Nat} {b : Env → SR} {f : α → T} {I : List α → Env → Prop} {t : T} {V : Prop} : ∀ {ys : List α} {env : Env}, I ys env → (∀ env y l, I (y :: l) env → ∃ e1, asgP p (strip (f y)) env = some e1 ∧ ((∃ e2, (b e1 = .nx e2 ∨ b e1 = .ct e2) ∧ I l (kill kl e2)) ∨ (b e1 = .rt t ∧ V))) → (∃ env', forGo p kl b (ys.map f) env = .nx env' ∧ I [] env') ∨ (forGo p kl b (ys.map f) env = .rt t ∧ V)
  | [], env, hi, _ => .inl ⟨env, rfl, hi⟩
  | y :: ys, env, hi, h => by
    obtain ⟨e1, h1, ⟨e2, h2, h3⟩ | ⟨h2, h3⟩⟩ := h env y ys hi
    · rcases forGo_chk (p := p) (kl := kl) (b := b) (f := f) (I := I) (t := t) (V := V) h3 h with ⟨e3, h4, h5⟩ | ⟨h4, h5⟩
      · refine .inl ⟨e3, ?_, h5⟩
        rw [List.map_cons, forGo, h1]
        rcases h2 with h2 | h2 <;> simp only [h2, h4]
      · refine .inr ⟨?_, h5⟩
        rw [List.map_cons, forGo, h1]
        rcases h2 with h2 | h2 <;> simp only [h2, h4]
    · refine .inr ⟨?_, h3⟩
      rw [List.map_cons, forGo, h1]
      simp only [h2]
/-- a walk that may end in a return -/
theorem z_forC {C : Calls} {α : Type} {p : Pat} {ow : Bool} {fv kl : List Nat} {it : It'} {b ss : List IS} {f : α → T} {env e0 : Env} {V : Prop} (I : List α → Env → Prop) (t : T) {ys : List α} (hi : evF C env ow fv it = .ok (ys.map f) e0) (h0 : I ys e0) (h : ∀ env y l, I (y :: l) env → ∃ e1, asgP p (strip (f y)) env = some e1 ∧ ((∃ e2, (execs C b e1 = .nx e2 ∨ execs C b e1 = .ct e2) ∧ I l (kill kl e2)) ∨ (execs C b e1 = .rt t ∧ V))) :
    (∃ env', I [] env' ∧ execs C (.floop p ow fv it kl b :: ss) env = execs C ss env') ∨ (execs C (.floop p ow fv it kl b :: ss) env = .rt t ∧ V) := by
  rcases forGo_chk (p := p) (kl := kl) (b := fun e => execs C b e) (f := f) (I := I) (t := t) (V := V) h0 h with ⟨e3, h1, h2⟩ | ⟨h1, h2⟩
  · refine .inl ⟨e3, h2, ?_⟩
    rw [execs, exec, hi]
    simp only [LR.go, h1, SR.seq]
  · refine .inr ⟨?_, h2⟩
    rw [execs, exec, hi]
    simp only [LR.go, h1, SR.seq]
/-! ### rows of whole numbers at places -/
def rowT (n : Nat) (B : Nat → Int) : T := .nd .lst true ((List.range n).map fun k => .int (B k))
def rowS (n : Nat) (B : Nat → Int) : T := .nd .lst false ((List.range n).map fun k => .int (B k))
theorem strip_row (n : Nat) (B : Nat → Int) : strip (rowT n B) = rowS n B := by
  simp [rowT, rowS, strip, strips_map, Function.comp_def]
theorem strip_rowS (n : Nat) (B : Nat → Int) : strip (rowS n B) = rowS n B := by
  simp [rowS, strip, strips_map, Function.comp_def]
theorem ix_row {n k : Nat} (B : Nat → Int) (h : k < n) : ixT (rowS n B) (nT k) = .ok (.int (B k)) := by
  refine ix_nat false (t := .int (B k)) ?_
  rw [List.getElem?_map, List.getElem?_range h]; rfl
theorem own_row (n : Nat) (B : Nat → Int) : own (rowT n B) = true := by
  have : (List.range n).map (fun k => T.int (B k)) = ((List.range n).map B).map .int := by rw [List.map_map]; rfl
  have h2 := owns_int ((List.range n).map B)
  rw [← this] at h2
  simp only [rowT, own, h2, Bool.and_self]
theorem idxK_map {α κ : Type} [DecidableEq α] [DecidableEq κ] {key : α → κ} (hi : ∀ a b, key a = key b → a = b) : ∀ {ys : List α} {y : α}, y ∈ ys → ∃ j, idxK (ys.map key) (key y) = some j ∧ ys[j]? = some y
  | z :: ys, y, m => by
    rw [List.map_cons, idxK]
    by_cases e : key z = key y
    · exact ⟨0, by rw [if_pos e], by rw [hi _ _ e]; rfl⟩
    · rw [if_neg e]
      rcases List.mem_cons.mp m with rfl | m
      · exact absurd rfl e
      · obtain ⟨j, h1, h2⟩ := idxK_map hi m
        exact ⟨j + 1, by rw [h1]; rfl, h2⟩
theorem set_map {α β : Type} [DecidableEq α] {f : α → β} {w : β} : ∀ {ys : List α} {j : Nat} {y : α}, ys.Nodup → ys[j]? = some y → (ys.map f).set j w = ys.map fun x => if x = y then w else f x
  | z :: ys, 0, y, hn, h => by
    cases h
    rw [List.map_cons, List.set_cons_zero, List.map_cons, if_pos rfl]
    congr 1
    refine List.map_congr_left fun x hx => ?_
    have hne : x ≠ z := fun e => (List.nodup_cons.mp hn).1 (e ▸ hx)
    rw [if_neg hne]
  | z :: ys, j + 1, y, hn, h => by
    have hy : y ∈ ys := List.mem_of_getElem? (by simpa using h)
    have hne : z ≠ y := fun e => (List.nodup_cons.mp hn).1 (e ▸ hy)
    rw [List.map_cons, List.set_cons_succ, List.map_cons, set_map (List.nodup_cons.mp hn).2 (by simpa using h), if_neg hne]
theorem set_range {n k : Nat} {B : Nat → Int} {v : Int} (h : k < n) : ((List.range n).map fun i => T.int (B i)).set k (.int v) = (List.range n).map fun i => .int (if i = k then v else B i) := by
  rw [set_map (y := k) List.nodup_range (by rw [List.getElem?_range h])]
  refine List.map_congr_left fun i _ => ?_
  split <;> rfl
/-- one number of a table is written anew -/
def up2 (B : Nat → Nat → Int) (p k : Nat) (v : Int) : Nat → Nat → Int := fun p' k' => if p' = p ∧ k' = k then v else B p' k'
section
variable {C : Calls} {env env' : Env} {ss : List IS} {r : SR}
theorem z_put2 {i p k n : Nat} {kx px e : IE} {v : Int} {P : List Nat} {B : Nat → Nat → Int} (hn : P.Nodup) (hp : p ∈ P) (hk : k < n) (h : ev C env e = .ok (.int v)) (hi : getS env i = some (nD true P fun p => rowT n (B p))) (hpx : ev C env px = .ok (nT p)) (hkx : ev C env kx = .ok (nT k)) (he : env.set i (some (nD true P fun p' => rowT n (up2 B p k v p'))) = env') (hr : execs C ss env' = r) : execs C (.put i [px] kx (.rd e) :: ss) env = r := by
  obtain ⟨j, hj, hj2⟩ := idxK_map (key := fun p : Nat => (.inl (p : Int) : Key)) (fun a b e => by injection e with e; omega) hp
  have h0 : stepI (nD true P fun p => rowT n (B p)) (nT p) = some j := by
    simp only [nD, nT, stepI, keyT]
    exact hj
  have h00 : kidN (nD true P fun p => rowT n (B p)) j = some (rowT n (B p)) := by
    simp only [nD, kidN, List.getElem?_map, hj2, Option.map_some]
  have h1 : resS C env i [px] = .ok ([j], rowT n (B p)) := by
    rw [resS, hi]
    show (resR C env (nD true P fun p => rowT n (B p)) [px]) = _
    rw [resR, resR, bnd_ok, hpx, bnd_ok, nxt, if_pos (show own (nT p) = true from rfl), h0]
    dsimp only
    rw [h00]
    rfl
  have h4 : nodeAt [j] (nD true P fun p => rowT n (B p)) = some (rowT n (B p)) := by
    simp only [nD, nodeAt, List.getElem?_map, hj2, Option.map_some]
  have h2 : putTr (rowT n (B p)) (nT k) (.int v) = some (rowT n fun i => if i = k then v else B p i) := by
    have : ixN ((List.range n).map fun i => T.int (B p i)).length (k : Int) = some k := by
      unfold ixN
      simp
      omega
    simp only [rowT, nT, putTr, this, set_range hk]
  have h5 : putAt [j] (rowT n fun i => if i = k then v else B p i) (nD true P fun p => rowT n (B p)) = nD true P fun p' => rowT n (up2 B p k v p') := by
    simp only [nD, putAt, List.getElem?_map, hj2, Option.map_some]
    rw [set_map hn hj2]
    congr 1
    refine List.map_congr_left fun x _ => ?_
    unfold up2
    by_cases e : x = p
    · subst e
      rw [if_pos rfl]
      simp
    · rw [if_neg e]
      simp [e]
  rw [execs, exec]
  simp only [evL, h, own_int, if_pos, VR.go, h1, resGo, hkx, show own (nT k) = true from rfl, modS, hi, h4, h2, h5, he, SR.seq, hr]
theorem putn_new {V : List Nat} {val : Nat → T} {a : Nat} (hl : V.length ≤ 1000000) (hm : a ∉ V) : putTr (nD true V val) (nT a) (val a) = some (nD true (V ++ [a]) val) := by
  have h1 : memK (.inl (a : Int)) (V.map fun (x : Nat) => (.inl (x : Int) : Key)) = false := memK_f fun z => by
    obtain ⟨x, hx, e⟩ := List.mem_map.mp z
    injection e with e
    have : x = a := by omega
    exact hm (this ▸ hx)
  have h2 : (decide ((V.map fun (x : Nat) => (.inl (x : Int) : Key)).length < sizeLine) && (!memK (.inl (a : Int)) (V.map fun (x : Nat) => (.inl (x : Int) : Key)) || decide (V.map fun (x : Nat) => (.inl (x : Int) : Key)).Nodup)) = true := by
    rw [Bool.and_eq_true, decide_eq_true_eq, sizeLine_eq, List.length_map, h1]
    exact ⟨by omega, rfl⟩
  have h3 : putT (V.map fun (x : Nat) => (.inl (x : Int) : Key)) (V.map val) (.inl (a : Int)) (val a) = ((V ++ [a]).map fun (x : Nat) => (.inl (x : Int) : Key), (V ++ [a]).map val) := by
    unfold putT
    rw [h1]
    simp
  have h4 : keyT (nT a) = some (.inl (a : Int)) := rfl
  have e : putTr (nD true V val) (nT a) (val a) = match keyT (nT a) with
    | some q => if decide ((V.map fun (x : Nat) => (.inl (x : Int) : Key)).length < sizeLine) && (!memK q (V.map fun (x : Nat) => (.inl (x : Int) : Key)) || decide (V.map fun (x : Nat) => (.inl (x : Int) : Key)).Nodup) then some (.nd (.dk (putT (V.map fun (x : Nat) => (.inl (x : Int) : Key)) (V.map val) q (val a)).1) true (putT (V.map fun (x : Nat) => (.inl (x : Int) : Key)) (V.map val) q (val a)).2) else none
    | none => none := by
    simp only [putTr, nD, nT] <;> rfl
  rw [e, h4]
  dsimp only
  rw [if_pos h2, h3]
  rfl
end
end Rb
namespace Rb
open PySem
open PySem.Spec
open L2
theorem orB_iff {L : Lg} (w : Wf L) {p q : Nat} : orB L p q = true ↔ ∃ j d, (j, d) ∈ L.js ∧ p ∈ ansOf L.es j ∧ q ∈ ansOf L.es j ∧ (∀ r ∈ rsts L.es j, (r < p ↔ r < q)) ∧ (d = "stays" ∨ (d = "rises" ∧ p ≤ q) ∨ (d = "falls" ∧ q ≤ p)) := by
  unfold orB
  rw [Bool.and_eq_true]
  constructor
  · rintro ⟨h3, h5⟩
    obtain ⟨j, a, b, c⟩ := alB_iff.mp h3
    obtain ⟨i1, g1, a1⟩ := mem_ansOf.mp a
    obtain ⟨⟨d, hd⟩, _⟩ := w.ok p j i1 g1 a1
    have hj : judN L.es p = j := by simp [judN, a1, judE]
    rw [hj, w.drf hd] at h5
    refine ⟨j, d, hd, a, b, c, ?_⟩
    simpa [or_assoc] using h5
  · rintro ⟨j, d, hd, a, b, c, h5⟩
    obtain ⟨i1, g1, a1⟩ := mem_ansOf.mp a
    have hj : judN L.es p = j := by simp [judN, a1, judE]
    refine ⟨alB_iff.mpr ⟨j, a, b, c⟩, ?_⟩
    rw [hj, w.drf hd]
    simpa [or_assoc] using h5
theorem orB_refl {L : Lg} (w : Wf L) (wd : WfD L) {p : Nat} (hp : p ∈ ansN L.es) : orB L p p = true := by
  rw [orB_iff w]
  have hq := mem_ansN.mp hp
  unfold isAt at hq
  cases q : L.es[p]? with
  | none => rw [q] at hq; cases hq
  | some e =>
    cases e with
    | rst j => rw [q] at hq; cases hq
    | ans j i g =>
      obtain ⟨⟨d, hd⟩, _⟩ := w.ok p j i g q
      refine ⟨j, d, hd, mem_ansOf.mpr ⟨i, g, q⟩, mem_ansOf.mpr ⟨i, g, q⟩, fun _ _ => Iff.rfl, ?_⟩
      rcases wd _ _ hd with h | h | h
      · exact .inr (.inl ⟨h, Nat.le_refl _⟩)
      · exact .inr (.inr ⟨h, Nat.le_refl _⟩)
      · exact .inl h
theorem orB_trans {L : Lg} (w : Wf L) {p q r : Nat} (h1 : orB L p q = true) (h2 : orB L q r = true) : orB L p r = true := by
  rw [orB_iff w] at h1 h2 ⊢
  obtain ⟨j, d, hd, a, b, c, e⟩ := h1
  obtain ⟨j2, d2, hd2, a2, b2, c2, e2⟩ := h2
  obtain ⟨i1, g1, x1⟩ := mem_ansOf.mp b
  obtain ⟨i2, g2, x2⟩ := mem_ansOf.mp a2
  rw [x1] at x2
  cases x2
  have := (w.drf hd).symm.trans (w.drf hd2)
  cases this
  refine ⟨j, d, hd, a, b2, fun r hr => (c r hr).trans (c2 r hr), ?_⟩
  have n1 : ("stays" : Str) ≠ "rises" := by decide
  have n2 : ("stays" : Str) ≠ "falls" := by decide
  have n3 : ("rises" : Str) ≠ "falls" := by decide
  rcases e with e | ⟨e, e'⟩ | ⟨e, e'⟩
  · exact .inl e
  · rcases e2 with f | ⟨f, f'⟩ | ⟨f, f'⟩
    · exact .inl f
    · exact .inr (.inl ⟨e, Nat.le_trans e' f'⟩)
    · rw [e] at f; exact absurd f n3
  · rcases e2 with f | ⟨f, f'⟩ | ⟨f, f'⟩
    · exact .inl f
    · rw [e] at f; exact absurd f.symm n3
    · exact .inr (.inr ⟨e, Nat.le_trans f' e'⟩)
theorem orB_ans {L : Lg} (w : Wf L) {p q : Nat} (h : orB L p q = true) : p ∈ ansN L.es ∧ q ∈ ansN L.es := by
  rw [orB_iff w] at h
  obtain ⟨j, d, hd, a, b, c, e⟩ := h
  exact ⟨(List.mem_filter.mp a).1, (List.mem_filter.mp b).1⟩
theorem mem_lk {L : Lg} (w : Wf L) {p q : Nat} : (p, q) ∈ lkL L ↔ orB L p q = true ∧ grdN L.es p < grdN L.es q := by
  unfold lkL
  simp only [List.mem_flatMap, List.mem_map, List.mem_filter, List.mem_range, Bool.and_eq_true, decide_eq_true_eq, Prod.mk.injEq]
  constructor
  · rintro ⟨a, ha, b, ⟨hb, h1⟩, e1, e2⟩
    subst e1; subst e2
    exact h1
  · rintro ⟨h1, h2⟩
    have l1 : ∀ {x}, x ∈ ansN L.es → x < L.es.length := fun hx => List.mem_range.mp (List.mem_filter.mp hx).1
    exact ⟨p, l1 (orB_ans w h1).1, q, ⟨l1 (orB_ans w h1).2, h1, h2⟩, rfl, rfl⟩
/-- all links rise -/
def risB (L : Lg) (q : Str → Int) : Bool := (lkL L).all fun e => decide (q (itN L.es e.1) < q (itN L.es e.2))
theorem evF_rng2 {C : Calls} {env : Env} {fv : List Nat} {a b : IE} {lo n : Nat} (h1 : ev C env a = .ok (nT lo)) (h2 : ev C env b = .ok (nT (lo + n))) (hn : lo + n ≤ 1000000) : evF C env false fv (.rng2 a b) = .ok ((List.range' lo n).map nT) env := by
  have h3 : rngT (lo : Int) ((lo + n : Nat) : Int) = .ok ((List.range' lo n).map nT) := by
    have c1 := rng_c (n := lo) (by omega)
    have c2 := rng_c (n := lo + n) hn
    unfold rngT
    rw [if_pos ⟨c1.2.2.1, c1.2.2.2, c2.2.2.1, c2.2.2.2⟩]
    have e : (((lo + n : Nat) : Int) - (lo : Int)).toNat = n := by omega
    rw [e, List.range'_eq_map_range, List.map_map]
    congr 1
  have h4 : isRng (.rng2 a b) = true := rfl
  rw [evF_false, evI, if_pos h4, evi, h1, bnd_ok, h2, bnd_ok, nT, nT, intT_int, bnd_ok, intT_int, bnd_ok, h3, toLR]
theorem range'_cons {y m n : Nat} {l : List Nat} (h : y :: l = List.range' m n) : y = m ∧ ∃ n', n = n' + 1 ∧ l = List.range' (m + 1) n' := by
  cases n with
  | zero => cases h
  | succ n =>
    rw [List.range'_succ] at h
    injection h with h1 h2
    exact ⟨h1, n, rfl, h2⟩
/-! ### what the raised bars keep -/
def gdN (es : List Evt) (p : Nat) : Nat := (grdN es p).toNat
def B0 (L : Lg) (q : Str → Int) (p k : Nat) : Int := if gdN L.es p ≤ k then q (itN L.es p) + 1 else -1000
/-- where a bar comes from -/
def Snd (L : Lg) (q : Str → Int) (n : Nat) (B : Nat → Nat → Int) : Prop := ∀ p ∈ ansN L.es, ∀ k, k < n → B p k = -1000 ∨ ∃ s, orB L s p = true ∧ gdN L.es s ≤ k ∧ B p k = q (itN L.es s) + 1
def Ge (n : Nat) (A B : Nat → Nat → Int) : Prop := ∀ p k, k < n → A p k ≤ B p k
theorem snd0 {L : Lg} (w : Wf L) (wd : WfD L) (q : Str → Int) (n : Nat) : Snd L q n (B0 L q) := fun p hp k _ => by
  unfold B0
  split
  · rename_i h
    exact .inr ⟨p, orB_refl w wd hp, h, rfl⟩
  · exact .inl rfl
theorem snd_up {L : Lg} (w : Wf L) {q : Str → Int} {n : Nat} {B : Nat → Nat → Int} (hB : Snd L q n B) {p s k k2 : Nat} (hk2 : k2 ≤ k) (hk : k < n) (ho : orB L s p = true) : Snd L q n (up2 B p k (if B s k2 > B p k then B s k2 else B p k)) := fun p' hp' k' hk' => by
  unfold up2
  by_cases e : p' = p ∧ k' = k
  · rw [if_pos e]
    obtain ⟨rfl, rfl⟩ := e
    split
    · rcases hB s (orB_ans w ho).1 k2 (by omega) with h | ⟨t, h1, h2, h3⟩
      · exact .inl h
      · exact .inr ⟨t, orB_trans w h1 ho, by omega, h3⟩
    · exact hB p' hp' k' hk'
  · rw [if_neg e]
    exact hB p' hp' k' hk'
theorem ge_up {n : Nat} {A B : Nat → Nat → Int} (h : Ge n A B) {p k : Nat} {v : Int} : Ge n A (up2 B p k (if v > B p k then v else B p k)) := fun p' k' hk' => by
  unfold up2
  have := h p' k' hk'
  by_cases e : p' = p ∧ k' = k
  · rw [if_pos e]
    obtain ⟨rfl, rfl⟩ := e
    split <;> omega
  · rw [if_neg e]
    exact this
theorem Ge.refl (n : Nat) (A : Nat → Nat → Int) : Ge n A A := fun _ _ _ => Int.le_refl _
theorem Ge.trans {n : Nat} {A B D : Nat → Nat → Int} (h : Ge n A B) (g : Ge n B D) : Ge n A D := fun p k hk => Int.le_trans (h p k hk) (g p k hk)
/-- with all ways passed on: a bar is too high just where a link does not rise -/
theorem viol_iff {L : Lg} (w : Wf L) {q : Str → Int} {n : Nat} {B : Nat → Nat → Int} (hB : Snd L q n B) (hq : ∀ a ∈ L.items, -1000 ≤ q a) (hg : ∀ p ∈ ansN L.es, grdN L.es p = gdN L.es p ∧ gdN L.es p ≤ n ∧ itN L.es p ∈ L.items) (hC : ∀ s p, orB L s p = true → ∀ k, k < n → B0 L q s k ≤ B p k) :
    (∃ p ∈ ansN L.es, ∃ k, k < gdN L.es p ∧ q (itN L.es p) < B p k) ↔ risB L q = false := by
  constructor
  · rintro ⟨p, hp, k, hk, h⟩
    rw [Bool.eq_false_iff]
    intro hr
    obtain ⟨g1, g2, g3⟩ := hg p hp
    rcases hB p hp k (by omega) with e | ⟨s, h1, h2, h3⟩
    · have := hq _ g3
      omega
    · obtain ⟨s1, s2, s3⟩ := hg s (orB_ans w h1).1
      have h4 : q (itN L.es s) < q (itN L.es p) := of_decide_eq_true (List.all_eq_true.mp hr (s, p) ((mem_lk w).mpr ⟨h1, by omega⟩))
      omega
  · intro h
    have : ∃ e ∈ lkL L, ¬ q (itN L.es e.1) < q (itN L.es e.2) := by
      refine Classical.byContradiction fun n => ?_
      rw [Bool.eq_false_iff] at h
      refine h (List.all_eq_true.mpr fun e he => ?_)
      rw [decide_eq_true_eq]
      exact Classical.byContradiction fun z => n ⟨e, he, z⟩
    obtain ⟨⟨s, p⟩, he, hn⟩ := this
    obtain ⟨ho, hlt⟩ := (mem_lk w).mp he
    obtain ⟨a1, a2⟩ := orB_ans w ho
    obtain ⟨g1, g2, g3⟩ := hg p a2
    obtain ⟨s1, s2, s3⟩ := hg s a1
    refine ⟨p, a2, gdN L.es p - 1, by omega, ?_⟩
    have := hC s p ho (gdN L.es p - 1) (by omega)
    unfold B0 at this
    rw [if_pos (by omega)] at this
    simp only at hn
    omega
end Rb
namespace Rb
open PySem
open PySem.Spec
open L2
theorem nodup_fm {α β : Type} {f : α → List β} : ∀ {l : List α}, l.Pairwise (fun a b => ∀ x ∈ f a, x ∉ f b) → (∀ a ∈ l, (f a).Nodup) → (l.flatMap f).Nodup
  | [], _, _ => by simp
  | a :: l, h, g => by
    rw [List.pairwise_cons] at h
    rw [List.flatMap_cons, List.nodup_append]
    refine ⟨g a List.mem_cons_self, nodup_fm h.2 fun b m => g b (List.mem_cons_of_mem _ m), ?_⟩
    rintro x hx y hy rfl
    obtain ⟨b, hb, hxb⟩ := List.mem_flatMap.mp hy
    exact h.1 b hb x hx hxb
theorem sorted_fm {f : Nat → List (Nat × Nat)} (h1 : ∀ p, ∀ x ∈ f p, x.1 = p) (h2 : ∀ p, (f p).Pairwise ltE) : ∀ {l : List Nat}, l.Pairwise (· < ·) → (l.flatMap f).Pairwise ltE
  | [], _ => by simp
  | a :: l, h => by
    rw [List.pairwise_cons] at h
    rw [List.flatMap_cons, List.pairwise_append]
    refine ⟨h2 a, sorted_fm h1 h2 h.2, fun x hx y hy => ?_⟩
    obtain ⟨b, hb, hyb⟩ := List.mem_flatMap.mp hy
    have e1 := h1 a x hx
    have e2 := h1 b y hyb
    have := h.1 b hb
    unfold ltE
    omega
theorem lkL_sorted (L : Lg) : (lkL L).Pairwise ltE := by
  unfold lkL
  refine sorted_fm (fun p x hx => ?_) (fun p => ?_) List.pairwise_lt_range
  · obtain ⟨q, _, rfl⟩ := List.mem_map.mp hx
    rfl
  · rw [List.pairwise_map]
    exact (List.Pairwise.sublist List.filter_sublist List.pairwise_lt_range).imp fun h => .inr ⟨rfl, h⟩
theorem leN_iff {p q : Nat × Nat} : leN p q = true ↔ ltE p q ∨ p = q := by
  obtain ⟨a, b⟩ := p
  obtain ⟨c, d⟩ := q
  unfold leN leP
  rw [Bool.not_eq_true', SrtO.lexB_no]
  simp only [ci, ltE, Prod.mk.injEq]
  omega
theorem strDisj {es : List Evt} {j : Str} : ∀ {l : List Nat} {qs : List Nat}, (qs ++ l).Pairwise (· < ·) → (∀ p ∈ l, p ∈ ansOf es j) → (qs.map (strAt es j)).Pairwise (fun a b => ∀ x ∈ a, x ∉ b) → ((l.foldl (strStep es j) (qs.map (strAt es j)))).Pairwise (fun a b => ∀ x ∈ a, x ∉ b)
  | [], qs, _, _, h => h
  | p :: l, qs, hs, hl, h => by
    rw [List.foldl_cons]
    have hs2 : (qs ++ l).Pairwise (· < ·) := List.Pairwise.sublist (List.Sublist.append_left (List.sublist_cons_self p l) qs) hs
    have hs3 : ((qs ++ [p]) ++ l).Pairwise (· < ·) := by simpa using hs
    have hl2 : ∀ p ∈ l, p ∈ ansOf es j := fun x m => hl x (List.mem_cons_of_mem _ m)
    by_cases z : (qs.map (strAt es j)).length = 0 ∨ p ∉ (qs.map (strAt es j)).getLastD []
    · rw [strStep, if_pos z]
      have : qs.map (strAt es j) ++ [strAt es j p] = (qs ++ [p]).map (strAt es j) := by simp
      rw [this]
      refine strDisj hs3 hl2 ?_
      rw [List.map_append, List.pairwise_append]
      refine ⟨h, by simp, fun a ha b hb x hxa hxb => ?_⟩
      obtain ⟨q, hq, rfl⟩ := List.mem_map.mp ha
      simp only [List.map_cons, List.map_nil, List.mem_singleton] at hb
      subst hb
      obtain ⟨q0, qs0, hqs⟩ : ∃ q0 qs0, qs = qs0 ++ [q0] := ⟨qs.getLast (by rintro rfl; cases hq), qs.dropLast, (List.dropLast_concat_getLast _).symm⟩
      rcases z with z | z
      · rw [List.length_map, List.length_eq_zero_iff] at z
        rw [z] at hq
        cases hq
      · subst hqs
        have e : ((qs0 ++ [q0]).map (strAt es j)).getLastD [] = strAt es j q0 := by simp
        rw [e] at z
        refine z (mem_strAt.mpr ⟨hl p List.mem_cons_self, fun r hr => ?_⟩)
        have a1 := (mem_strAt.mp hxa).2 r hr
        have a2 := (mem_strAt.mp hxb).2 r hr
        have hq0 : q ≤ q0 := by
          rcases List.mem_append.mp hq with m | m
          · have := (List.pairwise_append.mp (List.pairwise_append.mp hs).1).2.2 q m q0 (by simp)
            omega
          · rw [List.mem_singleton] at m
            omega
        have hp0 : q0 < p := (List.pairwise_append.mp hs).2.2 q0 (by simp) p (by simp)
        omega
    · rw [strStep, if_neg z]
      exact strDisj hs2 hl2 h
theorem ansOf_sorted (es : List Evt) (j : Str) : (ansOf es j).Pairwise (· < ·) := List.Pairwise.sublist (List.Sublist.trans List.filter_sublist List.filter_sublist) List.pairwise_lt_range
theorem strAll_disj (es : List Evt) (j : Str) : (strAll es j).Pairwise (fun a b => ∀ x ∈ a, x ∉ b) := strDisj (qs := []) (by simpa using ansOf_sorted es j) (fun _ m => m) (by simp)
theorem nodup_lnkIn (es : List Evt) (d : Str) {s : List Nat} (hs : s.Nodup) : (lnkIn stS riS es d s).Nodup := by
  unfold lnkIn
  refine nodup_fm (hs.imp fun {a b} hab x hx hy => ?_) fun p _ => ?_
  · obtain ⟨q, _, rfl⟩ := List.mem_map.mp hx
    obtain ⟨q', _, e⟩ := List.mem_map.mp hy
    injection e with e1 e2
    exact hab e1.symm
  · rw [List.Nodup, List.pairwise_map]
    exact (List.Nodup.sublist List.filter_sublist hs).imp fun n e => n (by injection e)
theorem nodup_lnkL {L : Lg} (w : Wf L) : (lnkL stS riS L).Nodup := by
  unfold lnkL
  have hj := w.js_nd
  rw [List.Nodup, List.pairwise_map] at hj
  refine nodup_fm (hj.imp fun {a b} hab x hx hy => ?_) fun jd _ => ?_
  · obtain ⟨s, hs, hx⟩ := List.mem_flatMap.mp hx
    obtain ⟨s', hs', hy⟩ := List.mem_flatMap.mp hy
    obtain ⟨p, q⟩ := x
    have m1 := (mem_lnkIn.mp hx).1
    have m2 := (mem_lnkIn.mp hy).1
    obtain ⟨_, _, rfl⟩ := strAll_mem hs
    obtain ⟨_, _, rfl⟩ := strAll_mem hs'
    obtain ⟨i1, g1, e1⟩ := mem_ansOf.mp (mem_strAt.mp m1).1
    obtain ⟨i2, g2, e2⟩ := mem_ansOf.mp (mem_strAt.mp m2).1
    rw [e1] at e2
    have e3 := Option.some.inj e2
    injection e3 with e4
    exact hab e4
  · refine nodup_fm ((strAll_disj L.es jd.1).imp fun {a b} hab x hx hy => ?_) fun s hs => ?_
    · obtain ⟨p, q⟩ := x
      exact hab p (mem_lnkIn.mp hx).1 (mem_lnkIn.mp hy).1
    · obtain ⟨_, _, rfl⟩ := strAll_mem hs
      exact nodup_lnkIn _ _ (nodup_strAt _ _ _)
/-- all links ascending: the program's and the law's -/
theorem lnkS_eq {L : Lg} (w : Wf L) (wd : WfD L) : lnkS L = lkL L := by
  refine sorted_eq ?_ (lkL_sorted L) fun ⟨p, q⟩ => (mem_srtN.trans mem_lnkL).trans (mem_lkL w wd).symm
  have h1 : (lnkS L).Pairwise fun a b => leN a b = true := List.pairwise_mergeSort (fun a b c h1 h2 => by
    rw [leN_iff] at *
    rcases h1 with h1 | rfl
    · rcases h2 with h2 | rfl
      · exact .inl (ltE_tr h1 h2)
      · exact .inl h1
    · exact h2) (fun a b => by
    rw [Bool.or_eq_true, leN_iff, leN_iff]
    rcases ltE_or (a := a) (b := b) with h | h | h
    · exact .inl (.inl h)
    · exact .inl (.inr h)
    · exact .inr (.inl h)) _
  have h2 : (lnkS L).Nodup := (List.mergeSort_perm _ _).symm.nodup (nodup_lnkL w)
  refine List.Pairwise.imp (R := fun a b => leN a b = true ∧ a ≠ b) (fun {a b} h => (leN_iff.mp h.1).resolve_right h.2) ?_
  exact List.Pairwise.and h1 h2
end Rb
namespace Rb
open PySem
open PySem.Spec
open L2
abbrev y_lengths_to : List IS := [.asg (.nm 2) (.es [1] (.d1 1 (0))), .asg (.nm 3) (.es [1] (.lst [.var 1])), .whl (.var 3) [4, 5, 6, 7] [.pop0 4 3, .floop (.tp [.nm 5, .nm 6, .nm 7]) false [0] (.seq (.var 0)) [5, 6, 7] [.iff (.bo .And [.cmp .Eq (.var 7) (.var 4), .cmp .NotIn (.var 6) (.var 2)]) [.put 2 [] (.var 6) (.rd (.bin .Add (.sub (.var 2) (.var 4)) (.lit (.int 1)))), .app 3 [] (.es [6] (.var 6))] []]], .ret (.mv 2)]
abbrev y_first_way : List IS := [.asg (.nm 3) (.es [0, 2] (.call "lengths_to" [.var 0, .var 2])), .asg (.nm 4) (.rd (.mxd false (.lc (.sub (.var 3) (.var 10)) (.tp [.nm 8, .nm 9, .nm 10]) (.seq (.var 0)) [.bo .And [.cmp .Eq (.var 9) (.var 1), .cmp .In (.var 10) (.var 3)]]) (.lit .non))), .iff (.cmp .Is (.var 4) (.lit .non)) [.ret (.rd (.lit .non))] [], .asg (.nm 5) (.rd (.lst [])), .asg (.nm 6) (.es [1] (.var 1)), .whl (.cmp .GtE (.var 4) (.lit (.int 0))) [] [.asg (.tp [.nm 7, .nm 6]) (.es [0, 3, 4, 6, 7] (.sub (.lc (.tup [.var 7, .var 10]) (.tp [.nm 7, .nm 9, .nm 10]) (.seq (.var 0)) [.bo .And [.cmp .Eq (.var 9) (.var 6), .cmp .Eq (.gt (.var 3) (.var 10)) (.var 4)]]) (.lit (.int 0)))), .app 5 [] (.es [7] (.var 7)), .aug 4 false (.lit (.int 1))], .ret (.mv 5)]
structure LenTab (T : Tab) : Prop where
  lengths_to : T.at (.fn "lengths_to") = some (8, 2, y_lengths_to)
  first_way : T.at (.fn "first_way") = some (11, 3, y_first_way)
abbrev y_way_between : List IS := [.exp (.call "check_items" [.var 0, .lst [.var 1, .var 2]]), .ret (.es [0, 1, 2] (.call "first_way" [.call "ends_of" [.var 0], .var 1, .var 2]))]
structure WayTab (T : Tab) : Prop where
  way_between : T.at (.fn "way_between") = some (3, 3, y_way_between)
abbrev y_is_link : List IS := [.iff (.bo .Or [.no (.mth (.var 0) "is_answer" [.var 1]), .no (.mth (.var 0) "is_answer" [.var 2]), .no (.mth (.var 0) "in_order" [.var 1, .var 2])]) [.ret (.rd (.lit (.bl false)))] [], .ret (.rd (.cmp .Lt (.mth (.var 0) "grade_at" [.var 1]) (.mth (.var 0) "grade_at" [.var 2])))]
abbrev y_is_way : List IS := [.exp (.call "check_items" [.var 0, .lst [.var 2, .var 3]]), .asg (.nm 4) (.es [2] (.var 2)), .floop (.tp [.nm 5, .nm 6]) false [1] (.seq (.var 1)) [5, 6] [.iff (.bo .Or [.no (.call "is_link" [.var 0, .var 5, .var 6]), .cmp .NotEq (.mth (.var 0) "item_at" [.var 5]) (.var 4)]) [.ret (.rd (.lit (.bl false)))] [], .asg (.nm 4) (.es [0, 6] (.mth (.var 0) "item_at" [.var 6]))], .ret (.rd (.bo .And [.cmp .Gt (.b1 .len (.var 1)) (.lit (.int 0)), .cmp .Eq (.var 4) (.var 3)]))]
abbrev y_is_first : List IS := [.ret (.rd (.bo .Or [.cmp .Eq (.var 0) (.glb "STAYS" (.inr "stays")), .ifx (.cmp .Eq (.var 0) (.glb "RISES" (.inr "rises"))) (.cmp .LtE (.var 1) (.var 2)) (.cmp .GtE (.var 1) (.var 2))]))]
abbrev y_Log_in_order : List IS := [.asg (.nm 3) (.es [0, 1] (.mth (.var 0) "judge_at" [.var 1])), .exp (.mth (.var 0) "judge_at" [.var 2]), .ret (.rd (.bo .And [.cmp .In (.var 2) (.mth (.var 0) "stretch_of" [.var 1]), .call "is_first" [.mth (.var 0) "drift_of" [.var 3], .var 1, .var 2]]))]
structure IswTab (T : Tab) : Prop where
  is_link : T.at (.fn "is_link") = some (3, 3, y_is_link)
  is_way : T.at (.fn "is_way") = some (7, 4, y_is_way)
  is_first : T.at (.fn "is_first") = some (3, 3, y_is_first)
  Log_in_order : T.at (.me "Log" "in_order") = some (4, 3, y_Log_in_order)
end Rb
namespace Rb
open PySem
open PySem.Spec
open L2
section
variable {C : Calls} {env env' : Env} {ss : List IS} {r : SR}
theorem z_pop0 {i j : Nat} {x : T} {xs : List T} (hi : getS env j = some (.nd .lst true (x :: xs))) (ha : atomT x = true) (hij : i ≠ j) (he : (env.set j (some (.nd .lst true xs))).set i (some x) = env') (hr : execs C ss env' = r) : execs C (.pop0 i j :: ss) env = r := by
  have hc : (atomT x && decide (i ≠ j)) = true := by rw [ha, decide_eq_true hij]; rfl
  rw [execs, exec, hi]
  simp only [hc, if_true, he, SR.seq, hr]
theorem z_aug {i : Nat} {add : Bool} {e : IE} {a b : Int} (hi : getS env i = some (.int a)) (h : ev C env e = .ok (.int b)) (he : env.set i (some (.int (if add then a + b else a - b))) = env') (hr : execs C ss env' = r) : execs C (.aug i add e :: ss) env = r := by
  rw [execs, exec, hi]
  simp only [evL, h, own_int, if_true, VR.go, augT, Option.map_some, optS, he, SR.seq, hr]
end
theorem dget_sD (o : Bool) (S : List Str) (val : Str → T) (a : Str) : dgetT (sD o S val) (.str a) = .ok (if a ∈ S then some (val a) else none) := by
  have e2 : dgetT (sD o S val) (.str a) = .ok (getK (S.map fun x => (.inr x : Key)) (S.map val) (.inr a)) := rfl
  rw [e2]
  by_cases m : a ∈ S
  · rw [getK_map (key := fun x : Str => (.inr x : Key)) (fun b _ z => by injection z) m, if_pos m]
  · rw [getK_none (key := fun x : Str => (.inr x : Key)) fun x hx z => m (by injection z with z; exact z ▸ hx), if_neg m]
theorem inR_sD (o : Bool) (S : List Str) (val : Str → T) (a : Str) : inR (.str a) (sD o S val) = .ok (decide (a ∈ S)) := by
  have e : inR (.str a) (sD o S val) = (dgetT (sD o S val) (.str a) >>= fun o => .ok o.isSome) := rfl
  rw [e, dget_sD, bnd_ok]
  by_cases m : a ∈ S <;> simp [m]
theorem sD_congr {o : Bool} {S : List Str} {f g : Str → T} (h : ∀ p ∈ S, f p = g p) : sD o S f = sD o S g := by
  unfold sD
  rw [List.map_congr_left h]
def lenT (o : Bool) (S : List Str) (f : Str → Nat) : T := sD o S fun a => nT (f a)
theorem strip_lenT (o : Bool) (S : List Str) (f : Str → Nat) : strip (lenT o S f) = lenT false S f := by
  unfold lenT
  rw [strip_sD]
  rfl
section
variable {T : Tab} (hT : LenTab T) (k : Nat) (es : List Evt) (K : List (Nat × Nat)) (V : List Str) (hV : V.length ≤ 20) (hKV : ∀ e ∈ K, itN es e.1 ∈ V)
include hT hV hKV
theorem lengths_ok {b : Str} (hb : b ∈ V) : ∃ (S : List Str) (f : Str → Nat), Bfs (K := K) (it := itN es) b S f [] ∧ (mkC T (k + 1)).fn "lengths_to" [.nd .lst false (K.map (enT es)), .str b] = .ok (lenT true S f) := by
  obtain ⟨EF, hEF⟩ : ∃ W : Rb.T, W = .nd .lst false (K.map (enT es)) := ⟨_, rfl⟩
  have sE : strip EF = EF := by rw [hEF]; simp [strip, strips_enT]
  have cE : childs EF = .ok (K.map (enT es)) := by rw [hEF]; rfl
  rw [← hEF]
  suffices hh : ∀ P : SR → Prop, (∀ S f, Bfs (K := K) (it := itN es) b S f [] → P (.rt (lenT true S f))) → P (execs (mkC T k) y_lengths_to [some EF, some (.str b), none, none, none, none, none, none]) by
    obtain ⟨S, f, h1, h2⟩ := hh (fun r => ∃ S f, Bfs (K := K) (it := itN es) b S f [] ∧ r = .rt (lenT true S f)) fun S f h => ⟨S, f, h, rfl⟩
    refine ⟨S, f, h1, ?_⟩
    rw [fn_of hT.lengths_to]
    exact call_rt rfl (by simp [env0, strips, sE]) h2
  intro P hP
  let EE : List Str → (Str → Nat) → List Str → Option Rb.T → Option Rb.T → Option Rb.T → Option Rb.T → Env := fun S f Q v4 v5 v6 v7 => [some EF, some (.str b), some (lenT true S f), some (lsT Q), v4, v5, v6, v7]
  refine zp ?_ (z_asg_es (t := lenT true [b] fun _ => 0) (env' := [some EF, some (.str b), some (lenT true [b] fun _ => 0), none, none, none, none, none]) ?_ (by simp [asgT, frS, frSg]) rfl)
  rotate_left
  · show ev _ [none, some (.str b), none, none, none, none, none, none] _ = _
    simp [ev, getS, d1T, keyT, lenT, sD, nT]
  refine zp ?_ (z_asg_es (t := lsT [b]) (env' := EE [b] (fun _ => 0) [b] none none none none) ?_ (by simp [EE, asgT, frS, frSg]) rfl)
  rotate_left
  · show ev _ [none, some (.str b), none, none, none, none, none, none] _ = _
    simp [ev, evs, getS, sz1, lsT]
  refine z_whlP (fun m env => ∃ S f Q, env = EE S f Q none none none none ∧ Bfs (K := K) (it := itN es) b S f Q ∧ (∀ a ∈ S, a ∈ V) ∧ m = 2 * (V.length - S.length) + Q.length ∧ m ≤ 41) (fun env => ∃ S f, env = EE S f [] none none none none ∧ Bfs (K := K) (it := itN es) b S f []) (m := 2 * (V.length - 1) + 1) (by omega) ⟨[b], _, [b], rfl, Bfs.start b _ rfl, fun a m => by rw [List.mem_singleton] at m; rw [m]; exact hb, rfl, by omega⟩ ?_ ?_
  · rintro _ _ ⟨S, f, Q, rfl, hB, hS, rfl, h41⟩
    have ec : evC (mkC T k) (EE S f Q none none none none) (.var 3) = .ok (!Q.isEmpty) := by
      have e1 : ev (mkC T k) (EE S f Q none none none none) (.var 3) = .ok (.nd .lst false (Q.map .str)) := by simp [EE, ev, getS, strip_ls]
      rw [evC, e1, bnd_ok]
      have : truth (.nd .lst false (Q.map Rb.T.str)) = .ok (!Q.isEmpty) := by cases Q <;> rfl
      rw [this]; rfl
    cases Q with
    | nil => exact .inl ⟨ec, S, f, rfl, hB⟩
    | cons h Q =>
      refine .inr ⟨ec, ?_⟩
      suffices hb : ∃ S' f' Q', Bfs (K := K) (it := itN es) b S' f' Q' ∧ (∀ a ∈ S', a ∈ V) ∧ 2 * (V.length - S'.length) + Q'.length ≤ 2 * (V.length - S.length) + Q.length ∧ execs (mkC T k) (match y_lengths_to[2]? with | some (IS.whl _ _ b) => b | _ => []) (EE S f (h :: Q) none none none none) = .nx (EE S' f' Q' (some (.str h)) none none none) by
        obtain ⟨S', f', Q', a1, a2, a3, a4⟩ := hb
        simp only [List.length_cons] at h41
        exact ⟨_, _, .inl a4, by simp only [List.length_cons]; omega, S', f', Q', rfl, a1, a2, rfl, by omega⟩
      let S0 : SR → Prop := fun r => ∃ S' f' Q', Bfs (K := K) (it := itN es) b S' f' Q' ∧ (∀ a ∈ S', a ∈ V) ∧ 2 * (V.length - S'.length) + Q'.length ≤ 2 * (V.length - S.length) + Q.length ∧ r = .nx (EE S' f' Q' (some (.str h)) none none none)
      show S0 _
      refine zp ?_ (z_pop0 (x := .str h) (xs := Q.map .str) (env' := EE S f Q (some (.str h)) none none none) rfl rfl (by decide) rfl rfl)
      have hM0 := hB.mid
      refine z_forP (f := enT es) (fun (l : List (Nat × Nat)) env => ∃ S' f' Q' dn, env = EE S' f' Q' (some (.str h)) none none none ∧ Mid (K := K) (it := itN es) b h S' f' Q' dn ∧ dn ++ l = K ∧ (∀ a ∈ S', a ∈ V) ∧ 2 * (V.length - S'.length) + Q'.length ≤ 2 * (V.length - S.length) + Q.length) (ys := K) (e0 := EE S f Q (some (.str h)) none none none) ?_ ⟨S, f, Q, [], rfl, hM0, rfl, hS, Nat.le_refl _⟩ ?_ ?_
      · have := evF_seq (C := mkC T k) (env := EE S f Q (some (.str h)) none none none) (fv := [0]) (e := .var 0) (xs := K.map (enT es)) (t := EF) (by
          show ev _ [some EF, none, none, none, none, none, none, none] _ = _
          simp [ev, getS, sE]) cE
        rw [this]
        simp [EE, frS, frSg, sE]
      · rintro _ ⟨p, q⟩ l ⟨S', f', Q', dn, rfl, hM, hdn, hS', hm⟩
        have heK : (p, q) ∈ K := by rw [← hdn]; simp
        have hSl : S'.length ≤ V.length := nodup_len hM.nd hS'
        have ec : ev (mkC T k) [some EF, some (.str b), some (lenT true S' f'), some (lsT Q'), some (.str h), some (pT (p, q)), some (.str (itN es p)), some (.str (itN es q))] (.bo .And [.cmp .Eq (.var 7) (.var 4), .cmp .NotIn (.var 6) (.var 2)]) = .ok (.bl (decide (itN es q = h) && decide (itN es p ∉ S'))) := by
          refine ev_and (x := decide (itN es q = h)) ?_ (fun z => ?_) (fun z => by rw [z]; rfl)
          · simp [ev, getS, beq_dec]
          · have e1 : inR (.str (itN es p)) (lenT false S' f') = .ok (decide (itN es p ∈ S')) := inR_sD _ _ _ _
            rw [ev_cmp (x := .str (itN es p)) (y := lenT false S' f') (by simp [ev, getS]) (by simp [ev, getS, strip_lenT]), cmp_nin, e1, bnd_ok, z]
            by_cases m : itN es p ∈ S' <;> simp [m]
        refine ⟨[some EF, some (.str b), some (lenT true S' f'), some (lsT Q'), some (.str h), some (pT (p, q)), some (.str (itN es p)), some (.str (itN es q))], ?_⟩
        by_cases z : itN es q = h ∧ itN es p ∉ S'
        · rw [decide_eq_true z.1, decide_eq_true z.2] at ec
          have hM2 := hM.add heK z.1 z.2
          have hcg : lenT true S' f' = lenT true S' (upF f' (itN es p) (f' h + 1)) := sD_congr fun a m => by
            have hne : a ≠ itN es p := fun e => z.2 (e ▸ m)
            rw [upF_ne _ _ hne]
          refine ⟨EE (S' ++ [itN es p]) (upF f' (itN es p) (f' h + 1)) (Q' ++ [itN es p]) (some (.str h)) (some (pT (p, q))) (some (.str (itN es p))) (some (.str (itN es q))), by rw [strip_enT]; rfl, .inl ?_, S' ++ [itN es p], _, Q' ++ [itN es p], dn ++ [(p, q)], rfl, hM2, by rw [← hdn]; simp, fun a m => ?_, ?_⟩
          · refine z_if_nx ec (z_put_rd (t := nT (f' h + 1)) (q := .str (itN es p)) (w := lenT true S' (upF f' (itN es p) (f' h + 1))) (env' := [some EF, some (.str b), some (lenT true (S' ++ [itN es p]) (upF f' (itN es p) (f' h + 1))), some (lsT Q'), some (.str h), some (pT (p, q)), some (.str (itN es p)), some (.str (itN es q))]) ?_ rfl (by rw [← hcg]; rfl) (by simp [ev, getS]) rfl ?_ rfl (z_app (xs := Q'.map .str) (t := .str (itN es p)) (env' := EE (S' ++ [itN es p]) (upF f' (itN es p) (f' h + 1)) (Q' ++ [itN es p]) (some (.str h)) (some (pT (p, q))) (some (.str (itN es p))) (some (.str (itN es q)))) rfl ?_ rfl ?_ (by simp [EE, frS, frSg, lsT]) z_nil)) z_nil
            · have e1 : ixT (lenT false S' f') (.str h) = .ok (nT (f' h)) := ix_sD hM.hs
              rw [ev_bin (x := nT (f' h)) (y := .int 1) (by simp [ev, getS, strip_lenT, e1]) (by rw [ev]), nT, bin_add]
              rfl
            · have := put_new (V := S') (val := fun a => nT (upF f' (itN es p) (f' h + 1) a)) (a := itN es p) (by omega) z.2
              rw [upF_same] at this
              exact this
            · show ev _ [none, none, none, none, none, none, some (.str (itN es p)), none] _ = _
              simp [ev, getS]
            · have h1 : Q'.length ≤ 2 * (V.length - S.length) + Q.length := by omega
              have h2 := h41
              simp only [List.length_cons] at h2
              rw [sizeLine_eq, List.length_map]
              omega
          · rcases List.mem_append.mp m with m | m
            · exact hS' a m
            · rw [List.mem_singleton] at m
              rw [m]; exact hKV _ heK
          · have : S'.length + 1 ≤ V.length := by
              have := nodup_len hM2.nd fun a m => by
                rcases List.mem_append.mp m with m | m
                · exact hS' a m
                · rw [List.mem_singleton] at m
                  rw [m]; exact hKV _ heK
              simpa using this
            simp only [List.length_append, List.length_singleton]
            omega
        · have hz : (decide (itN es q = h) && decide (itN es p ∉ S')) = false := by
            rw [Bool.eq_false_iff]
            intro y
            rw [Bool.and_eq_true, decide_eq_true_eq, decide_eq_true_eq] at y
            exact z y
          rw [hz] at ec
          exact ⟨_, by rw [strip_enT]; rfl, .inl (z_if_f ec z_nil), S', f', Q', dn ++ [(p, q)], rfl, hM.skip z, by rw [← hdn]; simp, hS', hm⟩
      · rintro _ ⟨S', f', Q', dn, rfl, hM, hdn, hS', hm⟩
        rw [List.append_nil] at hdn
        exact ⟨S', f', Q', hM.bfs fun e he => hdn ▸ he, hS', hm, z_nil⟩
  · rintro _ ⟨S, f, rfl, hB⟩
    exact zp (hP S f hB) (z_ret_mv rfl)
end
end Rb
namespace Rb
open PySem
open PySem.Spec
open L2
theorem minI_mem : ∀ (xs : List Int) (x : Int), xs.foldl (fun m y => if y < m then y else m) x ∈ x :: xs
  | [], x => by simp
  | y :: xs, x => by
    rw [List.foldl_cons]
    have := minI_mem xs (if y < x then y else x)
    rcases List.mem_cons.mp this with h | h
    · rw [h]
      split <;> simp
    · exact List.mem_cons_of_mem _ (List.mem_cons_of_mem _ h)
/-- the least of some lengths -/
theorem mn_nat {ns : List Nat} (hn : ns ≠ []) : ∃ m ∈ ns, mxI false (ns.map fun (n : Nat) => (n : Int)) 0 = m ∧ ∀ x ∈ ns, m ≤ x := by
  cases ns with
  | nil => exact absurd rfl hn
  | cons n ns =>
    have e : mxI false ((n :: ns).map fun (n : Nat) => (n : Int)) 0 = (ns.map fun (n : Nat) => (n : Int)).foldl (fun m y => if y < m then y else m) (n : Int) := by
      simp [mxI, minI]
    have h1 := minI_mem (ns.map fun (n : Nat) => (n : Int)) (n : Int)
    rw [← e] at h1
    obtain ⟨m, hm, hm2⟩ : ∃ m ∈ n :: ns, mxI false ((n :: ns).map fun (n : Nat) => (n : Int)) 0 = (m : Int) := by
      rcases List.mem_cons.mp h1 with h | h
      · exact ⟨n, List.mem_cons_self, h⟩
      · obtain ⟨m, a, b⟩ := List.mem_map.mp h
        exact ⟨m, List.mem_cons_of_mem _ a, b.symm⟩
    refine ⟨m, hm, hm2, fun x hx => ?_⟩
    rw [e] at hm2
    refine Classical.byContradiction fun z => ?_
    have h3 : (x : Int) < (ns.map fun (n : Nat) => (n : Int)).foldl (fun m y => if y < m then y else m) (n : Int) := by rw [hm2]; omega
    rw [foldl_min] at h3
    rcases List.mem_cons.mp hx with rfl | hx
    · have := h3.1
      omega
    · have := h3.2 _ (List.mem_map_of_mem hx)
      omega
theorem flat_pT (p : Nat × Nat) : flat (pT p) = true := by simp [pT, flat, flats, flat_nT]
theorem eqr_ni (j : Int) : eqR .non (.int j) = .ok false := by simp [eqR, eqok, dpth, eqT]
def optT (o : Option (List (Nat × Nat))) : T := match o with
  | some l => .nd .lst true (l.map pT)
  | none => .non
section
variable {T : Tab} (hT : LenTab T) (k : Nat) (es : List Evt) (K : List (Nat × Nat)) (V : List Str) (hV : V.length ≤ 20) (hKV : ∀ e ∈ K, itN es e.1 ∈ V) (hKV2 : ∀ e ∈ K, itN es e.2 ∈ V) (hs : K.Pairwise ltE) (hl : K.length ≤ 1000000)
include hT hV hKV hKV2 hs hl
theorem first_way_ok {a b : Str} (hb : b ∈ V) : ∃ o, Told K (itN es) o a b ∧ (∀ l, o = some l → l.length ≤ 1000) ∧ (mkC T (k + 2)).fn "first_way" [.nd .lst false (K.map (enT es)), .str a, .str b] = .ok (optT o) := by
  obtain ⟨S, f, hB, eL⟩ := lengths_ok hT k es K V hV hKV hb
  have hD := hB.dist
  obtain ⟨EF, hEF⟩ : ∃ W : Rb.T, W = .nd .lst false (K.map (enT es)) := ⟨_, rfl⟩
  have sE : strip EF = EF := by rw [hEF]; simp [strip, strips_enT]
  have cE : childs EF = .ok (K.map (enT es)) := by rw [hEF]; rfl
  rw [← hEF] at eL ⊢
  suffices hh : ∀ P : SR → Prop, (∀ o, Told K (itN es) o a b → (∀ l, o = some l → l.length ≤ 1000) → P (.rt (optT o))) → P (execs (mkC T (k + 1)) y_first_way [some EF, some (.str a), some (.str b), none, none, none, none, none, none, none, none]) by
    obtain ⟨o, h1, h2, h3⟩ := hh (fun r => ∃ o, Told K (itN es) o a b ∧ (∀ l, o = some l → l.length ≤ 1000) ∧ r = .rt (optT o)) fun o h1 h2 => ⟨o, h1, h2, rfl⟩
    refine ⟨o, h1, h2, ?_⟩
    rw [fn_of hT.first_way]
    exact call_rt rfl (by simp [env0, strips, sE]) h3
  intro P hP
  have sL : ∀ o, strip (lenT o S f) = lenT false S f := fun o => strip_lenT _ _ _
  refine zp ?_ (z_asg_es (t := lenT true S f) (env' := [some EF, some (.str a), some (.str b), some (lenT true S f), none, none, none, none, none, none, none]) ?_ (by simp [asgT, frS, frSg, sE]) rfl)
  rotate_left
  · show ev _ [some EF, none, some (.str b), none, none, none, none, none, none, none, none] _ = _
    rw [ev_call (ts := [EF, .str b]) (by simp [evs, ev, getS, sE])]
    simp only [strips, sE, strip_str]
    exact eL
  let fit : Nat × Nat → Bool := fun e => decide (itN es e.1 = a) && decide (itN es e.2 ∈ S)
  have el : ev (mkC T (k + 1)) [some EF, some (.str a), some (.str b), some (lenT true S f), none, none, none, none, none, none, none] (.lc (.sub (.var 3) (.var 10)) (.tp [.nm 8, .nm 9, .nm 10]) (.seq (.var 0)) [.bo .And [.cmp .Eq (.var 9) (.var 1), .cmp .In (.var 10) (.var 3)]]) = .ok (.nd .lst true (((K.filter fit).map fun e => f (itN es e.2)).map nT)) := by
    have := ev_lc (C := mkC T (k + 1)) (env := [some EF, some (.str a), some (.str b), some (lenT true S f), none, none, none, none, none, none, none]) (tg := .tp [.nm 8, .nm 9, .nm 10]) (it := .seq (.var 0)) (elt := .sub (.var 3) (.var 10)) (ifs := [.bo .And [.cmp .Eq (.var 9) (.var 1), .cmp .In (.var 10) (.var 3)]]) (ys := K) (f := enT es) fit (fun e => nT (f (itN es e.2))) (evi_seq (t := EF) (by simp [ev, getS, sE]) cE) (by omega) fun e he => by
      obtain ⟨p, q⟩ := e
      refine ⟨[some EF, some (.str a), some (.str b), some (lenT true S f), none, none, none, none, some (pT (p, q)), some (.str (itN es p)), some (.str (itN es q))], rfl, ?_, fun hf => ?_⟩
      · have e1 : inR (.str (itN es q)) (lenT false S f) = .ok (decide (itN es q ∈ S)) := inR_sD _ _ _ _
        have ec : ev (mkC T (k + 1)) [some EF, some (.str a), some (.str b), some (lenT true S f), none, none, none, none, some (pT (p, q)), some (.str (itN es p)), some (.str (itN es q))] (.bo .And [.cmp .Eq (.var 9) (.var 1), .cmp .In (.var 10) (.var 3)]) = .ok (.bl (fit (p, q))) := by
          refine ev_and (x := decide (itN es p = a)) ?_ (fun z => ?_) (fun z => by simp only [fit, z]; rfl)
          · simp [ev, getS, beq_dec]
          · rw [ev_cmp (x := .str (itN es q)) (y := lenT false S f) (by simp [ev, getS]) (by simp [ev, getS, sL]), cmp_in, e1, bnd_ok]
            simp only [fit, z, Bool.true_and]
        rw [evc, ec, bnd_ok, truth_bl]
      · simp only [fit, Bool.and_eq_true, decide_eq_true_eq] at hf
        have e1 : ixT (lenT false S f) (.str (itN es q)) = .ok (nT (f (itN es q))) := ix_sD hf.2
        simp [ev, getS, sL, e1]
    rw [this, List.map_map]
    rfl
  by_cases hne : ((K.filter fit).map fun e => f (itN es e.2)) = []
  · refine zp ?_ (z_asg_rd (t := .non) (env' := [some EF, some (.str a), some (.str b), some (lenT true S f), some .non, none, none, none, none, none, none]) ?_ rfl (by simp [asgT]) rfl)
    rotate_left
    · rw [ev, el, hne, bnd_ok, ev, bnd_ok]
      rfl
    refine zp (hP none (fun l hl' w => ?_) fun l e => by cases e) (z_if_rt (by simp [ev, getS, strip, cmpT, isNon]) (z_ret_rd (by rw [ev]; rfl) rfl))
    cases l with
    | nil => exact hl' rfl
    | cons e l =>
      obtain ⟨m, hm, _⟩ := hD.2 _ l w.2.2
      have hin : itN es e.2 ∈ S := by
        dsimp only at hm
        split at hm
        · assumption
        · cases hm
      have : e ∈ K.filter fit := List.mem_filter.mpr ⟨w.1, by simp only [fit]; rw [decide_eq_true w.2.1, decide_eq_true hin]; rfl⟩
      rw [List.map_eq_nil_iff] at hne
      rw [hne] at this
      cases this
  · obtain ⟨m, hm1, hm2, hm3⟩ := mn_nat hne
    obtain ⟨e0, he0, hm0⟩ := List.mem_map.mp hm1
    have he0' := List.mem_filter.mp he0
    have hf0 : itN es e0.1 = a ∧ itN es e0.2 ∈ S := by
      have := he0'.2
      simpa only [fit, Bool.and_eq_true, decide_eq_true_eq] using this
    refine zp ?_ (z_asg_rd (t := .int (m : Int)) (env' := [some EF, some (.str a), some (.str b), some (lenT true S f), some (.int m), none, none, none, none, none, none]) ?_ rfl (by simp [asgT]) rfl)
    rotate_left
    · have hem : (((K.filter fit).map fun e => f (itN es e.2)).map fun (n : Nat) => (n : Int)).isEmpty = false := by
        rw [List.isEmpty_eq_false_iff]
        exact fun e => hne (List.map_eq_nil_iff.mp e)
      rw [ev, el, bnd_ok, ev, bnd_ok, mxdT, intsT_nT, optR_some, hem, hm2]
      rfl
    refine zp ?_ (z_if_f (by simp [ev, getS, cmpT, isNon]) rfl)
    refine zp ?_ (z_asg_rd (t := .nd .lst true []) (env' := [some EF, some (.str a), some (.str b), some (lenT true S f), some (.int m), some (.nd .lst true []), none, none, none, none, none]) (by simp [ev, evs, sz0]) (by simp [own, owns]) (by simp [asgT]) rfl)
    refine zp ?_ (z_asg_es (t := .str a) (env' := [some EF, some (.str a), some (.str b), some (lenT true S f), some (.int m), some (.nd .lst true []), some (.str a), none, none, none, none]) ?_ (by simp [asgT, frS, frSg]) rfl)
    rotate_left
    · show ev _ [none, some (.str a), none, none, none, none, none, none, none, none, none] _ = _
      simp [ev, getS]
    let D : Str → Option Nat := fun x => if x ∈ S then some (f x) else none
    have hG0 : Grd (K := K) (it := itN es) D b (m + 1) a := by
      refine ⟨?_, fun e l hln w => ?_⟩
      · obtain ⟨l, l1, l2⟩ := hB.wy _ hf0.2
        exact ⟨e0 :: l, by simp [l1]; omega, he0'.1, hf0.1, l2⟩
      · obtain ⟨n, n1, n2⟩ := hD.2 _ l w.2.2
        have hin : itN es e.2 ∈ S := by
          dsimp only at n1
          split at n1
          · assumption
          · cases n1
        dsimp only at n1
        rw [if_pos hin] at n1
        have n3 := Option.some.inj n1
        have := hm3 _ (List.mem_map_of_mem (f := fun e => f (itN es e.2)) (List.mem_filter.mpr ⟨w.1, show fit e = true by simp only [fit]; rw [decide_eq_true w.2.1, decide_eq_true hin]; rfl⟩))
        show (if itN es e.2 ∈ S then some (f (itN es e.2)) else none) = _
        rw [if_pos hin]
        congr 1
        omega
    have hm20 : m ≤ 20 := by
      obtain ⟨l, l1, l2⟩ := hB.wy _ hf0.2
      cases hm : m with
      | zero => omega
      | succ m' =>
        have w := Wy.wk l2
        rw [l1, hm0, hm] at w
        obtain ⟨k', hk', hw⟩ := Tc.short (V := V) (fun x y ⟨e, h1, _, h3⟩ => h3 ▸ hKV2 e h1) ⟨m', w⟩
        obtain ⟨l', l1', l2'⟩ := hw.wy
        have := hD.eq (k := f (itN es e0.2)) (if_pos hf0.2) l2'
        omega
    refine z_whlP (fun mu env => ∃ (acc : List (Nat × Nat)) (here : Str) (v3 : Rb.T) (v7 : Option Rb.T), env = [some EF, some (.str a), some (.str b), some v3, some (.int ((mu : Int) - 1)), some (.nd .lst true (acc.map pT)), some (.str here), v7, none, none, none] ∧ strip v3 = lenT false S f ∧ acc.length + mu = m + 1 ∧ Grd (K := K) (it := itN es) D b mu here ∧ (∀ l, Wy K (itN es) l here b → Wy K (itN es) (acc ++ l) a b) ∧ (∀ l, Wy K (itN es) l here b → l.length = mu → (∀ l', Wy K (itN es) l' here b → l'.length = l.length → leL l l') → ∀ l', Wy K (itN es) l' a b → l'.length = m + 1 → leL (acc ++ l) l')) (fun env => ∃ (acc : List (Nat × Nat)) (v3 v6 : Rb.T) (v4 v7 : Option Rb.T), env = [some EF, some (.str a), some (.str b), some v3, v4, some (.nd .lst true (acc.map pT)), some v6, v7, none, none, none] ∧ First K (itN es) acc a b ∧ acc.length = m + 1) (m := m + 1) (by omega) ⟨[], a, lenT true S f, none, by simp, sL _, by simp, hG0, fun l w => w, fun l _ hl1 h l' w' hl2 => h l' w' (by omega)⟩ ?_ ?_
    · rintro mu _ ⟨acc, here, v3, v7, rfl, h3, hlen, hG, hW, hLe⟩
      have ec : ev (mkC T (k + 1)) [some EF, some (.str a), some (.str b), some v3, some (.int ((mu : Int) - 1)), some (.nd .lst true (acc.map pT)), some (.str here), v7, none, none, none] (.cmp .GtE (.var 4) (.lit (.int 0))) = .ok (.bl (decide (0 < mu))) := by
        rw [ev_cmp (x := .int ((mu : Int) - 1)) (y := .int 0) (by simp [ev, getS]) (by rw [ev]), cmp_ge]
        congr 2
        rw [Bool.eq_iff_iff, decide_eq_true_eq, decide_eq_true_eq]
        omega
      cases mu with
      | zero =>
        refine .inl ⟨evC_ok ec, acc, v3, .str here, _, v7, rfl, ?_, by omega⟩
        obtain ⟨l, l1, l2⟩ := hG.ex
        rw [List.length_eq_zero_iff] at l1
        subst l1
        have w1 := hW [] l2
        have w2 := hLe [] l2 rfl fun l' _ h => by rw [List.length_nil, List.length_eq_zero_iff] at h; rw [h]; exact leL_refl _
        rw [List.append_nil] at w1 w2
        refine ⟨by rintro rfl; simp at hlen, w1, fun l' hl' w' => ?_, fun l' w' h => w2 l' w' (by omega)⟩
        cases l' with
        | nil => exact absurd rfl hl'
        | cons e l' =>
          obtain ⟨n, n1, n2⟩ := hD.2 _ l' w'.2.2
          have hin : itN es e.2 ∈ S := by
            dsimp only at n1
            split at n1
            · assumption
            · cases n1
          dsimp only at n1
          rw [if_pos hin] at n1
          have n3 := Option.some.inj n1
          have := hm3 _ (List.mem_map_of_mem (f := fun e => f (itN es e.2)) (List.mem_filter.mpr ⟨w'.1, show fit e = true by simp only [fit]; rw [decide_eq_true w'.2.1, decide_eq_true hin]; rfl⟩))
          simp only [List.length_cons]
          omega
      | succ mu =>
        refine .inr ⟨evC_ok (by rw [ec]; simp), ?_⟩
        obtain ⟨e, hfnd, eK, e1, e2, hst⟩ := hG.step hs hD
        have hin : itN es e.2 ∈ S := by
          have := e2
          show itN es e.2 ∈ S
          change (if itN es e.2 ∈ S then some (f (itN es e.2)) else none) = some mu at this
          split at this
          · assumption
          · cases this
        refine ⟨[some EF, some (.str a), some (.str b), some (lenT false S f), some (.int ((mu : Int) - 1)), some (.nd .lst true ((acc ++ [e]).map pT)), some (.str (itN es e.2)), some (pT e), none, none, none], mu, .inl ?_, by omega, acc ++ [e], itN es e.2, lenT false S f, some (pT e), rfl, sL _, by simp; omega, Grd.of_dist hD e2, fun l w => ?_, fun l w hn h l' w' hl' => ?_⟩
        · refine z_asg_es (t := .nd .tup false [pT e, .str (itN es e.2)]) (env' := [some EF, some (.str a), some (.str b), some (lenT false S f), some (.int (((mu + 1 : Nat) : Int) - 1)), some (.nd .lst true (acc.map pT)), some (.str (itN es e.2)), some (pT e), none, none, none]) ?_ ?_ (z_app (xs := acc.map pT) (t := pT e) (env' := [some EF, some (.str a), some (.str b), some (lenT false S f), some (.int (((mu + 1 : Nat) : Int) - 1)), some (.nd .lst true ((acc ++ [e]).map pT)), some (.str (itN es e.2)), some (pT e), none, none, none]) rfl ?_ (by simp [getS, frS, frSg]) ?_ (by simp [frS, frSg, strip_pT]) (z_aug (a := ((mu + 1 : Nat) : Int) - 1) (b := 1) rfl (by rw [ev]) ?_ z_nil))
          · show ev _ [some EF, none, none, some v3, some (.int (((mu + 1 : Nat) : Int) - 1)), none, some (.str here), v7, none, none, none] _ = _
            have ew := ev_lc (C := mkC T (k + 1)) (env := [some EF, none, none, some v3, some (.int (((mu + 1 : Nat) : Int) - 1)), none, some (.str here), v7, none, none, none]) (tg := .tp [.nm 7, .nm 9, .nm 10]) (it := .seq (.var 0)) (elt := .tup [.var 7, .var 10]) (ifs := [.bo .And [.cmp .Eq (.var 9) (.var 6), .cmp .Eq (.gt (.var 3) (.var 10)) (.var 4)]]) (ys := K) (f := enT es) (fun e => decide (itN es e.1 = here) && decide (D (itN es e.2) = some mu)) (fun e => .nd .tup false [pT e, .str (itN es e.2)]) (evi_seq (t := EF) (by simp [ev, getS, sE]) cE) (by omega) fun e he => by
              obtain ⟨p, q⟩ := e
              refine ⟨[some EF, none, none, some v3, some (.int (((mu + 1 : Nat) : Int) - 1)), none, some (.str here), some (pT (p, q)), none, some (.str (itN es p)), some (.str (itN es q))], rfl, ?_, fun _ => by simp [ev, evs, getS, strip_pT, sz2, mkTup, flats, flat_pT, flat]⟩
              have e1 : ev (mkC T (k + 1)) [some EF, none, none, some v3, some (.int (((mu + 1 : Nat) : Int) - 1)), none, some (.str here), some (pT (p, q)), none, some (.str (itN es p)), some (.str (itN es q))] (.gt (.var 3) (.var 10)) = .ok (if itN es q ∈ S then nT (f (itN es q)) else .non) := by
                have g1 : gtT (lenT false S f) (.str (itN es q)) = .ok (if itN es q ∈ S then nT (f (itN es q)) else .non) := by
                  have := dget_sD false S (fun a => nT (f a)) (itN es q)
                  unfold gtT lenT
                  rw [this, bnd_ok]
                  by_cases m : itN es q ∈ S
                  · rw [if_pos m, if_pos m]; rfl
                  · rw [if_neg m, if_neg m]
                have g2 : isDk (lenT false S f) = .ok () := rfl
                simp only [ev, getS, List.getElem?_cons_zero, List.getElem?_cons_succ, optR_some, h3, strip_str, bind_ok, g2, g1]
              have ec : ev (mkC T (k + 1)) [some EF, none, none, some v3, some (.int (((mu + 1 : Nat) : Int) - 1)), none, some (.str here), some (pT (p, q)), none, some (.str (itN es p)), some (.str (itN es q))] (.bo .And [.cmp .Eq (.var 9) (.var 6), .cmp .Eq (.gt (.var 3) (.var 10)) (.var 4)]) = .ok (.bl (decide (itN es p = here) && decide (D (itN es q) = some mu))) := by
                refine ev_and (x := decide (itN es p = here)) ?_ (fun z => ?_) (fun z => by rw [z]; rfl)
                · simp [ev, getS, beq_dec]
                · rw [ev_cmp e1 (y := .int (((mu + 1 : Nat) : Int) - 1)) (by simp [ev, getS]), cmp_eq, z, Bool.true_and]
                  by_cases m : itN es q ∈ S
                  · have eD : D (itN es q) = some (f (itN es q)) := if_pos m
                    rw [if_pos m, nT, eqr_i, bnd_ok, eD]
                    congr 2
                    rw [Bool.eq_iff_iff, beq_iff_eq, decide_eq_true_eq]
                    constructor
                    · intro h; congr 1; omega
                    · intro h; have := Option.some.inj h; omega
                  · have eD : D (itN es q) = none := if_neg m
                    rw [if_neg m, eD, eqr_ni, bnd_ok]
                    simp
              rw [evc, ec, bnd_ok, truth_bl]
            rw [ev_sub ew (by rw [ev])]
            have hh : ((K.filter fun e => decide (itN es e.1 = here) && decide (D (itN es e.2) = some mu)).map fun e => Rb.T.nd .tup false [pT e, .str (itN es e.2)])[0]? = some (.nd .tup false [pT e, .str (itN es e.2)]) := by
              rw [List.getElem?_map, ← List.head?_eq_getElem?, List.head?_filter, hfnd]
              rfl
            have := ix_nat true (p := 0) hh
            simpa [strip, strips, strip_pT] using this
          · simp [asgT, asgP, asgPs, sE, strip, strips, strip_pT, frS, frSg, h3]
          · show ev _ [none, none, none, none, none, none, none, some (pT e), none, none, none] _ = _
            simp [ev, getS, strip_pT]
          · rw [sizeLine_eq, List.length_map]; omega
          · have : ((mu + 1 : Nat) : Int) - 1 - 1 = (mu : Int) - 1 := by omega
            simp
        · have := hW (e :: l) ⟨eK, e1, w⟩
          simpa using this
        · have := hLe (e :: l) ⟨eK, e1, w⟩ (by simp [hn]) (fun l2 w2 hl2 => hst l w h hn l2 w2 (by simp at hl2; omega)) l' w' hl'
          simpa using this
    · rintro _ ⟨acc, v3, v6, v4, v7, rfl, hF, hal⟩
      exact zp (hP (some acc) hF fun l e => by cases e; omega) (z_ret_mv rfl)
end
end Rb
namespace Rb
open PySem
open PySem.Spec
open L2
theorem ev_or3a {C : Calls} {env : Env} {a b c : IE} (h1 : ev C env a = .ok (.bl true)) : ev C env (.bo .Or [a, b, c]) = .ok (.bl true) := by
  simp only [ev, evb, h1, bind_ok, truth_bl, boPick]
  simp
theorem ev_or3b {C : Calls} {env : Env} {a b c : IE} (h1 : ev C env a = .ok (.bl false)) (h2 : ev C env b = .ok (.bl true)) : ev C env (.bo .Or [a, b, c]) = .ok (.bl true) := by
  simp only [ev, evb, h1, h2, bind_ok, truth_bl, boPick]
  simp
theorem ne_rs : (Str.ofString "rises" = Str.ofString "stays") = False := eq_false (by decide)
theorem ne_rf : (Str.ofString "rises" = Str.ofString "falls") = False := eq_false (by decide)
theorem ne_fs : (Str.ofString "falls" = Str.ofString "stays") = False := eq_false (by decide)
theorem ne_fr : (Str.ofString "falls" = Str.ofString "rises") = False := eq_false (by decide)
section
variable {T : Tab} (h : LogTab T) (hm : NamTab T) (hk : ChkTab T) (hT : LenTab T) (hy : WayTab T) (hi : IswTab T) (L : Lg) (k : Nat) (w : Wf L) (wd : WfD L)
theorem ends_V {L : Lg} (w : Wf L) (wd : WfD L) : ∀ e ∈ lkL L, itN L.es e.1 ∈ L.items ∧ itN L.es e.2 ∈ L.items := fun e he => ends_in w ((mem_lkL w wd).mp he)
include h hm hk hT hy w wd in
theorem way_between_ok {a b : Str} (ha : a ∈ L.items) (hb : b ∈ L.items) : ∃ o, Told (lkL L) (itN L.es) o a b ∧ (∀ l, o = some l → l.length ≤ 1000) ∧ (mkC T (k + 9)).fn "way_between" [lgT L, .str a, .str b] = .ok (optT o) := by
  obtain ⟨o, h1, h2, h3⟩ := first_way_ok hT (k + 6) L.es (lkL L) L.items w.it_len (fun e he => (ends_V w wd e he).1) (fun e he => (ends_V w wd e he).2) (lkL_sorted L) (by
    rw [← lnkS_eq w wd]
    have := len_ansN L.es
    have h1 := w.es_len
    have h2 : (lkL L).length ≤ L.es.length * 120 := by
      have := len_flatMap (fun p => ((List.range L.es.length).filter fun q => orB L p q && decide (grdN L.es p < grdN L.es q)).map fun q => (p, q)) 120 (List.range L.es.length) fun p _ => by
        rw [List.length_map]
        have := List.length_filter_le (fun q => orB L p q && decide (grdN L.es p < grdN L.es q)) (List.range L.es.length)
        rw [List.length_range] at this
        omega
      rw [List.length_range] at this
      exact this
    rw [lnkS_eq w wd]
    omega) (a := a) hb
  refine ⟨o, h1, h2, ?_⟩
  rw [fn_of hy.way_between]
  refine call_rt (env := [some (lgT L), some (.str a), some (.str b)]) rfl (by simp [env0, strips]) (z_exp (t := .non) ?_ (z_ret_es ?_))
  · rw [ev_call (ts := [lgT L, .nd .lst true ([a, b].map .str)]) (by simp [evs, ev, getS, sz2])]
    simp only [strips, strip_lg, strip_ls3]
    exact check_items_ok h hm hk L (k + 6) (by simp [ha, hb])
  · show ev _ [some (lgT L), some (.str a), some (.str b)] _ = _
    have e1 : ev (mkC T (k + 8)) [some (lgT L), some (.str a), some (.str b)] (.call "ends_of" [.var 0]) = .ok (.nd .lst true ((lkL L).map (enT L.es))) := by
      rw [ev_call (ts := [lgT L]) (by simp [evs, ev, getS])]
      simp only [strips, strip_lg]
      rw [ends_of_ok h L k w, lnkS_eq w wd]
    rw [ev_call (ts := [.nd .lst true ((lkL L).map (enT L.es)), .str a, .str b]) (by rw [evs, e1]; simp [evs, ev, getS])]
    simp only [strips, strip, strips_enT]
    exact h3
/-- two places, whatever they are -/
def ciT (p : Int × Int) : Rb.T := .nd .tup false [.int p.1, .int p.2]
theorem strip_ciT (p : Int × Int) : strip (ciT p) = ciT p := by simp [strip, strips, ciT]
theorem strips_ciT : ∀ l : List (Int × Int), strips (l.map ciT) = l.map ciT
  | [] => rfl
  | e :: l => by simp [strips, strip_ciT, strips_ciT l]
def lkI (L : Lg) (x y : Int) : Bool := decide (0 ≤ x) && decide (0 ≤ y) && decide ((x.toNat, y.toNat) ∈ lkL L)
theorem isAtI_pos {es : List Evt} {x : Int} (hx : isAtI es x = true) : ∃ (p : Nat) (j i : Str) (g : Int), x = p ∧ es[p]? = some (.ans j i g) := by
  unfold isAtI at hx
  rw [Bool.and_eq_true, decide_eq_true_eq] at hx
  obtain ⟨h1, h2⟩ := hx
  obtain ⟨p, rfl⟩ := Int.eq_ofNat_of_zero_le h1
  rw [Int.toNat_natCast] at h2
  unfold isAt at h2
  cases q : es[p]? with
  | none => rw [q] at h2; cases h2
  | some e =>
    cases e with
    | rst j => rw [q] at h2; cases h2
    | ans j i g => exact ⟨p, j, i, g, rfl, q⟩
include hi in
theorem is_first_ok {d : Str} (hd : drS d) (p q : Nat) : (mkC T (k + 1)).fn "is_first" [.str d, nT p, nT q] = .ok (.bl (decide (d = "stays") || (decide (d = "rises") && decide (p ≤ q)) || (decide (d = "falls") && decide (q ≤ p)))) := by
  rw [fn_of hi.is_first]
  refine call_rt (env := [some (.str d), some (nT p), some (nT q)]) rfl (by simp [env0, strips]) (z_ret_rd ?_ rfl)
  rcases hd with rfl | rfl | rfl
  · simp [ev, evb, getS, keyO, nT, boPick, ne_rs, ne_rf]
  · simp [ev, evb, getS, keyO, nT, boPick, ne_fs, ne_fr, beq_dec]
  · simp [ev, evb, getS, keyO, nT, boPick]
include h hi w wd in
theorem in_order_ok {p q : Nat} {j i j' i' : Str} {g g' : Int} (hp : L.es[p]? = some (.ans j i g)) (hq : L.es[q]? = some (.ans j' i' g')) : (mkC T (k + 6)).me "Log" "in_order" [lgT L, nT p, nT q] = .ok (.bl (orB L p q)) := by
  obtain ⟨⟨d, hd⟩, _⟩ := w.ok p j i g hp
  have hdr := w.drf hd
  have pa : p ∈ ansOf L.es j := mem_ansOf.mpr ⟨i, g, hp⟩
  have e0 : orB L p q = (decide (q ∈ strAt L.es j p) && (decide (d = "stays") || (decide (d = "rises") && decide (p ≤ q)) || (decide (d = "falls") && decide (q ≤ p)))) := by
    rw [Bool.eq_iff_iff, orB_iff w, Bool.and_eq_true, decide_eq_true_eq, mem_strAt]
    constructor
    · rintro ⟨j2, d2, h1, h2, h3, h4, h5⟩
      obtain ⟨i3, g3, h2⟩ := mem_ansOf.mp h2
      rw [hp] at h2
      injection h2 with h2
      injection h2 with h2 _ _
      subst h2
      have : d2 = d := by
        have := w.drf h1
        rw [hdr] at this
        exact (Option.some.inj this).symm
      subst this
      refine ⟨⟨h3, h4⟩, ?_⟩
      rcases h5 with h5 | h5 | h5 <;> simp [h5]
    · rintro ⟨⟨h3, h4⟩, h5⟩
      refine ⟨j, d, hd, pa, h3, h4, ?_⟩
      simpa [or_assoc] using h5
  rw [me_of hi.Log_in_order]
  have ej : ∀ (env : Env) (n : Nat) (m : Nat) (j2 : Str), ev (mkC T (k + 5)) env (.var 0) = .ok (lgT L) → ev (mkC T (k + 5)) env (.var n) = .ok (nT m) → (∃ i2 g2, L.es[m]? = some (.ans j2 i2 g2)) → ev (mkC T (k + 5)) env (.mth (.var 0) "judge_at" [.var n]) = .ok (.str j2) := fun env n m j2 h1 h2 ⟨i2, g2, h3⟩ => by
    rw [ev_mth h L (k + 5) h.Log_judge_at rfl (ts := [nT m]) h1 (by rw [evs, h2]; rfl)]
    exact judge_at_ok h L (k + 2) h3
  refine call_rt (env := [some (lgT L), some (nT p), some (nT q), none]) rfl (by simp [env0, strips]) ?_
  refine z_asg_es (t := .str j) (env' := [some (lgT L), some (nT p), some (nT q), some (.str j)]) ?_ (by simp [asgT, frS, frSg]) ?_
  · show ev _ [some (lgT L), some (nT p), none, none] _ = _
    exact ej _ 1 p j (by simp [ev, getS]) (by simp [ev, getS]) ⟨i, g, hp⟩
  refine z_exp (t := .str j') (ej _ 2 q j' (by simp [ev, getS]) (by simp [ev, getS]) ⟨i', g', hq⟩) (z_ret_rd (t := .bl (orB L p q)) ?_ rfl)
  have e1 : ev (mkC T (k + 5)) [some (lgT L), some (nT p), some (nT q), some (.str j)] (.mth (.var 0) "stretch_of" [.var 1]) = .ok (.nd .lst true ((strAt L.es j p).map nT)) := by
    rw [ev_mth h L (k + 5) h.Log_stretch_of rfl (ts := [nT p]) (by simp [ev, getS]) (by simp [ev, evs, getS])]
    exact stretch_of_ok h L k w.es1000 hdr pa
  have e2 : ev (mkC T (k + 5)) [some (lgT L), some (nT p), some (nT q), some (.str j)] (.mth (.var 0) "drift_of" [.var 3]) = .ok (.str d) := by
    rw [ev_mth h L (k + 5) h.Log_drift_of rfl (ts := [.str j]) (by simp [ev, getS]) (by simp [ev, evs, getS])]
    exact drift_of_ok h L (k + 4) hdr
  rw [e0]
  refine ev_and (x := decide (q ∈ strAt L.es j p)) ?_ (fun z => ?_) (fun z => by rw [z]; rfl)
  · rw [ev_cmp (x := nT q) (by simp [ev, getS]) e1, cmp_in, inR_nT]
    rfl
  · rw [ev_call (ts := [.str d, nT p, nT q]) (by rw [evs, e2]; simp [ev, evs, getS]), z, Bool.true_and]
    simp only [strips, strip_str, strip_nT]
    exact is_first_ok hi (k + 4) (wd j d hd) p q
include h hi w wd in
theorem is_link_ok (x y : Int) : (mkC T (k + 7)).fn "is_link" [lgT L, .int x, .int y] = .ok (.bl (lkI L x y)) := by
  rw [fn_of hi.is_link]
  refine call_rt (env := [some (lgT L), some (.int x), some (.int y)]) rfl (by simp [env0, strips]) ?_
  have ia : ∀ (n : Nat) (z : Int), ev (mkC T (k + 6)) [some (lgT L), some (.int x), some (.int y)] (.var n) = .ok (.int z) → ev (mkC T (k + 6)) [some (lgT L), some (.int x), some (.int y)] (.no (.mth (.var 0) "is_answer" [.var n])) = .ok (.bl (!isAtI L.es z)) := fun n z hz => by
    refine ev_no ?_
    rw [ev_mth h L (k + 6) h.Log_is_answer rfl (ts := [.int z]) (by simp [ev, getS]) (by rw [evs, hz]; rfl)]
    exact is_answer_ok h L (k + 5) z
  have ia1 := ia 1 x (by simp [ev, getS])
  have ia2 := ia 2 y (by simp [ev, getS])
  have neg : ∀ z : Int, isAtI L.es z = false → ∀ p : Nat, z = p → p ∉ ansN L.es := fun z hz p e m => by
    subst e
    rw [isAtI_nat, ] at hz
    rw [mem_ansN.mp m] at hz
    cases hz
  cases q1 : isAtI L.es x with
  | false =>
    rw [q1] at ia1
    have : lkI L x y = false := by
      rw [Bool.eq_false_iff]
      intro z
      simp only [lkI, Bool.and_eq_true, decide_eq_true_eq] at z
      have := (orB_ans w ((mem_lk w).mp z.2).1).1
      exact neg x q1 x.toNat (by omega) this
    rw [this]
    exact z_if_rt (ev_or3a ia1) (z_ret_rd (by rw [ev]) rfl)
  | true =>
    rw [q1] at ia1
    cases q2 : isAtI L.es y with
    | false =>
      rw [q2] at ia2
      have : lkI L x y = false := by
        rw [Bool.eq_false_iff]
        intro z
        simp only [lkI, Bool.and_eq_true, decide_eq_true_eq] at z
        have := (orB_ans w ((mem_lk w).mp z.2).1).2
        exact neg y q2 y.toNat (by omega) this
      rw [this]
      exact z_if_rt (ev_or3b ia1 ia2) (z_ret_rd (by rw [ev]) rfl)
    | true =>
      rw [q2] at ia2
      obtain ⟨p, j, i, g, rfl, hp⟩ := isAtI_pos q1
      obtain ⟨q, j', i', g', rfl, hq⟩ := isAtI_pos q2
      have eI : ev (mkC T (k + 6)) [some (lgT L), some (.int (p : Int)), some (.int (q : Int))] (.mth (.var 0) "in_order" [.var 1, .var 2]) = .ok (.bl (orB L p q)) := by
        rw [ev_mth h L (k + 6) hi.Log_in_order rfl (ts := [nT p, nT q]) (by simp [ev, getS]) (by simp [ev, evs, getS, nT])]
        exact in_order_ok h hi L k w wd hp hq
      have e3 := ev_or3 (C := mkC T (k + 6)) ia1 ia2 (ev_no eI)
      have eG : ∀ (n m : Nat) (j2 i2 : Str) (g2 : Int), ev (mkC T (k + 6)) [some (lgT L), some (.int (p : Int)), some (.int (q : Int))] (.var n) = .ok (nT m) → L.es[m]? = some (.ans j2 i2 g2) → ev (mkC T (k + 6)) [some (lgT L), some (.int (p : Int)), some (.int (q : Int))] (.mth (.var 0) "grade_at" [.var n]) = .ok (.int g2) := fun n m j2 i2 g2 h1 h2 => by
        rw [ev_mth h L (k + 6) h.Log_grade_at rfl (ts := [nT m]) (by simp [ev, getS]) (by rw [evs, h1]; rfl)]
        exact grade_at_ok h L (k + 3) h2
      have g1 : grdN L.es p = g := by simp [grdN, hp, grdE]
      have g2 : grdN L.es q = g' := by simp [grdN, hq, grdE]
      have e4 : lkI L (p : Int) (q : Int) = (orB L p q && decide (g < g')) := by
        rw [Bool.eq_iff_iff]
        simp only [lkI, Bool.and_eq_true, decide_eq_true_eq, Int.toNat_natCast, mem_lk w, g1, g2]
        constructor
        · exact fun z => z.2
        · exact fun z => ⟨⟨Int.natCast_nonneg _, Int.natCast_nonneg _⟩, z⟩
      rw [e4]
      cases q3 : orB L p q with
      | false =>
        rw [q3] at e3
        exact z_if_rt e3 (z_ret_rd (by rw [ev]; rfl) rfl)
      | true =>
        rw [q3] at e3
        refine z_if_f e3 (z_ret_rd (t := .bl (decide (g < g'))) ?_ rfl)
        rw [ev_cmp (eG 1 p j i g (by simp [ev, getS, nT]) hp) (eG 2 q j' i' g' (by simp [ev, getS, nT]) hq), cmp_lt]
/-- the walk along some pairs of places -/
def wGo (L : Lg) : List (Int × Int) → Str → Option Str
  | [], a => some a
  | e :: l, a => if lkI L e.1 e.2 && decide (itN L.es e.1.toNat = a) then wGo L l (itN L.es e.2.toNat) else none
def wyB (L : Lg) (l : List (Int × Int)) (a b : Str) : Bool := decide (0 < l.length) && decide (wGo L l a = some b)
include h hm hk hi w wd in
theorem is_way_ok {l : List (Int × Int)} (hl : l.length ≤ 1000000) {a b : Str} (ha : a ∈ L.items) (hb : b ∈ L.items) : (mkC T (k + 8)).fn "is_way" [lgT L, .nd .lst false (l.map ciT), .str a, .str b] = .ok (.bl (wyB L l a b)) := by
  rw [fn_of hi.is_way]
  obtain ⟨W, hW⟩ : ∃ W : Rb.T, W = .nd .lst false (l.map ciT) := ⟨_, rfl⟩
  have sW : strip W = W := by rw [hW]; simp [strip, strips_ciT]
  rw [← hW]
  refine call_rt (env := [some (lgT L), some W, some (.str a), some (.str b), none, none, none]) rfl (by simp [env0, strips, sW]) (z_exp (t := .non) ?_ ?_)
  · rw [ev_call (ts := [lgT L, .nd .lst true ([a, b].map .str)]) (by simp [evs, ev, getS, sz2])]
    simp only [strips, strip_lg, strip_ls3]
    exact check_items_ok h hm hk L (k + 5) (by simp [ha, hb])
  refine z_asg_es (t := .str a) (env' := [some (lgT L), some W, some (.str a), some (.str b), some (.str a), none, none]) ?_ (by simp [asgT, frS, frSg]) ?_
  · show ev _ [none, none, some (.str a), none, none, none, none] _ = _
    simp [ev, getS]
  have := z_forC (C := mkC T (k + 7)) (p := .tp [.nm 5, .nm 6]) (ow := false) (fv := [1]) (kl := [5, 6]) (it := .seq (.var 1)) (b := [.iff (.bo .Or [.no (.call "is_link" [.var 0, .var 5, .var 6]), .cmp .NotEq (.mth (.var 0) "item_at" [.var 5]) (.var 4)]) [.ret (.rd (.lit (.bl false)))] [], .asg (.nm 4) (.es [0, 6] (.mth (.var 0) "item_at" [.var 6]))]) (ss := [.ret (.rd (.bo .And [.cmp .Gt (.b1 .len (.var 1)) (.lit (.int 0)), .cmp .Eq (.var 4) (.var 3)]))]) (f := ciT) (env := [some (lgT L), some W, some (.str a), some (.str b), some (.str a), none, none]) (e0 := [some (lgT L), some W, some (.str a), some (.str b), some (.str a), none, none]) (V := wGo L l a = none) (fun m env => ∃ here, env = [some (lgT L), some W, some (.str a), some (.str b), some (.str here), none, none] ∧ wGo L l a = wGo L m here) (.bl false) (ys := l) (by
    have := evF_seq (C := mkC T (k + 7)) (env := [some (lgT L), some W, some (.str a), some (.str b), some (.str a), none, none]) (fv := [1]) (e := .var 1) (xs := l.map ciT) (t := W) (by
      show ev _ [none, some W, none, none, none, none, none] _ = _
      simp [ev, getS, sW]) (by rw [hW]; rfl)
    rw [this]
    simp [frS, frSg, sW]) ⟨a, rfl, rfl⟩ (by
    rintro _ ⟨x, y⟩ m ⟨here, rfl, hg⟩
    refine ⟨[some (lgT L), some W, some (.str a), some (.str b), some (.str here), some (.int x), some (.int y)], by rw [strip_ciT]; rfl, ?_⟩
    have eL : ev (mkC T (k + 7)) [some (lgT L), some W, some (.str a), some (.str b), some (.str here), some (.int x), some (.int y)] (.call "is_link" [.var 0, .var 5, .var 6]) = .ok (.bl (lkI L x y)) := by
      rw [ev_call (ts := [lgT L, .int x, .int y]) (by simp [evs, ev, getS])]
      simp only [strips, strip_lg, strip_int]
      exact is_link_ok h hi L k w wd x y
    rw [wGo] at hg
    cases q : lkI L x y with
    | false =>
      rw [q] at eL
      rw [q, Bool.false_and, if_neg (by simp)] at hg
      refine .inr ⟨z_if_rt (ev_or (x := true) (ev_no eL) (fun z => by cases z) fun _ => rfl) (z_ret_rd (by rw [ev]) rfl), hg⟩
    | true =>
      rw [q] at eL
      have q' := q
      simp only [lkI, Bool.and_eq_true, decide_eq_true_eq] at q'
      obtain ⟨⟨x0, y0⟩, hlk⟩ := q'
      obtain ⟨p, rfl⟩ := Int.eq_ofNat_of_zero_le x0
      obtain ⟨r, rfl⟩ := Int.eq_ofNat_of_zero_le y0
      rw [Int.toNat_natCast, Int.toNat_natCast] at hlk
      obtain ⟨hp, hr⟩ := orB_ans w ((mem_lk w).mp hlk).1
      rw [mem_ansN] at hp hr
      rw [← isAtI_nat] at hp hr
      obtain ⟨p', j1, i1, g1, ep, hp⟩ := isAtI_pos hp
      obtain ⟨r', j2, i2, g2, er, hr⟩ := isAtI_pos hr
      obtain rfl : p = p' := by omega
      obtain rfl : r = r' := by omega
      have ep : itN L.es p = i1 := by simp [itN, itmN, hp, itmE]
      have er : itN L.es r = i2 := by simp [itN, itmN, hr, itmE]
      have eI : ev (mkC T (k + 7)) [some (lgT L), some W, some (.str a), some (.str b), some (.str here), some (.int (p : Int)), some (.int (r : Int))] (.mth (.var 0) "item_at" [.var 5]) = .ok (.str i1) := by
        rw [ev_mth h L (k + 7) h.Log_item_at rfl (ts := [nT p]) (by simp [ev, getS]) (by simp [ev, evs, getS, nT])]
        exact item_at_ok h L (k + 4) hp
      simp only [q, Int.toNat_natCast, ep, er, Bool.true_and, decide_eq_true_eq] at hg
      have eN : ev (mkC T (k + 7)) [some (lgT L), some W, some (.str a), some (.str b), some (.str here), some (.int (p : Int)), some (.int (r : Int))] (.bo .Or [.no (.call "is_link" [.var 0, .var 5, .var 6]), .cmp .NotEq (.mth (.var 0) "item_at" [.var 5]) (.var 4)]) = .ok (.bl (!decide (i1 = here))) := by
        refine ev_or (x := false) (ev_no eL) (fun _ => ?_) (fun z => by cases z)
        rw [ev_cmp eI (y := .str here) (by simp [ev, getS]), cmp_ne, eqr_s, bnd_ok, beq_dec]
      by_cases z : i1 = here
      · rw [if_pos z] at hg
        rw [decide_eq_true z] at eN
        refine .inl ⟨[some (lgT L), some W, some (.str a), some (.str b), some (.str i2), some (.int (p : Int)), some (.int (r : Int))], .inl (z_if_f eN (z_asg_es (t := .str i2) ?_ (by simp [asgT, frS, frSg]) z_nil)), i2, rfl, hg⟩
        show ev _ [some (lgT L), none, none, none, none, none, some (.int (r : Int))] _ = _
        rw [ev_mth h L (k + 7) h.Log_item_at rfl (ts := [nT r]) (by simp [ev, getS]) (by simp [ev, evs, getS, nT])]
        exact item_at_ok h L (k + 4) hr
      · rw [if_neg z] at hg
        rw [decide_eq_false z] at eN
        exact .inr ⟨z_if_rt eN (z_ret_rd (by rw [ev]) rfl), hg⟩)
  rcases this with ⟨_, ⟨here, rfl, hg⟩, e⟩ | ⟨e, hg⟩
  · refine e.trans (z_ret_rd ?_ rfl)
    rw [wGo] at hg
    unfold wyB
    rw [hg]
    refine ev_and (x := decide (0 < l.length)) ?_ (fun z => ?_) (fun z => by rw [z]; rfl)
    · have e1 : b1T .len W = .ok (.int l.length) := by rw [hW, len_lst, List.length_map]
      simp [ev, getS, sW, e1]
    · rw [z, Bool.true_and]
      simp [ev, getS, beq_dec]
  · refine e.trans ?_
    unfold wyB
    rw [hg]
    simp
end
end Rb
namespace Rb
open PySem
open PySem.Spec
open L2
abbrev y__law_first_way : List IS := [.asg (.nm 4) (.rd (.dk0)), .floop (.nm 5) false [0] (.seq (.var 0)) [5] [.put 4 [] (.var 5) (.rd (.lit .non))], .asg (.nm 6) (.es [2] (.lst [.tup [.lst [], .var 2]])), .floop (.nm 7) false [0] (.rng1 (.b1 .len (.var 0))) [7, 8, 9, 10, 11, 12, 13, 14, 15, 16] [.asg (.nm 8) (.rd (.lst [])), .asg (.nm 9) (.rd (.lst [])), .floop (.tp [.nm 10, .nm 11]) false [6] (.seq (.var 6)) [10, 11, 12, 13, 14, 15, 16] [.floop (.tp [.nm 13, .nm 14, .nm 15, .nm 12]) false [1] (.seq (.var 1)) [12, 13, 14, 15, 16] [.iff (.cmp .Eq (.var 15) (.var 11)) [.asg (.nm 16) (.es [10, 13, 14] (.bin .Add (.var 10) (.lst [.tup [.var 13, .var 14]]))), .iff (.bo .And [.cmp .Is (.sub (.var 4) (.var 12)) (.lit .non), .cmp .NotIn (.var 12) (.var 9)]) [.app 8 [] (.es [12, 16] (.tup [.var 16, .var 12])), .app 9 [] (.es [12] (.var 12))] []] []]], .floop (.tp [.nm 10, .nm 12]) false [8] (.seq (.var 8)) [10, 12] [.put 4 [] (.var 12) (.es [10] (.var 10))], .asg (.nm 6) (.mv 8)], .ret (.es [3, 4] (.sub (.var 4) (.var 3)))]
structure LfwTab (T : Tab) : Prop where
  _law_first_way : T.at (.fn "_law_first_way") = some (17, 4, y__law_first_way)
theorem z_asg_mv {C : Calls} {env env' : Env} {ss : List IS} {r : SR} {i j : Nat} {t : T} (h : getS env j = some t) (he : (env.set j none).set i (some t) = env') (hr : execs C ss env' = r) : execs C (.asg (.nm i) (.mv j) :: ss) env = r := by
  rw [execs, exec]
  simp only [evL, h, VR.go, asgT, he, optS, SR.seq, hr]
def wayS (o : Option (List (Nat × Nat))) : T := match o with
  | some l => .nd .lst false (l.map pT)
  | none => .non
theorem strip_wayS (o : Option (List (Nat × Nat))) : strip (wayS o) = wayS o := by
  cases o with
  | none => rfl
  | some l => simp [wayS, strip, strips_pT]
def rwO (p : List (Nat × Nat) × Str) : T := .nd .tup true [.nd .lst false (p.1.map pT), .str p.2]
def rwS (p : List (Nat × Nat) × Str) : T := .nd .tup false [.nd .lst false (p.1.map pT), .str p.2]
theorem strip_rwO (p : List (Nat × Nat) × Str) : strip (rwO p) = rwS p := by simp [rwO, rwS, strip, strips, strips_pT]
theorem strip_rwS (p : List (Nat × Nat) × Str) : strip (rwS p) = rwS p := by simp [rwS, strip, strips, strips_pT]
theorem strips_rwO : ∀ l : List (List (Nat × Nat) × Str), strips (l.map rwO) = l.map rwS
  | [] => rfl
  | e :: l => by simp [strips, strip_rwO, strips_rwO l]
theorem strips_rwS : ∀ l : List (List (Nat × Nat) × Str), strips (l.map rwS) = l.map rwS
  | [] => rfl
  | e :: l => by simp [strips, strip_rwS, strips_rwS l]
def wyD (o : Bool) (V : List Str) (W : Str → Option (List (Nat × Nat))) : T := sD o V fun x => wayS (W x)
theorem strip_wyD (o : Bool) (V : List Str) (W) : strip (wyD o V W) = wyD false V W := by
  unfold wyD
  rw [strip_sD]
  congr 1
  funext a
  exact strip_wayS _
theorem put_wyD {V : List Str} (hn : V.Nodup) (hl : V.length ≤ 1000000) {W : Str → Option (List (Nat × Nat))} {x : Str} (hx : x ∈ V) (o : Option (List (Nat × Nat))) : putTr (wyD true V W) (.str x) (wayS o) = some (wyD true V (upF W x o)) := by
  unfold wyD
  rw [put_sD hn hl hx]
  congr 2
  funext y
  unfold upF
  split <;> rfl
section
variable {T : Tab} (hT : LfwTab T) (k : Nat) (es : List Evt) (K : List (Nat × Nat)) (V : List Str) (hV : V.length ≤ 20) (hN : V.Nodup) (hKV : ∀ e ∈ K, itN es e.1 ∈ V) (hKV2 : ∀ e ∈ K, itN es e.2 ∈ V) (hs : K.Pairwise ltE) (hl : K.length ≤ 1000000)
include hT hV hN hKV hKV2 hs hl
theorem law_first_way_ok {a b : Str} (ha : a ∈ V) (hb : b ∈ V) : ∃ o, Told K (itN es) o a b ∧ (∀ l, o = some l → l.length ≤ 20) ∧ (mkC T (k + 1)).fn "_law_first_way" [.nd .lst false (V.map .str), .nd .lst false (K.map (lkT es)), .str a, .str b] = .ok (wayS o) := by
  obtain ⟨IT, hIT⟩ : ∃ W : Rb.T, W = .nd .lst false (V.map .str) := ⟨_, rfl⟩
  obtain ⟨LK, hLK⟩ : ∃ W : Rb.T, W = .nd .lst false (K.map (lkT es)) := ⟨_, rfl⟩
  have sI : strip IT = IT := by rw [hIT, strip_ls2]
  have sK : strip LK = LK := by rw [hLK]; simp [strip, strips_lkT]
  rw [← hIT, ← hLK]
  suffices hh : ∀ P : SR → Prop, (∀ o, Told K (itN es) o a b → (∀ l, o = some l → l.length ≤ 20) → P (.rt (wayS o))) → P (execs (mkC T k) y__law_first_way [some IT, some LK, some (.str a), some (.str b), none, none, none, none, none, none, none, none, none, none, none, none, none]) by
    obtain ⟨o, h1, h2, h3⟩ := hh (fun r => ∃ o, Told K (itN es) o a b ∧ (∀ l, o = some l → l.length ≤ 20) ∧ r = .rt (wayS o)) fun o h1 h2 => ⟨o, h1, h2, rfl⟩
    refine ⟨o, h1, h2, ?_⟩
    rw [fn_of hT._law_first_way]
    exact call_rt rfl (by simp [env0, strips, sI, sK]) h3
  intro P hP
  let EE : Option Rb.T → Option Rb.T → Option Rb.T → Option Rb.T → Option Rb.T → Option Rb.T → Env := fun v4 v5 v6 v7 v8 v9 => [some IT, some LK, some (.str a), some (.str b), v4, v5, v6, v7, v8, v9, none, none, none, none, none, none, none]
  refine zp ?_ (z_dk0 (env' := EE (some (sD true [] fun _ => wayS none)) none none none none none) rfl rfl)
  have e0 : ∀ env : Env, getS env 0 = some IT → ev (mkC T k) env (.var 0) = .ok IT := fun env he => by simp [ev, he, sI]
  refine z_forP (f := Rb.T.str) (fun (l : List Str) env => ∃ D, env = EE (some (sD true D fun _ => wayS none)) none none none none none ∧ D ++ l = V) (ys := V) (e0 := EE (some (sD true [] fun _ => wayS none)) none none none none none) ?_ ⟨[], rfl, rfl⟩ ?_ ?_
  · have := evF_seq (C := mkC T k) (env := EE (some (sD true [] fun _ => wayS none)) none none none none none) (fv := [0]) (e := .var 0) (xs := V.map .str) (t := IT) (e0 _ rfl) (by rw [hIT]; rfl)
    rw [this]
    simp [EE, frS, frSg, sI]
  · rintro _ x l ⟨D, rfl, hI⟩
    have hx : x ∉ D := by
      have := hN
      rw [← hI, List.nodup_append] at this
      exact fun m => this.2.2 _ m _ List.mem_cons_self rfl
    have hDl : D.length ≤ 1000000 := by
      have := congrArg List.length hI
      rw [List.length_append] at this
      omega
    refine ⟨EE (some (sD true D fun _ => wayS none)) (some (.str x)) none none none none, EE (some (sD true (D ++ [x]) fun _ => wayS none)) (some (.str x)) none none none none, rfl, .inl ?_, D ++ [x], rfl, by rw [← hI]; simp⟩
    exact z_put_rd (t := .non) (q := .str x) (w := sD true D fun _ => wayS none) (by rw [ev]) rfl rfl (by simp [EE, ev, getS]) rfl (put_new (val := fun _ => wayS none) hDl hx) rfl z_nil
  rintro _ ⟨D, rfl, hI⟩
  rw [List.append_nil] at hI
  subst hI
  refine zp ?_ (z_asg_es (t := .nd .lst true [.nd .tup true [.nd .lst true [], .str a]]) (env' := EE (some (wyD true D fun _ => none)) none (some (.nd .lst true [.nd .tup true [.nd .lst true [], .str a]])) none none none) ?_ (by simp [EE, asgT, frS, frSg, wyD]) rfl)
  rotate_left
  · show ev _ [none, none, some (.str a), none, none, none, none, none, none, none, none, none, none, none, none, none, none] _ = _
    simp [ev, evs, getS, sz0, sz1, sz2, mkTup, flats, flat]
  have sR : ∀ rows : List (List (Nat × Nat) × Str), strip (.nd .lst false (rows.map rwS)) = .nd .lst false (rows.map rwS) := fun rows => by simp [strip, strips_rwS]
  refine z_forP (f := nT) (fun (l : List Nat) env => ∃ t rows W v6, env = EE (some (wyD true D W)) none (some v6) none none none ∧ strip v6 = .nd .lst false (rows.map rwS) ∧ Rows (K := K) (it := itN es) a t rows W ∧ t + l.length = D.length) (ys := List.range D.length) (e0 := EE (some (wyD true D fun _ => none)) none (some (.nd .lst true [.nd .tup true [.nd .lst true [], .str a]])) none none none) (evF_rng (n := D.length) ?_ (by omega)) ⟨0, [([], a)], fun _ => none, _, rfl, by simp [strip, strips, rwS], Rows.start a, by simp⟩ ?_ ?_
  · exact ev_b1 (e0 _ rfl) (by rw [hIT, len_lst, List.length_map])
  · rintro _ y l ⟨t, rows, W, v6, rfl, h6, hR, ht⟩
    simp only [List.length_cons] at ht
    suffices hb : ∃ fol, Fol (K := K) (it := itN es) a rows W fol (fun r _ => r ∈ rows) ∧ execs (mkC T k) (match y__law_first_way[3]? with | some (IS.floop _ _ _ _ _ b) => b | _ => []) (EE (some (wyD true D W)) none (some v6) (some (nT y)) none none) = .nx (EE (some (wyD true D (keepW W fol))) none (some (.nd .lst false (fol.map rwS))) (some (nT y)) none (some (lsT (fol.map (·.2))))) by
      obtain ⟨fol, g, e⟩ := hb
      exact ⟨_, _, rfl, .inl e, t + 1, fol, keepW W fol, _, rfl, sR _, hR.step g fun r hr _ _ => hr, by omega⟩
    let S0 : SR → Prop := fun r => ∃ fol, Fol (K := K) (it := itN es) a rows W fol (fun r _ => r ∈ rows) ∧ r = .nx (EE (some (wyD true D (keepW W fol))) none (some (.nd .lst false (fol.map rwS))) (some (nT y)) none (some (lsT (fol.map (·.2)))))
    show S0 _
    let FF : List (List (Nat × Nat) × Str) → Option Rb.T → Option Rb.T → Option Rb.T → Option Rb.T → Option Rb.T → Option Rb.T → Option Rb.T → Env := fun fol v10 v11 v12 v13 v14 v15 v16 => [some IT, some LK, some (.str a), some (.str b), some (wyD true D W), none, some (.nd .lst false (rows.map rwS)), some (nT y), some (.nd .lst true (fol.map rwO)), some (lsT (fol.map (·.2))), v10, v11, v12, v13, v14, v15, v16]
    refine zp ?_ (z_asg_rd (t := .nd .lst true []) (env' := EE (some (wyD true D W)) none (some v6) (some (nT y)) (some (.nd .lst true [])) none) (by simp [ev, evs, sz0]) (by simp [own, owns]) rfl rfl)
    refine zp ?_ (z_asg_rd (t := .nd .lst true []) (env' := EE (some (wyD true D W)) none (some v6) (some (nT y)) (some (.nd .lst true [])) (some (.nd .lst true []))) (by simp [ev, evs, sz0]) (by simp [own, owns]) rfl rfl)
    have hfl : ∀ {fol Dn}, Fol (K := K) (it := itN es) a rows W fol Dn → fol.length ≤ 20 := fun {fol Dn} g => by
      have h1 : (fol.map (·.2)).Nodup := by
        rw [List.Nodup, List.pairwise_map]
        exact g.f4
      have := nodup_len h1 (m := D) fun x hx => by
        obtain ⟨p, hp, rfl⟩ := List.mem_map.mp hx
        obtain ⟨r, _, e, he, _, h2, _⟩ := g.f1 p hp
        exact h2 ▸ hKV2 e he
      rw [List.length_map] at this
      omega
    refine z_forP (f := rwS) (fun (l : List (List (Nat × Nat) × Str)) env => ∃ done fol, env = FF fol none none none none none none none ∧ done ++ l = rows ∧ Fol (K := K) (it := itN es) a rows W fol (fun r _ => r ∈ done)) (ys := rows) (e0 := FF [] none none none none none none none) ?_ ⟨[], [], rfl, rfl, Fol.nil fun r _ e _ m => by cases m⟩ ?_ ?_
    · have := evF_seq (C := mkC T k) (env := EE (some (wyD true D W)) none (some v6) (some (nT y)) (some (.nd .lst true [])) (some (.nd .lst true []))) (fv := [6]) (e := .var 6) (xs := rows.map rwS) (t := .nd .lst false (rows.map rwS)) (by
        show ev _ [none, none, none, none, none, none, some v6, none, none, none, none, none, none, none, none, none, none] _ = _
        simp [ev, getS, h6]) rfl
      rw [this]
      simp [EE, FF, frS, frSg, h6, lsT]
    · rintro _ r l2 ⟨done, fol, rfl, hdn, g⟩
      have hrr : r ∈ rows := by rw [← hdn]; simp
      have hrl : r.1.length ≤ 20 := by have := (hR.r1 r hrr).1; omega
      suffices hb : ∃ fol', Fol (K := K) (it := itN es) a rows W fol' (fun r' _ => r' ∈ done ++ [r]) ∧ execs (mkC T k) [.floop (.tp [.nm 13, .nm 14, .nm 15, .nm 12]) false [1] (.seq (.var 1)) [12, 13, 14, 15, 16] [.iff (.cmp .Eq (.var 15) (.var 11)) [.asg (.nm 16) (.es [10, 13, 14] (.bin .Add (.var 10) (.lst [.tup [.var 13, .var 14]]))), .iff (.bo .And [.cmp .Is (.sub (.var 4) (.var 12)) (.lit .non), .cmp .NotIn (.var 12) (.var 9)]) [.app 8 [] (.es [12, 16] (.tup [.var 16, .var 12])), .app 9 [] (.es [12] (.var 12))] []] []]] (FF fol (some (.nd .lst false (r.1.map pT))) (some (.str r.2)) none none none none none) = .nx (FF fol' (some (.nd .lst false (r.1.map pT))) (some (.str r.2)) none none none none none) by
        obtain ⟨fol', g', e⟩ := hb
        exact ⟨_, _, by rw [strip_rwS]; rfl, .inl e, done ++ [r], fol', rfl, by rw [← hdn]; simp, g'⟩
      let S1 : SR → Prop := fun x => ∃ fol', Fol (K := K) (it := itN es) a rows W fol' (fun r' _ => r' ∈ done ++ [r]) ∧ x = .nx (FF fol' (some (.nd .lst false (r.1.map pT))) (some (.str r.2)) none none none none none)
      show S1 _
      have g0 : Fol (K := K) (it := itN es) a rows W fol (DnR done r []) := g.congr fun r' _ e _ => by simp [DnR]
      refine z_forP (f := lkT es) (fun (l : List (Nat × Nat)) env => ∃ dl fol, env = FF fol (some (.nd .lst false (r.1.map pT))) (some (.str r.2)) none none none none none ∧ dl ++ l = K ∧ Fol (K := K) (it := itN es) a rows W fol (DnR done r dl)) (ys := K) (e0 := FF fol (some (.nd .lst false (r.1.map pT))) (some (.str r.2)) none none none none none) ?_ ⟨[], fol, rfl, rfl, g0⟩ ?_ ?_
      · have := evF_seq (C := mkC T k) (env := FF fol (some (.nd .lst false (r.1.map pT))) (some (.str r.2)) none none none none none) (fv := [1]) (e := .var 1) (xs := K.map (lkT es)) (t := LK) (by
          show ev _ [none, some LK, none, none, none, none, none, none, none, none, none, none, none, none, none, none, none] _ = _
          simp [ev, getS, sK]) (by rw [hLK]; rfl)
        rw [this]
        simp [FF, frS, frSg, sK]
      · rintro _ ⟨p, q⟩ l3 ⟨dl, fol, rfl, hdl, g⟩
        have heK : (p, q) ∈ K := by rw [← hdl]; simp
        have hqV : itN es q ∈ D := hKV2 _ heK
        let GG : List (List (Nat × Nat) × Str) → Option Rb.T → Env := fun fol v16 => FF fol (some (.nd .lst false (r.1.map pT))) (some (.str r.2)) (some (.str (itN es q))) (some (nT p)) (some (nT q)) (some (.str (itN es p))) v16
        have ec1 : ev (mkC T k) (GG fol none) (.cmp .Eq (.var 15) (.var 11)) = .ok (.bl (decide (itN es p = r.2))) := by
          simp [GG, FF, ev, getS, beq_dec]
        by_cases z1 : itN es p = r.2
        · rw [decide_eq_true z1] at ec1
          let LG : Rb.T := .nd .lst true ((r.1 ++ [(p, q)]).map pT)
          have elg : ev (mkC T k) (keepS [10, 13, 14] (GG fol none)) (.bin .Add (.var 10) (.lst [.tup [.var 13, .var 14]])) = .ok LG := by
            show ev _ [none, none, none, none, none, none, none, none, none, none, some (.nd .lst false (r.1.map pT)), none, none, some (nT p), some (nT q), none, none] _ = _
            have hx : ev (mkC T k) [none, none, none, none, none, none, none, none, none, none, some (.nd .lst false (r.1.map pT)), none, none, some (nT p), some (nT q), none, none] (.lst [.tup [.var 13, .var 14]]) = .ok (.nd .lst true [pT (p, q)]) := by
              simp [ev, evs, getS, sz1, sz2, mkTup, flats, flat_nT, pT]
            rw [ev_bin (x := .nd .lst false (r.1.map pT)) (by simp [ev, getS, strip, strips_pT]) hx]
            have hz : (r.1.map pT).length + [pT (p, q)].length ≤ sizeLine := by
              rw [sizeLine_eq, List.length_map, List.length_singleton]; omega
            rw [binT, if_pos hz]
            simp [LG, strips, strip_pT, strips_pT]
          have a16 : asgT (.nm 16) LG (frS [10, 13, 14] (GG fol none)) = some (GG fol (some LG)) := by
            simp [GG, FF, asgT, frS, frSg, strip, strips_pT]
          have ec2 : ev (mkC T k) (GG fol (some LG)) (.bo .And [.cmp .Is (.sub (.var 4) (.var 12)) (.lit .non), .cmp .NotIn (.var 12) (.var 9)]) = .ok (.bl ((W (itN es q)).isNone && decide (itN es q ∉ fol.map (·.2)))) := by
            refine ev_and (x := (W (itN es q)).isNone) ?_ (fun z => ?_) (fun z => by rw [z]; rfl)
            · have e1 : ev (mkC T k) (GG fol (some LG)) (.sub (.var 4) (.var 12)) = .ok (wayS (W (itN es q))) := by
                rw [ev_sub (x := wyD false D W) (y := .str (itN es q)) (by simp [GG, FF, ev, getS, strip_wyD]) (by simp [GG, FF, ev, getS])]
                have := ix_sD (o := false) (val := fun x => wayS (W x)) hqV
                rw [strip_wayS] at this
                exact this
              rw [ev_cmp e1 (y := .non) (by rw [ev])]
              cases W (itN es q) <;> simp [wayS, cmpT, isNon]
            · have e1 : ev (mkC T k) (GG fol (some LG)) (.var 9) = .ok (.nd .lst false ((fol.map (·.2)).map .str)) := by
                simp only [GG, FF, ev, getS, List.getElem?_cons_zero, List.getElem?_cons_succ, optR_some, strip_ls]
              rw [ev_cmp (x := .str (itN es q)) (by simp [GG, FF, ev, getS]) e1, cmp_nin, inR_str, bnd_ok, z, Bool.true_and]
              rw [decide_not]
          have hK2 : K = dl ++ (p, q) :: l3 := hdl.symm
          refine ⟨GG fol none, ?_⟩
          by_cases z2 : W (itN es q) = none ∧ ∀ x ∈ fol, x.2 ≠ itN es q
          · have z3 : itN es q ∉ fol.map (·.2) := fun m => by
              obtain ⟨x, hx, e⟩ := List.mem_map.mp m
              exact z2.2 x hx e
            rw [z2.1, decide_eq_true z3] at ec2
            have g2 := g.add hR hdn.symm hK2 hs z1 z2.1 z2.2
            refine ⟨GG (fol ++ [(r.1 ++ [(p, q)], itN es q)]) (some (strip LG)), by rw [strip_lkT]; rfl, .inl (z_if_nx ec1 (z_asg_es elg a16 (z_if_nx ec2 (z_app (xs := fol.map rwO) (t := rwO (r.1 ++ [(p, q)], itN es q)) (env' := [some IT, some LK, some (.str a), some (.str b), some (wyD true D W), none, some (.nd .lst false (rows.map rwS)), some (nT y), some (.nd .lst true ((fol ++ [(r.1 ++ [(p, q)], itN es q)]).map rwO)), some (lsT (fol.map (·.2))), some (.nd .lst false (r.1.map pT)), some (.str r.2), some (.str (itN es q)), some (nT p), some (nT q), some (.str (itN es p)), some (strip LG)]) rfl ?_ ?_ ?_ ?_ (z_app (xs := (fol.map (·.2)).map .str) (t := .str (itN es q)) rfl ?_ rfl ?_ ?_ z_nil)) z_nil)) z_nil), dl ++ [(p, q)], _, rfl, by rw [hK2]; simp, g2⟩
            · show ev _ [none, none, none, none, none, none, none, none, none, none, none, none, some (.str (itN es q)), none, none, none, some LG] _ = _
              have := strips_pT (r.1 ++ [(p, q)])
              simp only [List.map_append, List.map_cons, List.map_nil] at this
              simp [LG, ev, evs, getS, sz2, mkTup, flats, flat, strip, this, rwO]
            · rfl
            · have := hfl g; rw [sizeLine_eq, List.length_map]; omega
            · simp [GG, FF, frS, frSg]
            · show ev _ [none, none, none, none, none, none, none, none, none, none, none, none, some (.str (itN es q)), none, none, none, none] _ = _
              simp [ev, getS]
            · have := hfl g; rw [sizeLine_eq, List.length_map, List.length_map]; omega
            · simp [GG, FF, frS, frSg, lsT]
          · have z3 : ((W (itN es q)).isNone && decide (itN es q ∉ fol.map (·.2))) = false := by
              rw [Bool.eq_false_iff]
              intro m
              rw [Bool.and_eq_true, decide_eq_true_eq, Option.isNone_iff_eq_none] at m
              exact z2 ⟨m.1, fun x hx e => m.2 (List.mem_map.mpr ⟨x, hx, e⟩)⟩
            rw [z3] at ec2
            exact ⟨GG fol (some LG), by rw [strip_lkT]; rfl, .inl (z_if_nx ec1 (z_asg_es elg a16 (z_if_f ec2 z_nil)) z_nil), dl ++ [(p, q)], fol, rfl, by rw [hK2]; simp, g.skip hR hdn.symm hK2 hs fun m => z2 m.2⟩
        · rw [decide_eq_false z1] at ec1
          exact ⟨GG fol none, GG fol none, by rw [strip_lkT]; rfl, .inl (z_if_f ec1 z_nil), dl ++ [(p, q)], fol, rfl, by rw [← hdl]; simp, g.skip hR hdn.symm hdl.symm hs fun m => z1 m.1⟩
      · rintro _ ⟨dl, fol', rfl, hdl, g'⟩
        rw [List.append_nil] at hdl
        subst hdl
        have g2 := g'.next (r' := r) fun e he => he
        exact ⟨fol', g2.congr fun r' _ e _ => by simp [DnR], z_nil⟩
    · rintro _ ⟨done, fol, rfl, hdn, g⟩
      rw [List.append_nil] at hdn
      subst hdn
      have s8 : strip (.nd .lst true (fol.map rwO)) = .nd .lst false (fol.map rwS) := by simp [strip, strips_rwO]
      let HH : (Str → Option (List (Nat × Nat))) → Option Rb.T → Option Rb.T → Env := fun W' v10 v12 => [some IT, some LK, some (.str a), some (.str b), some (wyD true D W'), none, some (.nd .lst false (done.map rwS)), some (nT y), some (.nd .lst false (fol.map rwS)), some (lsT (fol.map (·.2))), v10, none, v12, none, none, none, none]
      refine z_forP (f := rwS) (fun (l : List (List (Nat × Nat) × Str)) env => ∃ dn, env = HH (keepW W dn) none none ∧ dn ++ l = fol) (ys := fol) (e0 := HH W none none) ?_ ⟨[], rfl, rfl⟩ ?_ ?_
      · have := evF_seq (C := mkC T k) (env := FF fol none none none none none none none) (fv := [8]) (e := .var 8) (xs := fol.map rwS) (t := .nd .lst false (fol.map rwS)) (by
          show ev _ [none, none, none, none, none, none, none, none, some (.nd .lst true (fol.map rwO)), none, none, none, none, none, none, none, none] _ = _
          simp [ev, getS, s8]) rfl
        rw [this]
        simp [FF, HH, frS, frSg, s8]
      · rintro _ ⟨w1, x⟩ l3 ⟨dn, rfl, hd⟩
        have hm : (w1, x) ∈ fol := by rw [← hd]; simp
        have hx : x ∈ D := by
          obtain ⟨r, _, e, he, _, h2, _⟩ := g.f1 _ hm
          have h2 : itN es e.2 = x := h2
          rw [← h2]
          exact hKV2 e he
        refine ⟨HH (keepW W dn) (some (wayS (some w1))) (some (.str x)), HH (keepW W (dn ++ [(w1, x)])) (some (wayS (some w1))) (some (.str x)), by rw [strip_rwS]; rfl, .inl ?_, dn ++ [(w1, x)], rfl, by rw [← hd]; simp⟩
        have hk : keepW W (dn ++ [(w1, x)]) = upF (keepW W dn) x (some w1) := by
          unfold keepW
          rw [List.foldl_append]
          rfl
        rw [hk]
        refine z_put_es (t := wayS (some w1)) (q := .str x) (w := wyD true D (keepW W dn)) ?_ rfl (by simp [HH, ev, getS, frS, frSg]) rfl (put_wyD hN (by omega) hx _) (by simp [HH, frS, frSg, strip_wayS]) z_nil
        show ev _ [none, none, none, none, none, none, none, none, none, none, some (wayS (some w1)), none, none, none, none, none, none] _ = _
        simp [ev, getS, strip_wayS]
      · rintro _ ⟨dn, rfl, hd⟩
        rw [List.append_nil] at hd
        subst hd
        exact ⟨dn, g, z_asg_mv (t := .nd .lst false (dn.map rwS)) rfl rfl z_nil⟩
  · rintro _ ⟨t, rows, W, v6, rfl, h6, hR, ht⟩
    have hT0 := hR.told (b := b) hKV2 (V := D) (by simp at ht; omega)
    refine zp (hP (W b) hT0 fun l e => ?_) (z_ret_es ?_)
    · have := (hR.w1 b l e).2
      simp at ht
      omega
    · show ev _ [none, none, none, some (.str b), some (wyD true D W), none, none, none, none, none, none, none, none, none, none, none, none] _ = _
      rw [ev_sub (x := wyD false D W) (y := .str b) (by simp [ev, getS, strip_wyD]) (by simp [ev, getS])]
      have := ix_sD (o := false) (val := fun x => wayS (W x)) hb
      rw [strip_wayS] at this
      exact this
end
end Rb
namespace Rb
open PySem
open PySem.Spec
open L2
abbrev y__law_is_way : List IS := [.asg (.nm 4) (.es [2] (.var 2)), .floop (.nm 5) false [1] (.seq (.var 1)) [5, 6] [.asg (.nm 6) (.es [0, 4, 5] (.lc (.var 7) (.nm 7) (.seq (.var 0)) [.bo .And [.cmp .Eq (.slc (.var 7) [] [.lit (.int 2)]) (.var 5), .cmp .Eq (.sub (.var 7) (.lit (.int 2))) (.var 4)]])), .iff (.cmp .Eq (.b1 .len (.var 6)) (.lit (.int 0))) [.ret (.rd (.lit (.bl false)))] [], .asg (.nm 4) (.es [6] (.sub (.sub (.var 6) (.lit (.int 0))) (.lit (.int 3))))], .ret (.rd (.bo .And [.cmp .Gt (.b1 .len (.var 1)) (.lit (.int 0)), .cmp .Eq (.var 4) (.var 3)]))]
abbrev y__law_spoilt : List IS := [.iff (.cmp .Eq (.var 1) (.lit (.int 0))) [.ret (.es [0] (.slc (.var 0) [.lit (.int 1)] []))] [], .iff (.cmp .Eq (.var 1) (.lit (.int 1))) [.ret (.es [0] (.bin .Add (.var 0) (.slc (.var 0) [.neg (.lit (.int 1))] [])))] [], .iff (.cmp .Eq (.var 1) (.lit (.int 2))) [.ret (.es [0] (.rv (.var 0)))] [], .iff (.cmp .Eq (.var 1) (.lit (.int 3))) [.ret (.es [0] (.lc (.tup [.var 4, .var 3]) (.tp [.nm 3, .nm 4]) (.seq (.var 0)) []))] [], .iff (.bo .And [.cmp .Eq (.var 1) (.lit (.int 4)), .cmp .Gt (.b1 .len (.var 2)) (.lit (.int 0))]) [.ret (.es [0, 2] (.bin .Add (.slc (.var 0) [] [.neg (.lit (.int 1))]) (.lst [.slc (.sub (.var 2) (.neg (.lit (.int 1)))) [] [.lit (.int 2)]])))] [], .ret (.rd (.bin .Add (.var 0) (.lst [.tup [.neg (.lit (.int 1)), .lit (.int 99)]])))]
structure LiwTab (T : Tab) : Prop where
  _law_is_way : T.at (.fn "_law_is_way") = some (8, 4, y__law_is_way)
  _law_spoilt : T.at (.fn "_law_spoilt") = some (5, 3, y__law_spoilt)
theorem cutT_map {α β : Type} (f : α → β) (l : List α) (lo hi : Option Int) : cutT (l.map f) lo hi = (cutT l lo hi).map f := by
  unfold cutT
  rw [List.length_map, ← List.map_drop, ← List.map_take]
theorem len_cutT {α : Type} (l : List α) (lo hi : Option Int) : (cutT l lo hi).length ≤ l.length := by
  unfold cutT
  rw [List.length_take, List.length_drop]
  omega
theorem sl_ci (o : Bool) (l : List (Int × Int)) (lo hi : Option Int) : slT (.nd .lst o (l.map ciT)) lo hi = .ok (.nd .lst true ((cutT l lo hi).map ciT)) := by
  rw [slT, cutT_map, strips_ciT]
theorem sl_lk (o : Bool) (es : List Evt) (l : List (Nat × Nat)) (lo hi : Option Int) : slT (.nd .lst o (l.map (lkT es))) lo hi = .ok (.nd .lst true ((cutT l lo hi).map (lkT es))) := by
  rw [slT, cutT_map, strips_lkT]
theorem sl_lk2 (es : List Evt) (p : Nat × Nat) : slT (lkT es p) none (some 2) = .ok (pT p) := rfl
def ciN (p : Nat × Nat) : Int × Int := ((p.1 : Int), (p.2 : Int))
theorem ciT_N (p : Nat × Nat) : ciT (ciN p) = pT p := rfl
theorem flat_ciT (p : Int × Int) : flat (ciT p) = true := rfl
theorem eqT_ci (a b : Int × Int) : eqT (ciT a) (ciT b) = decide (a = b) := by
  obtain ⟨a1, a2⟩ := a
  obtain ⟨b1, b2⟩ := b
  rw [Bool.eq_iff_iff, decide_eq_true_eq, Prod.mk.injEq]
  simp [ciT, eqT, eqTs]
theorem owns_ci : ∀ l : List (Int × Int), owns (l.map ciT) = true
  | [] => rfl
  | e :: l => by rw [List.map_cons, owns, owns_ci l]; rfl
theorem eqok_ci (n : Nat) (a : Int × Int) : eqok (n + 2) (ciT a) = true := rfl
theorem eqR_ci (a b : Int × Int) : eqR (ciT a) (ciT b) = .ok (decide (a = b)) := by
  have h1 : eqok dpth (ciT a) = true := rfl
  have h2 : eqok dpth (ciT b) = true := rfl
  rw [eqR, h1, h2, eqT_ci]
  rfl
theorem eqTs_ci : ∀ (l m : List (Int × Int)), eqTs (l.map ciT) (m.map ciT) = decide (l = m)
  | [], [] => by simp [eqTs]
  | [], _ :: _ => by simp [eqTs]
  | _ :: _, [] => by simp [eqTs]
  | a :: l, b :: m => by
    rw [List.map_cons, List.map_cons, eqTs, eqT_ci, eqTs_ci l m, Bool.eq_iff_iff]
    simp
theorem eqok_cil (l : List (Int × Int)) (o : Bool) : eqok dpth (.nd .lst o (l.map ciT)) = true := by
  show (l.map ciT).all (eqok 39) = true
  rw [List.all_map, List.all_eq_true]
  intro a _
  rfl
theorem eqR_cil (o o' : Bool) (l m : List (Int × Int)) : eqR (.nd .lst o (l.map ciT)) (.nd .lst o' (m.map ciT)) = .ok (decide (l = m)) := by
  rw [eqR, eqok_cil, eqok_cil]
  simp only [Bool.and_self, if_true, eqT, eqTs_ci]
theorem ev_slc {C : Calls} {env : Env} {a : IE} {lo hi : List IE} {x : T} {l h : Option Int} (h1 : ev C env a = .ok x) (h2 : evo C env lo = .ok l) (h3 : evo C env hi = .ok h) : ev C env (.slc a lo hi) = slT x l h := by rw [ev, h1, bnd_ok, h2, bnd_ok, h3, bnd_ok]
theorem ev_slc2 {C : Calls} {env : Env} {a : IE} {x : T} (h1 : ev C env a = .ok x) : ev C env (.slc a [] [.lit (.int 2)]) = slT x none (some 2) := ev_slc h1 (by simp [evo]) (by simp [evo, ev, intT])
section
variable {T : Tab} (hT : LiwTab T) (k : Nat) (L : Lg) (w : Wf L) (wd : WfD L)
include hT w wd in
theorem law_is_way_ok {l : List (Int × Int)} (hl : l.length ≤ 1000000) (hK : (lkL L).length ≤ 1000000) {a b : Str} : (mkC T (k + 1)).fn "_law_is_way" [.nd .lst false ((lkL L).map (lkT L.es)), .nd .lst false (l.map ciT), .str a, .str b] = .ok (.bl (wyB L l a b)) := by
  rw [fn_of hT._law_is_way]
  obtain ⟨W, hW⟩ : ∃ W : Rb.T, W = .nd .lst false (l.map ciT) := ⟨_, rfl⟩
  have sW : strip W = W := by rw [hW]; simp [strip, strips_ciT]
  obtain ⟨LK, hLK⟩ : ∃ W : Rb.T, W = .nd .lst false ((lkL L).map (lkT L.es)) := ⟨_, rfl⟩
  have sK : strip LK = LK := by rw [hLK]; simp [strip, strips_lkT]
  rw [← hW, ← hLK]
  let E : Str → Option Rb.T → Option Rb.T → Env := fun here v5 v6 => [some LK, some W, some (.str a), some (.str b), some (.str here), v5, v6, none]
  refine call_rt (env := [some LK, some W, some (.str a), some (.str b), none, none, none, none]) rfl (by simp [env0, strips, sW, sK]) ?_
  refine z_asg_es (t := .str a) (env' := E a none none) ?_ (by simp [E, asgT, frS, frSg]) ?_
  · show ev _ [none, none, some (.str a), none, none, none, none, none] _ = _
    simp [ev, getS]
  have := z_forC (C := mkC T k) (p := .nm 5) (ow := false) (fv := [1]) (kl := [5, 6]) (it := .seq (.var 1)) (b := match y__law_is_way[1]? with | some (IS.floop _ _ _ _ _ b) => b | _ => []) (ss := [.ret (.rd (.bo .And [.cmp .Gt (.b1 .len (.var 1)) (.lit (.int 0)), .cmp .Eq (.var 4) (.var 3)]))]) (f := ciT) (env := E a none none) (e0 := E a none none) (V := wGo L l a = none) (fun m env => ∃ here, env = E here none none ∧ wGo L l a = wGo L m here) (.bl false) (ys := l) (by
    have := evF_seq (C := mkC T k) (env := E a none none) (fv := [1]) (e := .var 1) (xs := l.map ciT) (t := W) (by
      show ev _ [none, some W, none, none, none, none, none, none] _ = _
      simp [ev, getS, sW]) (by rw [hW]; rfl)
    rw [this]
    simp [E, frS, frSg, sW]) ⟨a, rfl, rfl⟩ (by
    rintro _ ⟨x, y⟩ m ⟨here, rfl, hg⟩
    refine ⟨E here (some (ciT (x, y))) none, by rw [strip_ciT]; rfl, ?_⟩
    let fit : Nat × Nat → Bool := fun e => decide (ciN e = (x, y)) && decide (itN L.es e.1 = here)
    let FD : List (Nat × Nat) := (lkL L).filter fit
    have eF : ev (mkC T k) (keepS [0, 4, 5] (E here (some (ciT (x, y))) none)) (.lc (.var 7) (.nm 7) (.seq (.var 0)) [.bo .And [.cmp .Eq (.slc (.var 7) [] [.lit (.int 2)]) (.var 5), .cmp .Eq (.sub (.var 7) (.lit (.int 2))) (.var 4)]]) = .ok (.nd .lst true (FD.map (lkT L.es))) := by
      show ev _ [some LK, none, none, none, some (.str here), some (ciT (x, y)), none, none] _ = _
      refine ev_lc (f := lkT L.es) (ys := lkL L) fit (lkT L.es) (evi_seq (t := LK) (by simp [ev, getS, sK]) (by rw [hLK]; rfl)) (by omega) fun e he => ?_
      refine ⟨[some LK, none, none, none, some (.str here), some (ciT (x, y)), none, some (lkT L.es e)], rfl, ?_, fun _ => by simp [ev, getS, strip_lkT]⟩
      have ec : ev (mkC T k) [some LK, none, none, none, some (.str here), some (ciT (x, y)), none, some (lkT L.es e)] (.bo .And [.cmp .Eq (.slc (.var 7) [] [.lit (.int 2)]) (.var 5), .cmp .Eq (.sub (.var 7) (.lit (.int 2))) (.var 4)]) = .ok (.bl (fit e)) := by
        refine ev_and (x := decide (ciN e = (x, y))) ?_ (fun z => ?_) (fun z => by simp only [fit, z]; rfl)
        · have e1 : ev (mkC T k) [some LK, none, none, none, some (.str here), some (ciT (x, y)), none, some (lkT L.es e)] (.slc (.var 7) [] [.lit (.int 2)]) = .ok (ciT (ciN e)) := by
            rw [ev_slc2 (x := lkT L.es e) (by simp [ev, getS, strip_lkT]), sl_lk2]
            rfl
          rw [ev_cmp e1 (y := ciT (x, y)) (by simp [ev, getS, strip_ciT]), cmp_eq, eqR_ci, bnd_ok]
        · have e1 : ev (mkC T k) [some LK, none, none, none, some (.str here), some (ciT (x, y)), none, some (lkT L.es e)] (.sub (.var 7) (.lit (.int 2))) = .ok (.str (itN L.es e.1)) := by
            rw [ev_sub (x := lkT L.es e) (y := .int 2) (by simp [ev, getS, strip_lkT]) (by rw [ev])]
            rfl
          rw [ev_cmp e1 (y := .str here) (by simp [ev, getS]), cmp_eq, eqr_s, bnd_ok, beq_dec]
          simp only [fit, z, Bool.true_and]
      rw [evc, ec, bnd_ok, truth_bl]
    have hp : asgT (.nm 6) (.nd .lst true (FD.map (lkT L.es))) (frS [0, 4, 5] (E here (some (ciT (x, y))) none)) = some (E here (some (ciT (x, y))) (some (.nd .lst true (FD.map (lkT L.es))))) := by
      simp [E, asgT, frS, frSg, sK, strip_ciT]
    have s6 : strip (.nd .lst true (FD.map (lkT L.es))) = .nd .lst false (FD.map (lkT L.es)) := by simp [strip, strips_lkT]
    have eL : ev (mkC T k) (E here (some (ciT (x, y))) (some (.nd .lst true (FD.map (lkT L.es))))) (.cmp .Eq (.b1 .len (.var 6)) (.lit (.int 0))) = .ok (.bl (decide (FD.length = 0))) := by
      rw [ev_cmp (x := .int FD.length) (y := .int 0) (ev_b1 (x := .nd .lst false (FD.map (lkT L.es))) (by simp [E, ev, getS, s6]) (by rw [len_lst, List.length_map])) (by rw [ev]), cmp_eq, eqr_i, bnd_ok]
      congr 2
      rw [Bool.eq_iff_iff, beq_iff_eq, decide_eq_true_eq]
      omega
    rw [wGo] at hg
    by_cases z : lkI L x y = true ∧ itN L.es x.toNat = here
    · rw [z.1, decide_eq_true z.2] at hg
      rw [Bool.and_self, if_pos rfl] at hg
      have z1 := z.1
      simp only [lkI, Bool.and_eq_true, decide_eq_true_eq] at z1
      obtain ⟨⟨x0, y0⟩, hlk⟩ := z1
      have hm : (x.toNat, y.toNat) ∈ FD := List.mem_filter.mpr ⟨hlk, by
        show (decide (ciN (x.toNat, y.toNat) = (x, y)) && decide (itN L.es x.toNat = here)) = true
        rw [decide_eq_true z.2, Bool.and_true, decide_eq_true_eq]
        exact Prod.ext (by show ((x.toNat : Nat) : Int) = x; omega) (by show ((y.toNat : Nat) : Int) = y; omega)⟩
      obtain ⟨e0, F', hF⟩ : ∃ e0 F', FD = e0 :: F' := by
        cases q : FD with
        | nil => rw [q] at hm; cases hm
        | cons e l => exact ⟨e, l, rfl⟩
      have he0 : e0 ∈ FD := by rw [hF]; simp
      have he := (List.mem_filter.mp he0).2
      simp only [fit, ciN, Bool.and_eq_true, decide_eq_true_eq, Prod.mk.injEq] at he
      have e2 : e0.2 = y.toNat := by omega
      rw [decide_eq_false (p := FD.length = 0) (by rw [hF]; simp)] at eL
      refine .inl ⟨E (itN L.es y.toNat) (some (ciT (x, y))) (some (.nd .lst false (FD.map (lkT L.es)))), .inl (z_asg_es eF hp (z_if_f eL (z_asg_es (t := .str (itN L.es y.toNat)) ?_ (by simp [E, asgT, frS, frSg, s6]) z_nil))), itN L.es y.toNat, rfl, hg⟩
      show ev _ [none, none, none, none, none, none, some (.nd .lst true (FD.map (lkT L.es))), none] _ = _
      have i1 : ev (mkC T k) [none, none, none, none, none, none, some (.nd .lst true (FD.map (lkT L.es))), none] (.sub (.var 6) (.lit (.int 0))) = .ok (lkT L.es e0) := by
        rw [ev_sub (x := .nd .lst false (FD.map (lkT L.es))) (y := .int 0) (by simp [ev, getS, s6]) (by rw [ev])]
        have := ix_nat false (xs := FD.map (lkT L.es)) (p := 0) (t := lkT L.es e0) (by rw [hF]; rfl)
        rw [strip_lkT] at this
        exact this
      rw [ev_sub i1 (y := .int 3) (by rw [ev]), ← e2]
      rfl
    · have hF : FD = [] := by
        rw [List.filter_eq_nil_iff]
        intro e he hf
        simp only [fit, ciN, Bool.and_eq_true, decide_eq_true_eq, Prod.mk.injEq] at hf
        refine z ⟨?_, ?_⟩
        · simp only [lkI, Bool.and_eq_true, decide_eq_true_eq]
          refine ⟨⟨by omega, by omega⟩, ?_⟩
          have : (x.toNat, y.toNat) = e := Prod.ext (by show x.toNat = e.1; omega) (by show y.toNat = e.2; omega)
          rw [this]
          exact he
        · have : x.toNat = e.1 := by omega
          rw [this]
          exact hf.2
      have z' : (lkI L x y && decide (itN L.es x.toNat = here)) = false := by
        rw [Bool.eq_false_iff]
        intro m
        rw [Bool.and_eq_true, decide_eq_true_eq] at m
        exact z m
      rw [z'] at hg
      rw [hF] at eL eF hp
      rw [if_neg (by simp)] at hg
      exact .inr ⟨z_asg_es eF hp (z_if_rt eL (z_ret_rd (by rw [ev]) rfl)), hg⟩)
  rcases this with ⟨_, ⟨here, rfl, hg⟩, e⟩ | ⟨e, hg⟩
  · refine e.trans (z_ret_rd ?_ rfl)
    rw [wGo] at hg
    unfold wyB
    rw [hg]
    refine ev_and (x := decide (0 < l.length)) ?_ (fun z => ?_) (fun z => by rw [z]; rfl)
    · have e1 : b1T .len W = .ok (.int l.length) := by rw [hW, len_lst, List.length_map]
      simp [E, ev, getS, sW, e1]
    · rw [z, Bool.true_and]
      simp [E, ev, getS, beq_dec]
  · refine e.trans ?_
    unfold wyB
    rw [hg]
    simp
include hT in
theorem spoilt_ok {l : List (Int × Int)} (hl : l.length ≤ 1000) (n : Int) (es : List Evt) (K : List (Nat × Nat)) : ∃ l' : List (Int × Int), l'.length ≤ 10000 ∧ (mkC T (k + 1)).fn "_law_spoilt" [.nd .lst false (l.map ciT), .int n, .nd .lst false (K.map (lkT es))] = .ok (.nd .lst true (l'.map ciT)) := by
  obtain ⟨W, hW⟩ : ∃ W : Rb.T, W = .nd .lst false (l.map ciT) := ⟨_, rfl⟩
  have sW : strip W = W := by rw [hW]; simp [strip, strips_ciT]
  obtain ⟨LK, hLK⟩ : ∃ W : Rb.T, W = .nd .lst false (K.map (lkT es)) := ⟨_, rfl⟩
  have sK : strip LK = LK := by rw [hLK]; simp [strip, strips_lkT]
  suffices hh : ∃ l' : List (Int × Int), l'.length ≤ 10000 ∧ execs (mkC T k) y__law_spoilt [some W, some (.int n), some LK, none, none] = .rt (.nd .lst true (l'.map ciT)) by
    obtain ⟨l', h1, h2⟩ := hh
    refine ⟨l', h1, ?_⟩
    rw [fn_of hT._law_spoilt, ← hW, ← hLK]
    exact call_rt rfl (by simp [env0, strips, sW, sK]) h2
  let E : Env := [some W, some (.int n), some LK, none, none]
  have c : ∀ m : Int, ev (mkC T k) E (.cmp .Eq (.var 1) (.lit (.int m))) = .ok (.bl (decide (n = m))) := fun m => by
    rw [ev_cmp (x := .int n) (y := .int m) (by simp [E, ev, getS]) (by rw [ev]), cmp_eq, eqr_i, bnd_ok]
    rfl
  have eW : ∀ env : Env, getS env 0 = some W → ev (mkC T k) env (.var 0) = .ok (.nd .lst false (l.map ciT)) := fun env he => by
    rw [← hW]
    simp [ev, he, sW]
  have add : ∀ (o o' : Bool) (a b : List (Int × Int)), a.length ≤ 1000 → b.length ≤ 1000 → binT .Add (.nd .lst o (a.map ciT)) (.nd .lst o' (b.map ciT)) = .ok (.nd .lst true ((a ++ b).map ciT)) := fun o o' a b ha hb => by
    have hz : (a.map ciT).length + (b.map ciT).length ≤ sizeLine := by
      rw [sizeLine_eq, List.length_map, List.length_map]; omega
    rw [binT, if_pos hz, List.map_append, strips_ciT, strips_ciT]
  have en1 : ∀ env : Env, evo (mkC T k) env [.neg (.lit (.int 1))] = .ok (some (-1)) := fun env => by simp [evo, ev, intT, negT]
  by_cases z0 : n = 0
  · refine ⟨cutT l (some 1) none, Nat.le_trans (len_cutT _ _ _) (by omega), z_if_rt ((c 0).trans (by rw [decide_eq_true z0])) (z_ret_es ?_)⟩
    show ev _ [some W, none, none, none, none] _ = _
    rw [ev_slc (eW _ rfl) (l := some 1) (h := none) (by simp [evo, ev, intT]) (by simp [evo]), sl_ci]
  suffices hh : ∃ l' : List (Int × Int), l'.length ≤ 10000 ∧ execs (mkC T k) (y__law_spoilt.drop 1) E = .rt (.nd .lst true (l'.map ciT)) by
    obtain ⟨l', h1, h2⟩ := hh
    exact ⟨l', h1, z_if_f ((c 0).trans (by rw [decide_eq_false z0])) h2⟩
  by_cases z1 : n = 1
  · refine ⟨l ++ cutT l (some (-1)) none, by have := len_cutT l (some (-1)) none; rw [List.length_append]; omega, z_if_rt ((c 1).trans (by rw [decide_eq_true z1])) (z_ret_es ?_)⟩
    show ev _ [some W, none, none, none, none] _ = _
    rw [ev_bin (eW _ rfl) (ev_slc (eW _ rfl) (l := some (-1)) (h := none) (en1 _) (by simp [evo]) |>.trans (sl_ci _ _ _ _)), add _ _ _ _ hl (Nat.le_trans (len_cutT _ _ _) hl)]
  suffices hh : ∃ l' : List (Int × Int), l'.length ≤ 10000 ∧ execs (mkC T k) (y__law_spoilt.drop 2) E = .rt (.nd .lst true (l'.map ciT)) by
    obtain ⟨l', h1, h2⟩ := hh
    exact ⟨l', h1, z_if_f ((c 1).trans (by rw [decide_eq_false z1])) h2⟩
  by_cases z2 : n = 2
  · refine ⟨l.reverse, by rw [List.length_reverse]; omega, z_if_rt ((c 2).trans (by rw [decide_eq_true z2])) (z_ret_es ?_)⟩
    show ev _ [some W, none, none, none, none] _ = _
    rw [ev, eW _ rfl, bnd_ok, rvT, ← List.map_reverse, strips_ciT]
  suffices hh : ∃ l' : List (Int × Int), l'.length ≤ 10000 ∧ execs (mkC T k) (y__law_spoilt.drop 3) E = .rt (.nd .lst true (l'.map ciT)) by
    obtain ⟨l', h1, h2⟩ := hh
    exact ⟨l', h1, z_if_f ((c 2).trans (by rw [decide_eq_false z2])) h2⟩
  by_cases z3 : n = 3
  · refine ⟨l.map fun p => (p.2, p.1), by rw [List.length_map]; omega, z_if_rt ((c 3).trans (by rw [decide_eq_true z3])) (z_ret_es ?_)⟩
    show ev _ [some W, none, none, none, none] _ = _
    have := ev_lc (C := mkC T k) (env := [some W, none, none, none, none]) (tg := .tp [.nm 3, .nm 4]) (it := .seq (.var 0)) (elt := .tup [.var 4, .var 3]) (ifs := []) (ys := l) (f := ciT) (fun _ => true) (fun p => ciT (p.2, p.1)) (evi_seq (eW _ rfl) rfl) (by omega) fun p hp =>
      ⟨[some W, none, none, some (.int p.1), some (.int p.2)], rfl, rfl, fun _ => by simp [ev, evs, getS, sz2, mkTup, flats, flat, ciT]⟩
    rw [this, List.filter_eq_self.mpr fun _ _ => rfl, List.map_map]
    rfl
  suffices hh : ∃ l' : List (Int × Int), l'.length ≤ 10000 ∧ execs (mkC T k) (y__law_spoilt.drop 4) E = .rt (.nd .lst true (l'.map ciT)) by
    obtain ⟨l', h1, h2⟩ := hh
    exact ⟨l', h1, z_if_f ((c 3).trans (by rw [decide_eq_false z3])) h2⟩
  have eK : ∀ env : Env, getS env 2 = some LK → ev (mkC T k) env (.var 2) = .ok (.nd .lst false (K.map (lkT es))) := fun env he => by
    rw [← hLK]
    simp [ev, he, sK]
  have c4 : ev (mkC T k) E (.bo .And [.cmp .Eq (.var 1) (.lit (.int 4)), .cmp .Gt (.b1 .len (.var 2)) (.lit (.int 0))]) = .ok (.bl (decide (n = 4) && decide (0 < K.length))) := by
    refine ev_and (x := decide (n = 4)) (c 4) (fun z => ?_) (fun z => by rw [z]; rfl)
    rw [ev_cmp (ev_b1 (eK _ rfl) (y := .int K.length) (by rw [len_lst, List.length_map])) (y := .int 0) (by rw [ev]), cmp_gt, z, Bool.true_and]
    congr 2
    rw [Bool.eq_iff_iff, decide_eq_true_eq, decide_eq_true_eq]
    omega
  by_cases z4 : n = 4 ∧ 0 < K.length
  · rw [decide_eq_true z4.1, decide_eq_true z4.2] at c4
    obtain ⟨K0, e0, hK⟩ : ∃ K0 e0, K = K0 ++ [e0] := ⟨K.dropLast, K.getLast (by rintro rfl; simp at z4), (List.dropLast_concat_getLast _).symm⟩
    refine ⟨cutT l none (some (-1)) ++ [ciN e0], by have := len_cutT l none (some (-1)); rw [List.length_append, List.length_singleton]; omega, z_if_rt c4 (z_ret_es ?_)⟩
    show ev _ [some W, none, some LK, none, none] _ = _
    have e1 : ev (mkC T k) [some W, none, some LK, none, none] (.sub (.var 2) (.neg (.lit (.int 1)))) = .ok (lkT es e0) := by
      rw [ev_sub (eK _ rfl) (y := .int (-1)) (by simp [ev, negT])]
      have : atI (K.map (lkT es)) (-1) = some (lkT es e0) := by
        rw [hK]
        rw [List.map_append]
        have h1 : (1 : Int) ≤ (K0.length : Int) + 1 := by omega
        have h2 : (-1 + ((K0.length : Int) + 1)).toNat = K0.length := by omega
        simp [atI, ixN, h1, h2]
      rw [ix_lst _ _ _ this, strip_lkT]
    have e2 : ev (mkC T k) [some W, none, some LK, none, none] (.lst [.slc (.sub (.var 2) (.neg (.lit (.int 1)))) [] [.lit (.int 2)]]) = .ok (.nd .lst true ([ciN e0].map ciT)) := by
      rw [ev, evs, ev_slc2 e1, sl_lk2]
      simp [evs, sz1, ciT_N]
    rw [ev_bin (ev_slc (eW _ rfl) (l := none) (h := some (-1)) (by simp [evo]) (en1 _) |>.trans (sl_ci _ _ _ _)) e2, add _ _ _ _ (Nat.le_trans (len_cutT _ _ _) hl) (by simp)]
  · have : (decide (n = 4) && decide (0 < K.length)) = false := by
      rw [Bool.eq_false_iff]
      intro m
      rw [Bool.and_eq_true, decide_eq_true_eq, decide_eq_true_eq] at m
      exact z4 m
    rw [this] at c4
    refine ⟨l ++ [(-1, 99)], by rw [List.length_append, List.length_singleton]; omega, z_if_f c4 (z_ret_rd ?_ ?_)⟩
    · have e2 : ev (mkC T k) E (.lst [.tup [.neg (.lit (.int 1)), .lit (.int 99)]]) = .ok (.nd .lst true ([((-1 : Int), (99 : Int))].map ciT)) := by
        simp [ev, evs, sz1, sz2, mkTup, flats, flat, ciT, negT]
      rw [ev_bin (eW _ rfl) e2, add _ _ _ _ hl (by simp)]
    · show owns ((l ++ [(-1, 99)]).map ciT) = true
      exact owns_ci _
end
end Rb
namespace Rb
open PySem
open PySem.Spec
open L2
abbrev y_k10_law : List IS := [.asg (.nm 1) (.es [0] (.call "_law_numbers" [.var 0, .lit (.int 60)])), .asg (.nm 2) (.es [1] (.call "_law_log" [.var 1, .lit (.int 0), .lit (.int 5), .lit (.int 14)])), .asg (.nm 3) (.es [2] (.call "_law_made" [.var 2])), .asg (.nm 4) (.es [2] (.call "_law_links" [.var 2])), .floop (.nm 5) false [2] (.rng1 (.b1 .len (.sub (.var 2) (.lit (.int 0))))) [5, 6, 7, 8, 9, 10, 11, 12, 13, 14, 15, 16] [.floop (.nm 6) false [2] (.rng1 (.b1 .len (.sub (.var 2) (.lit (.int 0))))) [6, 7, 8, 9, 10, 11, 12, 13, 14, 15, 16] [.par 11 12 (.sub (.sub (.var 2) (.lit (.int 0))) (.var 5)) (.sub (.sub (.var 2) (.lit (.int 0))) (.var 6)), .asg (.nm 7) (.es [2, 4, 11, 12] (.call "_law_first_way" [.sub (.var 2) (.lit (.int 0)), .var 4, .var 11, .var 12])), .floop (.nm 8) false [] (.rng1 (.lit (.int 2))) [8, 13] [.asg (.nm 13) (.es [3, 11, 12] (.call "way_between" [.var 3, .var 11, .var 12])), .iff (.cmp .NotEq (.var 13) (.var 7)) [.ret (.rd (.lit (.bl false)))] [], .iff (.cmp .IsNot (.var 13) (.lit .non)) [.app 13 [] (.rd (.lit (.int 0)))] []], .asg (.nm 9) (.es [7] (.var 7)), .iff (.cmp .Is (.var 9) (.lit .non)) [.asg (.nm 9) (.es [4] (.lc (.slc (.var 17) [] [.lit (.int 2)]) (.nm 17) (.seq (.slc (.var 4) [] [.lit (.int 2)])) []))] [], .floop (.nm 10) false [1, 5, 6] (.seq (.lst [.lit (.int 6), .bin .Mod (.b1 .int (.sub (.var 1) (.bin .Add (.bin .Add (.lit (.int 30)) (.bin .Mult (.lit (.int 5)) (.var 5))) (.var 6)))) (.lit (.int 6))])) [10, 14, 15, 16] [.asg (.nm 14) (.es [4, 9, 10] (.ifx (.cmp .Lt (.var 10) (.lit (.int 6))) (.call "_law_spoilt" [.var 9, .var 10, .var 4]) (.b1 .list (.var 9)))), .asg (.nm 15) (.es [14] (.b1 .list (.var 14))), .asg (.nm 16) (.es [3, 11, 12, 15] (.call "is_way" [.var 3, .var 15, .var 11, .var 12])), .iff (.bo .Or [.no (.isi (.var 16) "bool"), .cmp .NotEq (.var 16) (.call "_law_is_way" [.var 4, .var 14, .var 11, .var 12]), .cmp .NotEq (.var 15) (.var 14)]) [.ret (.rd (.lit (.bl false)))] []]]], .ret (.rd (.lit (.bl true)))]
def bodyOf : Option IS → List IS
  | some (.floop _ _ _ _ _ b) => b
  | _ => []
abbrev y_k10_b5 : List IS := bodyOf y_k10_law[4]?
abbrev y_k10_b6 : List IS := bodyOf y_k10_b5[0]?
theorem z_par {C : Calls} {env env' : Env} {ss : List IS} {r : SR} {i j : Nat} {a b : IE} {t u : T} (h1 : ev C env a = .ok t) (h2 : ev C env b = .ok u) (o1 : own t = true) (o2 : own u = true) (hij : i ≠ j) (he : (env.set i (some t)).set j (some u) = env') (hr : execs C ss env' = r) : execs C (.par i j a b :: ss) env = r := by
  have hs : evs C env [a, b] = .ok [t, u] := by rw [evs, h1, bnd_ok, evs, h2]; rfl
  have hc : (own t && own u && decide (i ≠ j)) = true := by rw [o1, o2, decide_eq_true hij]; rfl
  rw [execs, exec, hs]
  simp only [hc, if_true, he, SR.seq, hr]
theorem len_lkL {L : Lg} (w : Wf L) : (lkL L).length ≤ 14400 := by
  have h1 := w.es_len
  have := len_flatMap (fun p => ((List.range L.es.length).filter fun q => orB L p q && decide (grdN L.es p < grdN L.es q)).map fun q => (p, q)) 120 (List.range L.es.length) fun p _ => by
    rw [List.length_map]
    have := List.length_filter_le (fun q => orB L p q && decide (grdN L.es p < grdN L.es q)) (List.range L.es.length)
    rw [List.length_range] at this
    omega
  rw [List.length_range] at this
  have h2 : (lkL L).length ≤ L.es.length * 120 := this
  omega
theorem strip_optT (o : Option (List (Nat × Nat))) : strip (optT o) = wayS o := by
  cases o with
  | none => rfl
  | some l => simp [optT, wayS, strip, strips_pT]
theorem map_ciN (l : List (Nat × Nat)) : l.map pT = (l.map ciN).map ciT := by
  rw [List.map_map]
  rfl
theorem eqR_way (o : Option (List (Nat × Nat))) : eqR (wayS o) (wayS o) = .ok true := by
  cases o with
  | none => simp [wayS, eqR, eqok, dpth, eqT]
  | some l => rw [wayS, map_ciN, eqR_cil, decide_eq_true rfl]
section
variable {T : Tab} (hL : LogTab T) (hm : NamTab T) (hk : ChkTab T) (hT : LenTab T) (hy : WayTab T) (hi : IswTab T) (hF : LfwTab T) (hS : LiwTab T) (k : Nat) (L : Lg) (w : Wf L) (wd : WfD L)
include hL hm hk hT hy hi hF hS w wd
/-- the law's look at two items -/
theorem pair_ok {W : Rb.T} {N : List Int} {a b : Str} {p q : Nat} (hp : L.items[p]? = some a) (hq : L.items[q]? = some b) (hN : 30 + 5 * p + q < N.length) {v3 v4 : Rb.T} (h3 : strip v3 = lgT L) (h4 : strip v4 = .nd .lst false ((lkL L).map (lkT L.es))) :
    ∃ e2 v3' v4', execs (mkC T (k + 10)) y_k10_b6 [some W, some (.nd .lst false (N.map .int)), some (paT L), some v3, some v4, some (nT p), some (nT q), none, none, none, none, none, none, none, none, none, none, none] = .nx e2 ∧ strip v3' = lgT L ∧ strip v4' = .nd .lst false ((lkL L).map (lkT L.es)) ∧
      kill [6, 7, 8, 9, 10, 11, 12, 13, 14, 15, 16] e2 = [some W, some (.nd .lst false (N.map .int)), some (paT L), some v3', some v4', some (nT p), none, none, none, none, none, none, none, none, none, none, none, none] := by
  obtain ⟨LK, hLK⟩ : ∃ W : Rb.T, W = .nd .lst false ((lkL L).map (lkT L.es)) := ⟨_, rfl⟩
  have sK : strip LK = LK := by rw [hLK]; simp [strip, strips_lkT]
  obtain ⟨NN, hNN⟩ : ∃ W : Rb.T, W = .nd .lst false (N.map .int) := ⟨_, rfl⟩
  have sN : strip NN = NN := by rw [hNN]; simp [strip, strips_ints]
  have sG : strip (lgT L) = lgT L := strip_lg L
  obtain ⟨G, hG⟩ : ∃ W : Rb.T, W = lgT L := ⟨_, rfl⟩
  rw [← hLK] at h4 ⊢
  rw [← hG] at h3 sG ⊢
  rw [← hNN]
  have ha : a ∈ L.items := List.mem_of_getElem? hp
  have hb : b ∈ L.items := List.mem_of_getElem? hq
  have hlk := len_lkL w
  let S : Rb.T → Rb.T → Option Rb.T → Option Rb.T → Option Rb.T → Option Rb.T → Option Rb.T → Option Rb.T → Option Rb.T → Option Rb.T → Option Rb.T → Option Rb.T → Env := fun v3 v4 v6 v7 v8 v9 v10 v11 v12 v13 v14 v15 => [some W, some NN, some (paT L), some v3, some v4, some (nT p), v6, v7, v8, v9, v10, v11, v12, v13, v14, v15, none, none]
  let Q : SR → Prop := fun r => ∃ e2 v3' v4', r = .nx e2 ∧ strip v3' = G ∧ strip v4' = LK ∧ kill [6, 7, 8, 9, 10, 11, 12, 13, 14, 15, 16] e2 = [some W, some NN, some (paT L), some v3', some v4', some (nT p), none, none, none, none, none, none, none, none, none, none, none, none]
  show Q _
  have iV : ∀ env : Env, getS env 2 = some (paT L) → ev (mkC T (k + 10)) env (.sub (.var 2) (.lit (.int 0))) = .ok (.nd .lst false (L.items.map .str)) := fun env he => by
    simp [ev, he, pa_items]
  refine zp ?_ (z_par (t := .str a) (u := .str b) (env' := S v3 v4 (some (nT q)) none none none none (some (.str a)) (some (.str b)) none none none) ?_ ?_ rfl rfl (by decide) rfl rfl)
  rotate_left
  · rw [ev_sub (iV _ rfl) (y := nT p) (by simp [ev, getS])]
    exact ix_nat false (t := .str a) (by rw [List.getElem?_map, hp]; rfl)
  · rw [ev_sub (iV _ rfl) (y := nT q) (by simp [ev, getS])]
    exact ix_nat false (t := .str b) (by rw [List.getElem?_map, hq]; rfl)
  obtain ⟨o, ho1, ho2, ho3⟩ := law_first_way_ok hF (k + 9) L.es (lkL L) L.items w.it_len w.it_nd (fun e he => (ends_V w wd e he).1) (fun e he => (ends_V w wd e he).2) (lkL_sorted L) (by omega) ha hb
  refine zp ?_ (z_asg_es (t := wayS o) (env' := S v3 LK (some (nT q)) (some (wayS o)) none none none (some (.str a)) (some (.str b)) none none none) ?_ (by simp [S, asgT, frS, frSg, h4]) rfl)
  rotate_left
  · show ev _ [none, none, some (paT L), none, some v4, none, none, none, none, none, none, some (.str a), some (.str b), none, none, none, none, none] _ = _
    rw [ev_call (ts := [.nd .lst false (L.items.map .str), LK, .str a, .str b]) (by simp [evs, ev, getS, pa_items, h4])]
    simp only [strips, strip_ls2, strip_str, sK]
    rw [hLK]
    exact ho3
  refine z_forP (f := nT) (fun (l : List Nat) env => ∃ (v3 : Rb.T), env = S v3 LK (some (nT q)) (some (wayS o)) none none none (some (.str a)) (some (.str b)) none none none ∧ strip v3 = G) (ys := List.range 2) (evF_rng (n := 2) (by simp [ev]) (by omega)) ⟨_, rfl, h3⟩ ?_ ?_
  · rintro _ y l ⟨v3, rfl, h3⟩
    obtain ⟨o', hw1, hw2, hw3⟩ := way_between_ok hL hm hk hT hy L (k + 1) w wd ha hb
    obtain rfl := Told.uniq hw1 ho1
    let F : Option Rb.T → Env := fun v13 => S G LK (some (nT q)) (some (wayS o')) (some (nT y)) none none (some (.str a)) (some (.str b)) v13 none none
    have e13 : ∀ env : Env, getS env 13 = some (optT o') → ev (mkC T (k + 10)) env (.var 13) = .ok (wayS o') := fun env he => by
      rw [ev, he]
      show R.ok (strip (optT o')) = _
      rw [strip_optT]
    have ec : ev (mkC T (k + 10)) (F (some (optT o'))) (.cmp .NotEq (.var 13) (.var 7)) = .ok (.bl false) := by
      rw [ev_cmp (e13 _ rfl) (y := wayS o') (by simp [F, S, ev, getS, strip_wayS]), cmp_ne, eqR_way, bnd_ok]
      rfl
    have e1 : ev (mkC T (k + 10)) (keepS [3, 11, 12] (S v3 LK (some (nT q)) (some (wayS o')) (some (nT y)) none none (some (.str a)) (some (.str b)) none none none)) (.call "way_between" [.var 3, .var 11, .var 12]) = .ok (optT o') := by
      show ev _ [none, none, none, some v3, none, none, none, none, none, none, none, some (.str a), some (.str b), none, none, none, none, none] _ = _
      rw [ev_call (ts := [G, .str a, .str b]) (by simp [evs, ev, getS, h3])]
      simp only [strips, strip_str, sG]
      rw [hG]
      exact hw3
    have a1 : asgT (.nm 13) (optT o') (frS [3, 11, 12] (S v3 LK (some (nT q)) (some (wayS o')) (some (nT y)) none none (some (.str a)) (some (.str b)) none none none)) = some (F (some (optT o'))) := by
      simp [S, F, asgT, frS, frSg, h3]
    refine ⟨S v3 LK (some (nT q)) (some (wayS o')) (some (nT y)) none none (some (.str a)) (some (.str b)) none none none, ?_⟩
    cases o' with
    | none =>
      exact ⟨F (some .non), rfl, .inl (z_asg_es e1 a1 (z_if_f ec (z_if_f (by rw [ev_cmp (e13 _ rfl) (y := .non) (by rw [ev])]; rfl) z_nil))), G, rfl, sG⟩
    | some l =>
      refine ⟨F (some (.nd .lst true (l.map pT ++ [.int 0]))), rfl, .inl (z_asg_es e1 a1 (z_if_f ec (z_if_nx (by rw [ev_cmp (e13 _ rfl) (y := .non) (by rw [ev])]; rfl) (z_app_rd (xs := l.map pT) (t := .int 0) rfl (by rw [ev]) rfl ?_ rfl z_nil) z_nil))), G, rfl, sG⟩
      have := ho2 l rfl
      rw [sizeLine_eq, List.length_map]; omega
  rintro _ ⟨v3, rfl, h3⟩
  refine zp ?_ (z_asg_es (t := wayS o) (env' := S v3 LK (some (nT q)) (some (wayS o)) none (some (wayS o)) none (some (.str a)) (some (.str b)) none none none) ?_ (by simp [S, asgT, frS, frSg, strip_wayS]) rfl)
  rotate_left
  · show ev _ [none, none, none, none, none, none, none, some (wayS o), none, none, none, none, none, none, none, none, none, none] _ = _
    simp [ev, getS, strip_wayS]
  have way : ∃ (l : List (Int × Int)) (v9 : Rb.T), l.length ≤ 1000 ∧ strip v9 = .nd .lst false (l.map ciT) ∧ ∀ ss, execs (mkC T (k + 10)) (.iff (.cmp .Is (.var 9) (.lit .non)) [.asg (.nm 9) (.es [4] (.lc (.slc (.var 17) [] [.lit (.int 2)]) (.nm 17) (.seq (.slc (.var 4) [] [.lit (.int 2)])) []))] [] :: ss) (S v3 LK (some (nT q)) (some (wayS o)) none (some (wayS o)) none (some (.str a)) (some (.str b)) none none none) = execs (mkC T (k + 10)) ss (S v3 LK (some (nT q)) (some (wayS o)) none (some v9) none (some (.str a)) (some (.str b)) none none none) := by
    have e9 : ev (mkC T (k + 10)) (S v3 LK (some (nT q)) (some (wayS o)) none (some (wayS o)) none (some (.str a)) (some (.str b)) none none none) (.var 9) = .ok (wayS o) := by
      simp [S, ev, getS, strip_wayS]
    have ec := ev_cmp (op := .Is) e9 (b := .lit .non) (y := .non) (by rw [ev])
    cases o with
    | some l =>
      refine ⟨l.map ciN, wayS (some l), by rw [List.length_map]; have := ho2 l rfl; omega, by rw [strip_wayS, ← map_ciN]; rfl, fun ss => z_if_f (ec.trans rfl) rfl⟩
    | none =>
      refine ⟨(cutT (lkL L) none (some 2)).map ciN, .nd .lst true ((cutT (lkL L) none (some 2)).map pT), ?_, by rw [map_ciN]; simp only [strip, strips_ciT], fun ss => z_if_nx (ec.trans rfl) (z_asg_es (t := .nd .lst true ((cutT (lkL L) none (some 2)).map pT)) ?_ (by simp [S, asgT, frS, frSg, sK]) z_nil) rfl⟩
      · rw [List.length_map, cutT, HT.sIx_none, List.length_take]
        have : HT.sIx (lkL L).length (lkL L).length (some ((2 : Nat) : Int)) ≤ 2 := by rw [HT.sIx_nat]; omega
        have h2 : HT.sIx (lkL L).length (lkL L).length (some 2) ≤ 2 := this
        omega
      · show ev _ [none, none, none, none, some LK, none, none, none, none, none, none, none, none, none, none, none, none, none] _ = _
        have := ev_lc (C := mkC T (k + 10)) (env := [none, none, none, none, some LK, none, none, none, none, none, none, none, none, none, none, none, none, none]) (tg := .nm 17) (it := .seq (.slc (.var 4) [] [.lit (.int 2)])) (elt := .slc (.var 17) [] [.lit (.int 2)]) (ifs := []) (ys := cutT (lkL L) none (some 2)) (f := lkT L.es) (fun _ => true) pT (evi_seq (ev_slc2 (x := LK) (by simp [ev, getS, sK]) |>.trans (by rw [hLK]; exact sl_lk _ _ _ _ _)) rfl) (Nat.le_trans (len_cutT _ _ _) (by omega)) fun e he =>
          ⟨[none, none, none, none, some LK, none, none, none, none, none, none, none, none, none, none, none, none, some (lkT L.es e)], rfl, rfl, fun _ => by rw [ev_slc2 (x := lkT L.es e) (by simp [ev, getS, strip_lkT]), sl_lk2]⟩
        rw [this, List.filter_eq_self.mpr fun _ _ => rfl]
  obtain ⟨l, v9, hl, h9, way⟩ := way
  refine zp ?_ (way _)
  obtain ⟨m, em⟩ : ∃ m : Int, ∀ env : Env, getS env 1 = some NN → getS env 5 = some (nT p) → getS env 6 = some (nT q) → ev (mkC T (k + 10)) env (.lst [.lit (.int 6), .bin .Mod (.b1 .int (.sub (.var 1) (.bin .Add (.bin .Add (.lit (.int 30)) (.bin .Mult (.lit (.int 5)) (.var 5))) (.var 6)))) (.lit (.int 6))]) = .ok (.nd .lst true [.int 6, .int m]) := by
    refine ⟨vN N (30 + 5 * p + q) % 6, fun env h1 h2 h3 => ?_⟩
    have hmul := bin_mul_l (p : Int) (i := 5) (by decide) (by decide)
    have e1 : ev (mkC T (k + 10)) env (.bin .Add (.bin .Add (.lit (.int 30)) (.bin .Mult (.lit (.int 5)) (.var 5))) (.var 6)) = .ok (.int ((30 + 5 * p + q : Nat) : Int)) := by
      rw [ev_bin (x := .int (30 + 5 * (p : Int))) (y := nT q) (by rw [ev_bin (x := .int 30) (y := .int (5 * (p : Int))) (by rw [ev]) (by rw [ev_bin (x := .int 5) (y := nT p) (by rw [ev]) (by simp [ev, h2])]; exact hmul), bin_add]) (by simp [ev, h3]), nT, bin_add]
      congr 2
    have e2 : ev (mkC T (k + 10)) env (.sub (.var 1) (.bin .Add (.bin .Add (.lit (.int 30)) (.bin .Mult (.lit (.int 5)) (.var 5))) (.var 6))) = .ok (.int (vN N (30 + 5 * p + q))) := by
      rw [ev_sub (x := NN) (by simp [ev, h1, sN]) e1, hNN]
      exact ix_N _ hN
    have e3 : ev (mkC T (k + 10)) env (.bin .Mod (.b1 .int (.sub (.var 1) (.bin .Add (.bin .Add (.lit (.int 30)) (.bin .Mult (.lit (.int 5)) (.var 5))) (.var 6)))) (.lit (.int 6))) = .ok (.int (vN N (30 + 5 * p + q) % 6)) := by
      rw [ev_bin (ev_b1 e2 (b1_int _)) (y := .int 6) (by rw [ev]), bin_mod _ (by decide)]
    rw [ev, evs, ev, bnd_ok, evs, e3]
    simp [evs, sz2]
  let R5 : Rb.T → Option Rb.T → Option Rb.T → Option Rb.T → Option Rb.T → Option Rb.T → Option Rb.T → Env := fun v3 v4 v9 v10 v14 v15 v16 => [some W, some NN, some (paT L), some v3, v4, some (nT p), some (nT q), some (wayS o), none, v9, v10, some (.str a), some (.str b), none, v14, v15, v16, none]
  refine z_forP (f := Rb.T.int) (fun (_ : List Int) env => ∃ (v3 v9 : Rb.T), env = R5 v3 (some LK) (some v9) none none none none ∧ strip v3 = G ∧ strip v9 = .nd .lst false (l.map ciT)) (ys := [6, m]) (e0 := R5 v3 (some LK) (some v9) none none none none) ?_ ⟨v3, v9, rfl, h3, h9⟩ ?_ ?_
  · have := evF_seq (C := mkC T (k + 10)) (env := R5 v3 (some LK) (some v9) none none none none) (fv := [1, 5, 6]) (em [none, some NN, none, none, none, some (nT p), some (nT q), none, none, none, none, none, none, none, none, none, none, none] rfl rfl rfl) rfl
    show evF _ (R5 v3 (some LK) (some v9) none none none none) _ _ _ = _
    rw [this]
    simp [R5, frS, frSg, sN]
  · rintro _ n l5 ⟨v3, v9, rfl, h3, h9⟩
    obtain ⟨V9, hV9⟩ : ∃ W : Rb.T, W = .nd .lst false (l.map ciT) := ⟨_, rfl⟩
    have s9 : strip V9 = V9 := by rw [hV9]; simp [strip, strips_ciT]
    rw [← hV9] at h9
    obtain ⟨l', hl', e14⟩ : ∃ l' : List (Int × Int), l'.length ≤ 10000 ∧ ev (mkC T (k + 10)) [none, none, none, none, some LK, none, none, none, none, some v9, some (.int n), none, none, none, none, none, none, none] (.ifx (.cmp .Lt (.var 10) (.lit (.int 6))) (.call "_law_spoilt" [.var 9, .var 10, .var 4]) (.b1 .list (.var 9))) = .ok (.nd .lst true (l'.map ciT)) := by
      have ec : ev (mkC T (k + 10)) [none, none, none, none, some LK, none, none, none, none, some v9, some (.int n), none, none, none, none, none, none, none] (.cmp .Lt (.var 10) (.lit (.int 6))) = .ok (.bl (decide (n < 6))) := by
        rw [ev_cmp (x := .int n) (y := .int 6) (by simp [ev, getS]) (by rw [ev]), cmp_lt]
      by_cases z : n < 6
      · obtain ⟨l', h1, h2⟩ := spoilt_ok hS (k + 9) hl n L.es (lkL L)
        refine ⟨l', h1, ?_⟩
        rw [ev, ec, bnd_ok, truth_bl, bnd_ok, decide_eq_true z, if_pos rfl, ev_call (ts := [V9, .int n, LK]) (by simp [evs, ev, getS, sK, h9])]
        simp only [strips, strip_int, sK, s9]
        rw [hV9, hLK]
        exact h2
      · refine ⟨l, by omega, ?_⟩
        rw [ev, ec, bnd_ok, truth_bl, bnd_ok, decide_eq_false z, if_neg (by simp)]
        rw [ev_b1 (x := V9) (y := .nd .lst true (l.map ciT)) (by simp [ev, getS, h9]) (by rw [hV9, list_lst, strips_ciT])]
    obtain ⟨V, hV⟩ : ∃ W : Rb.T, W = .nd .lst false (l'.map ciT) := ⟨_, rfl⟩
    have sV : strip V = V := by rw [hV]; simp [strip, strips_ciT]
    have sV' : strip (.nd .lst true (l'.map ciT)) = V := by rw [hV]; simp [strip, strips_ciT]
    refine ⟨R5 v3 (some LK) (some v9) (some (.int n)) none none none, R5 G (some LK) (some V9) (some (.int n)) (some V) (some V) (some (.bl (wyB L l' a b))), rfl, .inl ?_, G, V9, rfl, sG, by rw [s9, hV9]⟩
    refine z_asg_es (t := .nd .lst true (l'.map ciT)) (env' := R5 v3 (some LK) (some V9) (some (.int n)) (some (.nd .lst true (l'.map ciT))) none none) e14 (by simp [R5, asgT, frS, frSg, sK, h9]) ?_
    refine z_asg_es (t := .nd .lst true (l'.map ciT)) (env' := R5 v3 (some LK) (some V9) (some (.int n)) (some V) (some (.nd .lst true (l'.map ciT))) none) ?_ (by simp [R5, asgT, frS, frSg, sV']) ?_
    · show ev _ [none, none, none, none, none, none, none, none, none, none, none, none, none, none, some (.nd .lst true (l'.map ciT)), none, none, none] _ = _
      rw [ev_b1 (x := V) (y := .nd .lst true (l'.map ciT)) (by simp [ev, getS, sV']) (by rw [hV, list_lst, strips_ciT])]
    refine z_asg_es (t := .bl (wyB L l' a b)) (env' := R5 G (some LK) (some V9) (some (.int n)) (some V) (some V) (some (.bl (wyB L l' a b)))) ?_ (by simp [R5, asgT, frS, frSg, sV', h3]) (z_if_f (ev_or3 (ev_no (b := true) ?_) ?_ ?_) z_nil)
    · show ev _ [none, none, none, some v3, none, none, none, none, none, none, none, some (.str a), some (.str b), none, none, some (.nd .lst true (l'.map ciT)), none, none] _ = _
      rw [ev_call (ts := [G, V, .str a, .str b]) (by simp [evs, ev, getS, h3, sV'])]
      simp only [strips, strip_str, sG, sV]
      rw [hG, hV]
      exact is_way_ok hL hm hk hi L (k + 2) w wd (by omega) ha hb
    · simp [R5, ev, getS, isiT]
    · have e1 : ev (mkC T (k + 10)) (R5 G (some LK) (some V9) (some (.int n)) (some V) (some V) (some (.bl (wyB L l' a b)))) (.call "_law_is_way" [.var 4, .var 14, .var 11, .var 12]) = .ok (.bl (wyB L l' a b)) := by
        rw [ev_call (ts := [LK, V, .str a, .str b]) (by simp [R5, evs, ev, getS, sK, sV])]
        simp only [strips, strip_str, sK, sV]
        rw [hLK, hV]
        exact law_is_way_ok hS (k + 9) L w wd (by omega) (by omega)
      rw [ev_cmp (x := .bl (wyB L l' a b)) (by simp [R5, ev, getS]) e1, cmp_ne, eqr_b, bnd_ok, beq_self_eq_true]
      rfl
    · rw [ev_cmp (x := V) (y := V) (by simp [R5, ev, getS, sV]) (by simp [R5, ev, getS, sV]), cmp_ne, hV, eqR_cil, bnd_ok, decide_eq_true rfl]
      rfl
  · rintro _ ⟨v3, v9, rfl, h3, h9⟩
    exact ⟨_, v3, LK, z_nil, h3, sK, rfl⟩
end
section
variable {T : Tab} (hL : LogTab T) (hm : NamTab T) (hk : ChkTab T) (hT : LenTab T) (hy : WayTab T) (hi : IswTab T) (hF : LfwTab T) (hS : LiwTab T) (hK : LnkTab T) (hl : T.at (.fn "law") = some (18, 1, y_k10_law)) (k : Nat)
include hL hm hk hT hy hi hF hS hK hl
theorem tr_k10 (ns : List Int) (hn : ns.length ≤ 63) : (mkC T (k + 11)).fn "law" [.nd .ext false (ns.map .int)] = .ok (.bl true) := by
  rw [fn_of hl]
  obtain ⟨N, hN, eN⟩ := numbers_ok hL (k + 8) ns hn (m := 60) (by decide)
  obtain ⟨L, hD, hi5, eL⟩ := log_ok2 hL (k + 9) (N := N) (at' := 0) (mi := 5) (me := 14) (by omega) (by decide) (by decide) (by decide)
  have w := hD.wf (by decide)
  have wd := hD.wfd
  have eM := made_ok hL (k + 6) (hD.fit (by decide))
  obtain ⟨W, hW⟩ : ∃ W : Rb.T, W = .nd .ext false (ns.map .int) := ⟨_, rfl⟩
  have sW : strip W = W := by rw [hW]; simp [strip, strips_ints]
  obtain ⟨U, hU⟩ : ∃ U : Rb.T, U = .nd .lst true (N.map .int) := ⟨_, rfl⟩
  have sU : strip U = .nd .lst false (N.map .int) := by rw [hU]; simp [strip, strips_ints]
  have sU2 : strip (.nd .lst false (N.map .int)) = .nd .lst false (N.map .int) := by simp [strip, strips_ints]
  have sP : strip (paO L) = paT L := by simp [paO, paT, strip, strips, strips_strs, strips_js, strips_evs]
  rw [← hW]
  refine call_rt (env := [some W, none, none, none, none, none, none, none, none, none, none, none, none, none, none, none, none, none]) rfl (by simp [env0, strips, sW]) ?_
  refine z_asg_es (t := U) (env' := [some W, some U, none, none, none, none, none, none, none, none, none, none, none, none, none, none, none, none]) ?_ (by simp [asgT, frS, frSg, sW]) ?_
  · show ev _ [some W, none, none, none, none, none, none, none, none, none, none, none, none, none, none, none, none, none] _ = _
    rw [ev_call (ts := [W, .int 60]) (by simp [evs, ev, getS, sW])]
    simp only [strips, sW, strip_int]
    rw [hW, hU]; exact eN
  refine z_asg_es (t := paO L) (env' := [some W, some (.nd .lst false (N.map .int)), some (paO L), none, none, none, none, none, none, none, none, none, none, none, none, none, none, none]) ?_ (by simp [asgT, frS, frSg, sU]) ?_
  · show ev _ [none, some U, none, none, none, none, none, none, none, none, none, none, none, none, none, none, none, none] _ = _
    rw [ev_call (ts := [.nd .lst false (N.map .int), .int 0, .int 5, .int 14]) (by simp [evs, ev, getS, sU])]
    simp only [strips, sU2, strip_int]
    exact eL
  refine z_asg_es (t := lgO L) (env' := [some W, some (.nd .lst false (N.map .int)), some (paT L), some (lgO L), none, none, none, none, none, none, none, none, none, none, none, none, none, none]) ?_ (by simp [asgT, frS, frSg, sP]) ?_
  · show ev _ [none, none, some (paO L), none, none, none, none, none, none, none, none, none, none, none, none, none, none, none] _ = _
    rw [ev_call (ts := [paT L]) (by simp [evs, ev, getS, sP])]
    simp only [strips, strip_pa]
    exact eM
  refine z_asg_es (t := .nd .lst true ((lkL L).map (lkT L.es))) (env' := [some W, some (.nd .lst false (N.map .int)), some (paT L), some (lgO L), some (.nd .lst true ((lkL L).map (lkT L.es))), none, none, none, none, none, none, none, none, none, none, none, none, none]) ?_ (by simp [asgT, frS, frSg]) ?_
  · show ev _ [none, none, some (paT L), none, none, none, none, none, none, none, none, none, none, none, none, none, none, none] _ = _
    rw [ev_call (ts := [paT L]) (by simp [evs, ev, getS])]
    simp only [strips, strip_pa]
    exact law_links_ok hK L (k + 7) w
  have sLK : strip (.nd .lst true ((lkL L).map (lkT L.es))) = .nd .lst false ((lkL L).map (lkT L.es)) := by simp [strip, strips_lkT]
  have iV : ∀ env : Env, getS env 2 = some (paT L) → ev (mkC T (k + 10)) env (.b1 .len (.sub (.var 2) (.lit (.int 0)))) = .ok (.int L.items.length) := fun env he =>
    ev_b1 (x := .nd .lst false (L.items.map .str)) (by simp [ev, he, pa_items]) (by rw [len_lst, List.length_map])
  have hlen := w.it_len
  let S : Rb.T → Rb.T → Option Rb.T → Env := fun v3 v4 v5 => [some W, some (.nd .lst false (N.map .int)), some (paT L), some v3, some v4, v5, none, none, none, none, none, none, none, none, none, none, none, none]
  let P : SR → Prop := fun r => r = .rt (.bl true)
  show P _
  refine z_forP (f := nT) (fun (l : List Nat) env => (∃ v3 v4, env = S v3 v4 none ∧ strip v3 = lgT L ∧ strip v4 = .nd .lst false ((lkL L).map (lkT L.es))) ∧ ∀ y ∈ l, y < L.items.length) (ys := List.range L.items.length) (e0 := S (lgO L) (.nd .lst true ((lkL L).map (lkT L.es))) none) (evF_rng (iV _ rfl) (by omega)) ⟨⟨_, _, rfl, strip_lgO L, sLK⟩, fun y hy => List.mem_range.mp hy⟩ ?_ ?_
  · rintro _ p l ⟨⟨v3, v4, rfl, h3, h4⟩, hl⟩
    have hp := hl p List.mem_cons_self
    have hpa : L.items[p]? = some L.items[p] := List.getElem?_eq_getElem hp
    have inner : ∃ v3' v4', strip v3' = lgT L ∧ strip v4' = .nd .lst false ((lkL L).map (lkT L.es)) ∧ execs (mkC T (k + 10)) y_k10_b5 (S v3 v4 (some (nT p))) = .nx (S v3' v4' (some (nT p))) := by
      let Q : SR → Prop := fun r => ∃ v3' v4', strip v3' = lgT L ∧ strip v4' = .nd .lst false ((lkL L).map (lkT L.es)) ∧ r = .nx (S v3' v4' (some (nT p)))
      show Q _
      refine z_forP (f := nT) (fun (l : List Nat) env => (∃ v3 v4, env = S v3 v4 (some (nT p)) ∧ strip v3 = lgT L ∧ strip v4 = .nd .lst false ((lkL L).map (lkT L.es))) ∧ ∀ y ∈ l, y < L.items.length) (ys := List.range L.items.length) (e0 := S v3 v4 (some (nT p))) (evF_rng (iV _ rfl) (by omega)) ⟨⟨_, _, rfl, h3, h4⟩, fun y hy => List.mem_range.mp hy⟩ ?_ ?_
      · rintro _ q l ⟨⟨v3, v4, rfl, h3, h4⟩, hl⟩
        have hq := hl q List.mem_cons_self
        have hqa : L.items[q]? = some L.items[q] := List.getElem?_eq_getElem hq
        obtain ⟨e2, v3', v4', g1, g2, g3, g4⟩ := pair_ok hL hm hk hT hy hi hF hS k L w wd (W := W) (N := N) hpa hqa (by omega) h3 h4
        exact ⟨_, e2, rfl, .inl g1, ⟨v3', v4', g4, g2, g3⟩, fun y hy => hl y (List.mem_cons_of_mem _ hy)⟩
      · rintro _ ⟨⟨v3, v4, rfl, h3, h4⟩, _⟩
        exact ⟨v3, v4, h3, h4, z_nil⟩
    obtain ⟨v3', v4', g1, g2, g3⟩ := inner
    exact ⟨_, _, rfl, .inl g3, ⟨v3', v4', rfl, g1, g2⟩, fun y hy => hl y (List.mem_cons_of_mem _ hy)⟩
  · rintro _ ⟨⟨v3, v4, rfl, h3, h4⟩, _⟩
    exact z_ret_rd (by rw [ev]) rfl
end
end Rb
namespace K10
open PySem
open PySem.Spec
open L2
open Rb
def prg : Program := PySem.Challenge.pw_risingbars_k10_first_ways
def top (i : Nat) : Stmt := prg.main.body.getD i (.Pass ⟨0, 0, 0, 0⟩)
def kid (i j : Nat) : Stmt := match top i with
  | .ClassDef (body := b) .. => b.getD j (.Pass ⟨0, 0, 0, 0⟩)
  | _ => .Pass ⟨0, 0, 0, 0⟩
/-- check_items -/
abbrev x_d_check_items : List IS := [.floop (.nm 2) false [1] (.seq (.var 1)) [2] [.iff (.cmp .NotIn (.var 2) (.att (.var 0) "item_names")) [.nev] []]]
def d_check_items : DefT := ⟨.fn "check_items", "check_items", "check_items", defArgs (top 8), defBody (top 8), defScope (top 8), ["log", "items"], ["log", "items", "item"], x_d_check_items⟩
/-- is_link -/
abbrev x_d_is_link : List IS := [.iff (.bo .Or [.no (.mth (.var 0) "is_answer" [.var 1]), .no (.mth (.var 0) "is_answer" [.var 2]), .no (.mth (.var 0) "in_order" [.var 1, .var 2])]) [.ret (.rd (.lit (.bl false)))] [], .ret (.rd (.cmp .Lt (.mth (.var 0) "grade_at" [.var 1]) (.mth (.var 0) "grade_at" [.var 2])))]
def d_is_link : DefT := ⟨.fn "is_link", "is_link", "is_link", defArgs (top 9), defBody (top 9), defScope (top 9), ["log", "first", "second"], ["log", "first", "second"], x_d_is_link⟩
/-- links_in -/
abbrev x_d_links_in : List IS := [.asg (.nm 3) (.es [0, 2] (.dc (.var 7) (.mth (.var 0) "grade_at" [.var 7]) (.nm 7) (.seq (.var 2)) [])), .asg (.nm 4) (.rd (.lst [])), .floop (.nm 5) false [2] (.seq (.var 2)) [5, 6] [.floop (.nm 6) false [2] (.seq (.var 2)) [6] [.iff (.bo .And [.cmp .Lt (.sub (.var 3) (.var 5)) (.sub (.var 3) (.var 6)), .bo .Or [.cmp .Eq (.var 1) (.lit (.str "stays")), .cmp .Eq (.cmp .Lt (.var 5) (.var 6)) (.cmp .Eq (.var 1) (.lit (.str "rises")))]]) [.app 4 [] (.es [5, 6] (.tup [.var 5, .var 6]))] []]], .ret (.mv 4)]
def d_links_in : DefT := ⟨.fn "links_in", "links_in", "links_in", defArgs (top 10), defBody (top 10), defScope (top 10), ["log", "drift", "stretch"], ["log", "drift", "stretch", "grades", "found", "first", "second", "place"], x_d_links_in⟩
/-- links_of -/
abbrev x_d_links_of : List IS := [.asg (.nm 1) (.rd (.lst [])), .floop (.tp [.nm 2, .nm 3]) false [0] (.seq (.att (.var 0) "judges")) [2, 3, 4] [.floop (.nm 4) false [0, 2] (.seq (.mth (.var 0) "stretches" [.var 2])) [4] [.ext 1 (.es [0, 3, 4] (.call "links_in" [.var 0, .var 3, .var 4]))]], .ret (.es [1] (.srt (.var 1)))]
def d_links_of : DefT := ⟨.fn "links_of", "links_of", "links_of", defArgs (top 11), defBody (top 11), defScope (top 11), ["log"], ["log", "found", "judge", "drift", "stretch"], x_d_links_of⟩
/-- ends_of -/
abbrev x_d_ends_of : List IS := [.asg (.nm 1) (.es [0] (.dc (.var 2) (.mth (.var 0) "item_at" [.var 2]) (.nm 2) (.seq (.mth (.var 0) "answers" [])) [])), .ret (.es [0, 1] (.lc (.tup [.tup [.var 3, .var 4], .sub (.var 1) (.var 3), .sub (.var 1) (.var 4)]) (.tp [.nm 3, .nm 4]) (.seq (.call "links_of" [.var 0])) []))]
def d_ends_of : DefT := ⟨.fn "ends_of", "ends_of", "ends_of", defArgs (top 12), defBody (top 12), defScope (top 12), ["log"], ["log", "items", "place", "first", "second"], x_d_ends_of⟩
/-- lengths_to -/
abbrev x_d_lengths_to : List IS := [.asg (.nm 2) (.es [1] (.d1 1 (0))), .asg (.nm 3) (.es [1] (.lst [.var 1])), .whl (.var 3) [4, 5, 6, 7] [.pop0 4 3, .floop (.tp [.nm 5, .nm 6, .nm 7]) false [0] (.seq (.var 0)) [5, 6, 7] [.iff (.bo .And [.cmp .Eq (.var 7) (.var 4), .cmp .NotIn (.var 6) (.var 2)]) [.put 2 [] (.var 6) (.rd (.bin .Add (.sub (.var 2) (.var 4)) (.lit (.int 1)))), .app 3 [] (.es [6] (.var 6))] []]], .ret (.mv 2)]
def d_lengths_to : DefT := ⟨.fn "lengths_to", "lengths_to", "lengths_to", defArgs (top 13), defBody (top 13), defScope (top 13), ["ends", "better"], ["ends", "better", "lengths", "queue", "here", "_", "begin", "end"], x_d_lengths_to⟩
/-- first_way -/
abbrev x_d_first_way : List IS := [.asg (.nm 3) (.es [0, 2] (.call "lengths_to" [.var 0, .var 2])), .asg (.nm 4) (.rd (.mxd false (.lc (.sub (.var 3) (.var 10)) (.tp [.nm 8, .nm 9, .nm 10]) (.seq (.var 0)) [.bo .And [.cmp .Eq (.var 9) (.var 1), .cmp .In (.var 10) (.var 3)]]) (.lit .non))), .iff (.cmp .Is (.var 4) (.lit .non)) [.ret (.rd (.lit .non))] [], .asg (.nm 5) (.rd (.lst [])), .asg (.nm 6) (.es [1] (.var 1)), .whl (.cmp .GtE (.var 4) (.lit (.int 0))) [] [.asg (.tp [.nm 7, .nm 6]) (.es [0, 3, 4, 6, 7] (.sub (.lc (.tup [.var 7, .var 10]) (.tp [.nm 7, .nm 9, .nm 10]) (.seq (.var 0)) [.bo .And [.cmp .Eq (.var 9) (.var 6), .cmp .Eq (.gt (.var 3) (.var 10)) (.var 4)]]) (.lit (.int 0)))), .app 5 [] (.es [7] (.var 7)), .aug 4 false (.lit (.int 1))], .ret (.mv 5)]
def d_first_way : DefT := ⟨.fn "first_way", "first_way", "first_way", defArgs (top 14), defBody (top 14), defScope (top 14), ["ends", "worse", "better"], ["ends", "worse", "better", "lengths", "left", "way", "here", "link", "_", "begin", "end"], x_d_first_way⟩
/-- way_between -/
abbrev x_d_way_between : List IS := [.exp (.call "check_items" [.var 0, .lst [.var 1, .var 2]]), .ret (.es [0, 1, 2] (.call "first_way" [.call "ends_of" [.var 0], .var 1, .var 2]))]
def d_way_between : DefT := ⟨.fn "way_between", "way_between", "way_between", defArgs (top 15), defBody (top 15), defScope (top 15), ["log", "worse", "better"], ["log", "worse", "better"], x_d_way_between⟩
/-- is_way -/
abbrev x_d_is_way : List IS := [.exp (.call "check_items" [.var 0, .lst [.var 2, .var 3]]), .asg (.nm 4) (.es [2] (.var 2)), .floop (.tp [.nm 5, .nm 6]) false [1] (.seq (.var 1)) [5, 6] [.iff (.bo .Or [.no (.call "is_link" [.var 0, .var 5, .var 6]), .cmp .NotEq (.mth (.var 0) "item_at" [.var 5]) (.var 4)]) [.ret (.rd (.lit (.bl false)))] [], .asg (.nm 4) (.es [0, 6] (.mth (.var 0) "item_at" [.var 6]))], .ret (.rd (.bo .And [.cmp .Gt (.b1 .len (.var 1)) (.lit (.int 0)), .cmp .Eq (.var 4) (.var 3)]))]
def d_is_way : DefT := ⟨.fn "is_way", "is_way", "is_way", defArgs (top 16), defBody (top 16), defScope (top 16), ["log", "way", "worse", "better"], ["log", "way", "worse", "better", "here", "first", "second"], x_d_is_way⟩
/-- is_name -/
abbrev x_d_is_name : List IS := [.ret (.rd (.bo .And [.chain .LtE .LtE (.lit (.int 1)) (.b1 .len (.var 0)) (.lit (.int 12)), .b1 .all (.lc (.cmp .In (.var 1) (.glb "LETTERS" (.inr "abcdefghijklmnopqrstuvwxyz0123456789"))) (.nm 1) (.seq (.var 0)) [])]))]
def d_is_name : DefT := ⟨.fn "is_name", "is_name", "is_name", defArgs (top 28), defBody (top 28), defScope (top 28), ["text"], ["text", "sign"], x_d_is_name⟩
/-- is_drift -/
abbrev x_d_is_drift : List IS := [.ret (.rd (.cmp .In (.var 0) (.tup [.glb "RISES" (.inr "rises"), .glb "FALLS" (.inr "falls"), .glb "STAYS" (.inr "stays")])))]
def d_is_drift : DefT := ⟨.fn "is_drift", "is_drift", "is_drift", defArgs (top 29), defBody (top 29), defScope (top 29), ["text"], ["text"], x_d_is_drift⟩
/-- are_names -/
abbrev x_d_are_names : List IS := [.ret (.rd (.bo .And [.chain .LtE .LtE (.lit (.int 1)) (.b1 .len (.var 0)) (.var 1), .b1 .all (.lc (.call "is_name" [.var 2]) (.nm 2) (.seq (.var 0)) []), .cmp .Eq (.lset (.var 0)) (.b1 .len (.var 0))]))]
def d_are_names : DefT := ⟨.fn "are_names", "are_names", "are_names", defArgs (top 30), defBody (top 30), defScope (top 30), ["texts", "most"], ["texts", "most", "text"], x_d_are_names⟩
/-- is_event -/
abbrev x_d_is_event : List IS := [.iff (.bo .And [.cmp .Eq (.b1 .len (.var 0)) (.lit (.int 2)), .cmp .Eq (.sub (.var 0) (.lit (.int 0))) (.glb "RESET" (.inr "reset"))]) [.ret (.rd (.cmp .In (.sub (.var 0) (.lit (.int 1))) (.var 3)))] [], .iff (.bo .Or [.cmp .NotEq (.b1 .len (.var 0)) (.lit (.int 4)), .cmp .NotEq (.sub (.var 0) (.lit (.int 0))) (.glb "ANSWER" (.inr "answer"))]) [.ret (.rd (.lit (.bl false)))] [], .ret (.rd (.bo .And [.cmp .In (.sub (.var 0) (.lit (.int 1))) (.var 3), .cmp .In (.sub (.var 0) (.lit (.int 2))) (.var 1), .chain .LtE .LtE (.lit (.int 0)) (.sub (.var 0) (.lit (.int 3))) (.var 2)]))]
def d_is_event : DefT := ⟨.fn "is_event", "is_event", "is_event", defArgs (top 31), defBody (top 31), defScope (top 31), ["event", "items", "grades", "judges"], ["event", "items", "grades", "judges"], x_d_is_event⟩
/-- is_first -/
abbrev x_d_is_first : List IS := [.ret (.rd (.bo .Or [.cmp .Eq (.var 0) (.glb "STAYS" (.inr "stays")), .ifx (.cmp .Eq (.var 0) (.glb "RISES" (.inr "rises"))) (.cmp .LtE (.var 1) (.var 2)) (.cmp .GtE (.var 1) (.var 2))]))]
def d_is_first : DefT := ⟨.fn "is_first", "is_first", "is_first", defArgs (top 32), defBody (top 32), defScope (top 32), ["drift", "one", "other"], ["drift", "one", "other"], x_d_is_first⟩
/-- _law_row -/
abbrev x_d__law_row : List IS := [.asg (.nm 2) (.rd (.lst [])), .asg (.nm 3) (.rd (.lit (.int 0))), .iff (.cmp .GtE (.b1 .abs (.var 0)) (.bin .Pow (.lit (.int 10)) (.lit (.int 18)))) [.asg (.nm 3) (.rd (.b1 .abs (.var 0)))] [], .asg (.nm 4) (.rd (.bin .Mod (.b1 .int (.b1 .abs (.var 0))) (.lit (.int 2147483647)))), .floop (.nm 5) false [1] (.rng1 (.var 1)) [5] [.asg (.nm 4) (.rd (.bin .Mod (.b1 .int (.bin .Add (.bin .Mult (.bin .Add (.var 4) (.lit (.int 1))) (.lit (.int 48271))) (.bin .Mult (.lit (.int 69621)) (.var 5)))) (.lit (.int 2147483647)))), .iff (.cmp .Gt (.var 3) (.lit (.int 0))) [.app 2 [] (.rd (.bin .Mod (.b1 .int (.var 3)) (.lit (.int 1009)))), .asg (.nm 3) (.rd (.bin .FloorDiv (.var 3) (.lit (.int 1009))))] [.app 2 [] (.rd (.bin .Mod (.b1 .int (.bin .FloorDiv (.var 4) (.lit (.int 2048)))) (.lit (.int 1009))))]], .ret (.mv 2)]
def d__law_row : DefT := ⟨.fn "_law_row", "_law_row", "_law_row", defArgs (top 35), defBody (top 35), defScope (top 35), ["_law_cell", "_law_many"], ["_law_cell", "_law_many", "_law_row_here", "_law_rest", "_law_state", "_law_k"], x_d__law_row⟩
/-- _law_numbers -/
abbrev x_d__law_numbers : List IS := [.asg (.nm 2) (.es [0] (.slc (.var 0) [] [.lit (.int 63)])), .asg (.nm 3) (.rd (.bin .Add (.lit (.int 1)) (.bin .FloorDiv (.var 1) (.b2 true (.lit (.int 1)) (.b1 .len (.var 2)))))), .asg (.nm 4) (.rd (.lst [])), .floop (.nm 5) false [2] (.seq (.var 2)) [5, 6] [.floop (.nm 6) false [3, 5] (.seq (.call "_law_row" [.var 5, .var 3])) [6] [.app 4 [] (.es [6] (.var 6))]], .whl (.cmp .Lt (.b1 .len (.var 4)) (.var 1)) [] [.app 4 [] (.rd (.lit (.int 0)))], .ret (.es [1, 4] (.slc (.var 4) [] [.var 1]))]
def d__law_numbers : DefT := ⟨.fn "_law_numbers", "_law_numbers", "_law_numbers", defArgs (top 36), defBody (top 36), defScope (top 36), ["_law_script", "_law_many"], ["_law_script", "_law_many", "_law_cells", "_law_each", "_law_numbers_here", "_law_cell", "_law_number"], x_d__law_numbers⟩
/-- _law_log -/
abbrev x_d__law_log : List IS := [.asg (.nm 4) (.es [0, 1, 2] (.slc (.lst [.lit (.str "a"), .lit (.str "b"), .lit (.str "it3"), .lit (.str "c4"), .lit (.str "z"), .lit (.str "0")]) [] [.bin .Add (.lit (.int 1)) (.bin .Mod (.b1 .int (.sub (.var 0) (.var 1))) (.var 2))])), .asg (.nm 5) (.es [0, 1] (.sub (.lst [.lit (.int 1), .lit (.int 1), .lit (.int 2), .lit (.int 3), .lit (.int 9)]) (.bin .Mod (.b1 .int (.sub (.var 0) (.bin .Add (.var 1) (.lit (.int 1))))) (.lit (.int 5))))), .asg (.nm 6) (.rd (.lst [])), .floop (.nm 7) false [0, 1] (.rng1 (.bin .Add (.lit (.int 1)) (.bin .Mod (.b1 .int (.sub (.var 0) (.bin .Add (.var 1) (.lit (.int 2))))) (.lit (.int 3))))) [] [.app 6 [] (.es [0, 1, 7] (.tup [.sub (.lst [.lit (.str "ann"), .lit (.str "b"), .lit (.str "7")]) (.var 7), .sub (.lst [.lit (.str "rises"), .lit (.str "falls"), .lit (.str "rises"), .lit (.str "falls"), .lit (.str "stays")]) (.bin .Mod (.b1 .int (.sub (.var 0) (.bin .Add (.bin .Add (.var 1) (.lit (.int 3))) (.var 7)))) (.lit (.int 5)))]))], .asg (.nm 8) (.es [0, 1, 4, 7] (.lc (.bin .Mod (.b1 .int (.sub (.var 0) (.bin .Add (.bin .Add (.var 1) (.lit (.int 6))) (.var 7)))) (.lit (.int 7))) (.nm 7) (.rng1 (.b1 .len (.var 4))) [])), .asg (.nm 9) (.rd (.lst [])), .floop (.nm 7) false [0, 1, 3] (.rng1 (.bin .Mod (.b1 .int (.sub (.var 0) (.bin .Add (.var 1) (.lit (.int 12))))) (.bin .Add (.var 3) (.lit (.int 1))))) [7, 10, 11, 12, 13, 14, 15] [.asg (.nm 10) (.rd (.b1 .int (.sub (.var 0) (.bin .Add (.bin .Add (.var 1) (.lit (.int 13))) (.var 7))))), .asg (.nm 11) (.rd (.sub (.var 6) (.bin .Mod (.b1 .int (.var 10)) (.b1 .len (.var 6))))), .asg (.nm 12) (.rd (.bin .Mod (.b1 .int (.bin .FloorDiv (.var 10) (.lit (.int 3)))) (.lit (.int 9)))), .asg (.nm 13) (.rd (.bin .Mod (.b1 .int (.bin .FloorDiv (.var 10) (.lit (.int 27)))) (.b1 .len (.var 4)))), .asg (.nm 14) (.es [7] (.var 7)), .iff (.cmp .Eq (.sub (.var 11) (.lit (.int 1))) (.lit (.str "falls"))) [.asg (.nm 14) (.es [3, 7] (.bin .Sub (.var 3) (.var 7)))] [], .asg (.nm 15) (.rd (.b2 true (.lit (.int 0)) (.b2 false (.var 5) (.bin .Sub (.sub (.var 8) (.var 13)) (.b1 .int (.bin .FloorDiv (.bin .Mult (.var 14) (.lit (.int 5))) (.bin .Add (.var 3) (.lit (.int 1))))))))), .iff (.cmp .Eq (.var 12) (.lit (.int 0))) [.app 9 [] (.es [11] (.tup [.lit (.str "reset"), .sub (.var 11) (.lit (.int 0))]))] [.iff (.bo .Or [.cmp .Eq (.var 12) (.lit (.int 1)), .bo .And [.cmp .Eq (.sub (.var 11) (.lit (.int 1))) (.lit (.str "stays")), .cmp .Lt (.var 12) (.lit (.int 5))]]) [.asg (.nm 15) (.rd (.bin .Mod (.b1 .int (.bin .FloorDiv (.var 10) (.lit (.int 31)))) (.bin .Add (.var 5) (.lit (.int 1)))))] [], .app 9 [] (.es [4, 11, 13, 15] (.tup [.lit (.str "answer"), .sub (.var 11) (.lit (.int 0)), .sub (.var 4) (.var 13), .var 15]))]], .ret (.es [4, 5, 6, 9] (.tup [.var 4, .var 5, .var 6, .var 9]))]
def d__law_log : DefT := ⟨.fn "_law_log", "_law_log", "_law_log", defArgs (top 37), defBody (top 37), defScope (top 37), ["_law_numbers_here", "_law_at", "_law_most_items", "_law_most_events"], ["_law_numbers_here", "_law_at", "_law_most_items", "_law_most_events", "_law_items", "_law_grades", "_law_judges", "_law_k", "_law_hidden", "_law_events", "_law_value", "_law_judge", "_law_kind", "_law_place", "_law_bar", "_law_grade"], x_d__law_log⟩
/-- _law_made -/
abbrev x_d__law_made : List IS := [.ret (.es [0] (.new "Log" [.b1 .list (.sub (.var 0) (.lit (.int 0))), .sub (.var 0) (.lit (.int 1)), .b1 .list (.sub (.var 0) (.lit (.int 2))), .b1 .list (.sub (.var 0) (.lit (.int 3)))]))]
def d__law_made : DefT := ⟨.fn "_law_made", "_law_made", "_law_made", defArgs (top 38), defBody (top 38), defScope (top 38), ["_law_parts"], ["_law_parts"], x_d__law_made⟩
/-- _law_alike -/
abbrev x_d__law_alike : List IS := [.iff (.bo .Or [.cmp .Eq (.b1 .len (.sub (.var 0) (.var 1))) (.lit (.int 2)), .cmp .Eq (.b1 .len (.sub (.var 0) (.var 2))) (.lit (.int 2)), .cmp .NotEq (.sub (.sub (.var 0) (.var 1)) (.lit (.int 1))) (.sub (.sub (.var 0) (.var 2)) (.lit (.int 1)))]) [.ret (.rd (.lit (.bl false)))] [], .asg (.nm 3) (.es [0, 1, 2] (.slc (.var 0) [.b2 false (.var 1) (.var 2)] [.b2 true (.var 1) (.var 2)])), .ret (.rd (.cmp .Eq (.b1 .len (.lc (.var 4) (.nm 4) (.seq (.var 3)) [.cmp .Eq (.var 4) (.tup [.lit (.str "reset"), .sub (.sub (.var 0) (.var 1)) (.lit (.int 1))])])) (.lit (.int 0))))]
def d__law_alike : DefT := ⟨.fn "_law_alike", "_law_alike", "_law_alike", defArgs (top 39), defBody (top 39), defScope (top 39), ["_law_events", "_law_one", "_law_other"], ["_law_events", "_law_one", "_law_other", "_law_between", "_law_event"], x_d__law_alike⟩
/-- _law_ordered -/
abbrev x_d__law_ordered : List IS := [.iff (.no (.call "_law_alike" [.sub (.var 0) (.lit (.int 3)), .var 1, .var 2])) [.ret (.rd (.lit (.bl false)))] [], .asg (.nm 3) (.es [0, 1] (.sub (.lc (.sub (.var 4) (.lit (.int 1))) (.nm 4) (.seq (.sub (.var 0) (.lit (.int 2)))) [.cmp .Eq (.sub (.var 4) (.lit (.int 0))) (.sub (.sub (.sub (.var 0) (.lit (.int 3))) (.var 1)) (.lit (.int 1)))]) (.lit (.int 0)))), .ret (.rd (.bo .Or [.cmp .Eq (.var 3) (.lit (.str "stays")), .bo .And [.cmp .Eq (.var 3) (.lit (.str "rises")), .cmp .LtE (.var 1) (.var 2)], .bo .And [.cmp .Eq (.var 3) (.lit (.str "falls")), .cmp .GtE (.var 1) (.var 2)]]))]
def d__law_ordered : DefT := ⟨.fn "_law_ordered", "_law_ordered", "_law_ordered", defArgs (top 40), defBody (top 40), defScope (top 40), ["_law_parts", "_law_one", "_law_other"], ["_law_parts", "_law_one", "_law_other", "_law_drift", "_law_judge"], x_d__law_ordered⟩
/-- _law_links -/
abbrev x_d__law_links : List IS := [.asg (.nm 1) (.rd (.lst [])), .asg (.nm 2) (.es [0] (.sub (.var 0) (.lit (.int 3)))), .floop (.nm 3) false [2] (.rng1 (.b1 .len (.var 2))) [3, 4] [.floop (.nm 4) false [2] (.rng1 (.b1 .len (.var 2))) [4] [.iff (.bo .And [.call "_law_ordered" [.var 0, .var 3, .var 4], .cmp .Lt (.sub (.sub (.var 2) (.var 3)) (.lit (.int 3))) (.sub (.sub (.var 2) (.var 4)) (.lit (.int 3)))]) [.app 1 [] (.es [2, 3, 4] (.tup [.var 3, .var 4, .sub (.sub (.var 2) (.var 3)) (.lit (.int 2)), .sub (.sub (.var 2) (.var 4)) (.lit (.int 2))]))] []]], .ret (.mv 1)]
def d__law_links : DefT := ⟨.fn "_law_links", "_law_links", "_law_links", defArgs (top 41), defBody (top 41), defScope (top 41), ["_law_parts"], ["_law_parts", "_law_found", "_law_events", "_law_one", "_law_other"], x_d__law_links⟩
/-- _law_first_way -/
abbrev x_d__law_first_way : List IS := [.asg (.nm 4) (.rd (.dk0)), .floop (.nm 5) false [0] (.seq (.var 0)) [5] [.put 4 [] (.var 5) (.rd (.lit .non))], .asg (.nm 6) (.es [2] (.lst [.tup [.lst [], .var 2]])), .floop (.nm 7) false [0] (.rng1 (.b1 .len (.var 0))) [7, 8, 9, 10, 11, 12, 13, 14, 15, 16] [.asg (.nm 8) (.rd (.lst [])), .asg (.nm 9) (.rd (.lst [])), .floop (.tp [.nm 10, .nm 11]) false [6] (.seq (.var 6)) [10, 11, 12, 13, 14, 15, 16] [.floop (.tp [.nm 13, .nm 14, .nm 15, .nm 12]) false [1] (.seq (.var 1)) [12, 13, 14, 15, 16] [.iff (.cmp .Eq (.var 15) (.var 11)) [.asg (.nm 16) (.es [10, 13, 14] (.bin .Add (.var 10) (.lst [.tup [.var 13, .var 14]]))), .iff (.bo .And [.cmp .Is (.sub (.var 4) (.var 12)) (.lit .non), .cmp .NotIn (.var 12) (.var 9)]) [.app 8 [] (.es [12, 16] (.tup [.var 16, .var 12])), .app 9 [] (.es [12] (.var 12))] []] []]], .floop (.tp [.nm 10, .nm 12]) false [8] (.seq (.var 8)) [10, 12] [.put 4 [] (.var 12) (.es [10] (.var 10))], .asg (.nm 6) (.mv 8)], .ret (.es [3, 4] (.sub (.var 4) (.var 3)))]
def d__law_first_way : DefT := ⟨.fn "_law_first_way", "_law_first_way", "_law_first_way", defArgs (top 42), defBody (top 42), defScope (top 42), ["_law_items", "_law_links_here", "_law_worse", "_law_better"], ["_law_items", "_law_links_here", "_law_worse", "_law_better", "_law_ways", "_law_item", "_law_rows", "_law_turn", "_law_following", "_law_seen", "_law_way", "_law_here", "_law_end", "_law_one", "_law_other", "_law_begin", "_law_longer"], x_d__law_first_way⟩
/-- _law_is_way -/
abbrev x_d__law_is_way : List IS := [.asg (.nm 4) (.es [2] (.var 2)), .floop (.nm 5) false [1] (.seq (.var 1)) [5, 6] [.asg (.nm 6) (.es [0, 4, 5] (.lc (.var 7) (.nm 7) (.seq (.var 0)) [.bo .And [.cmp .Eq (.slc (.var 7) [] [.lit (.int 2)]) (.var 5), .cmp .Eq (.sub (.var 7) (.lit (.int 2))) (.var 4)]])), .iff (.cmp .Eq (.b1 .len (.var 6)) (.lit (.int 0))) [.ret (.rd (.lit (.bl false)))] [], .asg (.nm 4) (.es [6] (.sub (.sub (.var 6) (.lit (.int 0))) (.lit (.int 3))))], .ret (.rd (.bo .And [.cmp .Gt (.b1 .len (.var 1)) (.lit (.int 0)), .cmp .Eq (.var 4) (.var 3)]))]
def d__law_is_way : DefT := ⟨.fn "_law_is_way", "_law_is_way", "_law_is_way", defArgs (top 43), defBody (top 43), defScope (top 43), ["_law_links_here", "_law_way", "_law_worse", "_law_better"], ["_law_links_here", "_law_way", "_law_worse", "_law_better", "_law_here", "_law_link", "_law_found", "_law_one"], x_d__law_is_way⟩
/-- _law_spoilt -/
abbrev x_d__law_spoilt : List IS := [.iff (.cmp .Eq (.var 1) (.lit (.int 0))) [.ret (.es [0] (.slc (.var 0) [.lit (.int 1)] []))] [], .iff (.cmp .Eq (.var 1) (.lit (.int 1))) [.ret (.es [0] (.bin .Add (.var 0) (.slc (.var 0) [.neg (.lit (.int 1))] [])))] [], .iff (.cmp .Eq (.var 1) (.lit (.int 2))) [.ret (.es [0] (.rv (.var 0)))] [], .iff (.cmp .Eq (.var 1) (.lit (.int 3))) [.ret (.es [0] (.lc (.tup [.var 4, .var 3]) (.tp [.nm 3, .nm 4]) (.seq (.var 0)) []))] [], .iff (.bo .And [.cmp .Eq (.var 1) (.lit (.int 4)), .cmp .Gt (.b1 .len (.var 2)) (.lit (.int 0))]) [.ret (.es [0, 2] (.bin .Add (.slc (.var 0) [] [.neg (.lit (.int 1))]) (.lst [.slc (.sub (.var 2) (.neg (.lit (.int 1)))) [] [.lit (.int 2)]])))] [], .ret (.rd (.bin .Add (.var 0) (.lst [.tup [.neg (.lit (.int 1)), .lit (.int 99)]])))]
def d__law_spoilt : DefT := ⟨.fn "_law_spoilt", "_law_spoilt", "_law_spoilt", defArgs (top 44), defBody (top 44), defScope (top 44), ["_law_way", "_law_number", "_law_links_here"], ["_law_way", "_law_number", "_law_links_here", "_law_first", "_law_second"], x_d__law_spoilt⟩
/-- law -/
abbrev x_d_law : List IS := [.asg (.nm 1) (.es [0] (.call "_law_numbers" [.var 0, .lit (.int 60)])), .asg (.nm 2) (.es [1] (.call "_law_log" [.var 1, .lit (.int 0), .lit (.int 5), .lit (.int 14)])), .asg (.nm 3) (.es [2] (.call "_law_made" [.var 2])), .asg (.nm 4) (.es [2] (.call "_law_links" [.var 2])), .floop (.nm 5) false [2] (.rng1 (.b1 .len (.sub (.var 2) (.lit (.int 0))))) [5, 6, 7, 8, 9, 10, 11, 12, 13, 14, 15, 16] [.floop (.nm 6) false [2] (.rng1 (.b1 .len (.sub (.var 2) (.lit (.int 0))))) [6, 7, 8, 9, 10, 11, 12, 13, 14, 15, 16] [.par 11 12 (.sub (.sub (.var 2) (.lit (.int 0))) (.var 5)) (.sub (.sub (.var 2) (.lit (.int 0))) (.var 6)), .asg (.nm 7) (.es [2, 4, 11, 12] (.call "_law_first_way" [.sub (.var 2) (.lit (.int 0)), .var 4, .var 11, .var 12])), .floop (.nm 8) false [] (.rng1 (.lit (.int 2))) [8, 13] [.asg (.nm 13) (.es [3, 11, 12] (.call "way_between" [.var 3, .var 11, .var 12])), .iff (.cmp .NotEq (.var 13) (.var 7)) [.ret (.rd (.lit (.bl false)))] [], .iff (.cmp .IsNot (.var 13) (.lit .non)) [.app 13 [] (.rd (.lit (.int 0)))] []], .asg (.nm 9) (.es [7] (.var 7)), .iff (.cmp .Is (.var 9) (.lit .non)) [.asg (.nm 9) (.es [4] (.lc (.slc (.var 17) [] [.lit (.int 2)]) (.nm 17) (.seq (.slc (.var 4) [] [.lit (.int 2)])) []))] [], .floop (.nm 10) false [1, 5, 6] (.seq (.lst [.lit (.int 6), .bin .Mod (.b1 .int (.sub (.var 1) (.bin .Add (.bin .Add (.lit (.int 30)) (.bin .Mult (.lit (.int 5)) (.var 5))) (.var 6)))) (.lit (.int 6))])) [10, 14, 15, 16] [.asg (.nm 14) (.es [4, 9, 10] (.ifx (.cmp .Lt (.var 10) (.lit (.int 6))) (.call "_law_spoilt" [.var 9, .var 10, .var 4]) (.b1 .list (.var 9)))), .asg (.nm 15) (.es [14] (.b1 .list (.var 14))), .asg (.nm 16) (.es [3, 11, 12, 15] (.call "is_way" [.var 3, .var 15, .var 11, .var 12])), .iff (.bo .Or [.no (.isi (.var 16) "bool"), .cmp .NotEq (.var 16) (.call "_law_is_way" [.var 4, .var 14, .var 11, .var 12]), .cmp .NotEq (.var 15) (.var 14)]) [.ret (.rd (.lit (.bl false)))] []]]], .ret (.rd (.lit (.bl true)))]
def d_law : DefT := ⟨.fn "law", "law", "law", defArgs (top 45), defBody (top 45), defScope (top 45), ["_law_script"], ["_law_script", "_law_numbers_here", "_law_parts", "_law_log_here", "_law_links_here", "_law_k", "_law_j", "_law_due", "_law_turn", "_law_way", "_law_number", "_law_worse", "_law_better", "_law_found", "_law_other", "_law_handed", "_law_told", "_law_link"], x_d_law⟩
/-- Log.__init__ -/
abbrev x_d_Log : List IS := [.iff (.no (.b1 .all (.lc (.bo .And [.cmp .Eq (.b1 .len (.var 6)) (.lit (.int 2)), .call "is_drift" [.sub (.var 6) (.lit (.int 1))]]) (.nm 6) (.seq (.var 3)) []))) [.nev] [], .asg (.nm 5) (.es [3] (.lc (.sub (.var 6) (.lit (.int 0))) (.nm 6) (.seq (.var 3)) [])), .iff (.bo .Or [.no (.call "are_names" [.var 1, .glb "MOST_ITEMS" (.inl (20))]), .no (.call "are_names" [.var 5, .glb "MOST_JUDGES" (.inl (8))]), .no (.chain .LtE .LtE (.lit (.int 1)) (.var 2) (.glb "MOST_GRADE" (.inl (9))))]) [.nev] [], .iff (.bo .Or [.cmp .Gt (.b1 .len (.var 4)) (.glb "MOST_EVENTS" (.inl (120))), .no (.b1 .all (.lc (.call "is_event" [.var 7, .var 1, .var 2, .var 5]) (.nm 7) (.seq (.var 4)) []))]) [.nev] [], .fld "_items" (.es [1] (.b1 .list (.var 1))), .fld "_grades" (.es [2] (.var 2)), .fld "_judges" (.es [3] (.b1 .list (.var 3))), .fld "_events" (.es [4] (.b1 .list (.var 4)))]
def d_Log : DefT := ⟨.nw "Log", "__init__", "Log.__init__", defArgs (kid 33 0), defBody (kid 33 0), defScope (kid 33 0), ["self", "items", "grades", "judges", "events"], ["self", "items", "grades", "judges", "events", "names", "judge", "event"], x_d_Log⟩
/-- Log.item_names -/
abbrev x_d_Log_item_names : List IS := [.ret (.es [0] (.b1 .list (.att (.var 0) "_items")))]
def d_Log_item_names : DefT := ⟨.pr "Log" "item_names", "item_names", "Log.item_names", defArgs (kid 33 1), defBody (kid 33 1), defScope (kid 33 1), ["self"], ["self"], x_d_Log_item_names⟩
/-- Log.grades -/
abbrev x_d_Log_grades : List IS := [.ret (.es [0] (.att (.var 0) "_grades"))]
def d_Log_grades : DefT := ⟨.pr "Log" "grades", "grades", "Log.grades", defArgs (kid 33 2), defBody (kid 33 2), defScope (kid 33 2), ["self"], ["self"], x_d_Log_grades⟩
/-- Log.judges -/
abbrev x_d_Log_judges : List IS := [.ret (.es [0] (.b1 .list (.att (.var 0) "_judges")))]
def d_Log_judges : DefT := ⟨.pr "Log" "judges", "judges", "Log.judges", defArgs (kid 33 3), defBody (kid 33 3), defScope (kid 33 3), ["self"], ["self"], x_d_Log_judges⟩
/-- Log.events -/
abbrev x_d_Log_events : List IS := [.ret (.es [0] (.b1 .list (.att (.var 0) "_events")))]
def d_Log_events : DefT := ⟨.pr "Log" "events", "events", "Log.events", defArgs (kid 33 4), defBody (kid 33 4), defScope (kid 33 4), ["self"], ["self"], x_d_Log_events⟩
/-- Log.drift_of -/
abbrev x_d_Log_drift_of : List IS := [.floop (.tp [.nm 2, .nm 3]) false [0] (.seq (.att (.var 0) "_judges")) [2, 3] [.iff (.cmp .Eq (.var 2) (.var 1)) [.ret (.mv 3)] []], .nev]
def d_Log_drift_of : DefT := ⟨.me "Log" "drift_of", "drift_of", "Log.drift_of", defArgs (kid 33 5), defBody (kid 33 5), defScope (kid 33 5), ["self", "judge"], ["self", "judge", "name", "drift"], x_d_Log_drift_of⟩
/-- Log.is_answer -/
abbrev x_d_Log_is_answer : List IS := [.ret (.rd (.bo .And [.chain .LtE .Lt (.lit (.int 0)) (.var 1) (.b1 .len (.att (.var 0) "_events")), .cmp .Eq (.sub (.sub (.att (.var 0) "_events") (.var 1)) (.lit (.int 0))) (.glb "ANSWER" (.inr "answer"))]))]
def d_Log_is_answer : DefT := ⟨.me "Log" "is_answer", "is_answer", "Log.is_answer", defArgs (kid 33 6), defBody (kid 33 6), defScope (kid 33 6), ["self", "place"], ["self", "place"], x_d_Log_is_answer⟩
/-- Log.answers -/
abbrev x_d_Log_answers : List IS := [.ret (.es [0] (.lc (.var 1) (.nm 1) (.rng1 (.b1 .len (.att (.var 0) "_events"))) [.mth (.var 0) "is_answer" [.var 1]]))]
def d_Log_answers : DefT := ⟨.me "Log" "answers", "answers", "Log.answers", defArgs (kid 33 7), defBody (kid 33 7), defScope (kid 33 7), ["self"], ["self", "place"], x_d_Log_answers⟩
/-- Log.answers_of -/
abbrev x_d_Log_answers_of : List IS := [.exp (.mth (.var 0) "drift_of" [.var 1]), .ret (.es [0, 1] (.lc (.var 2) (.nm 2) (.seq (.mth (.var 0) "answers" [])) [.cmp .Eq (.sub (.sub (.att (.var 0) "_events") (.var 2)) (.lit (.int 1))) (.var 1)]))]
def d_Log_answers_of : DefT := ⟨.me "Log" "answers_of", "answers_of", "Log.answers_of", defArgs (kid 33 8), defBody (kid 33 8), defScope (kid 33 8), ["self", "judge"], ["self", "judge", "place"], x_d_Log_answers_of⟩
/-- Log.answer_at -/
abbrev x_d_Log_answer_at : List IS := [.iff (.no (.mth (.var 0) "is_answer" [.var 1])) [.nev] [], .ret (.es [0, 1] (.sub (.att (.var 0) "_events") (.var 1)))]
def d_Log_answer_at : DefT := ⟨.me "Log" "answer_at", "answer_at", "Log.answer_at", defArgs (kid 33 9), defBody (kid 33 9), defScope (kid 33 9), ["self", "place"], ["self", "place"], x_d_Log_answer_at⟩
/-- Log.judge_at -/
abbrev x_d_Log_judge_at : List IS := [.ret (.es [0, 1] (.sub (.mth (.var 0) "answer_at" [.var 1]) (.lit (.int 1))))]
def d_Log_judge_at : DefT := ⟨.me "Log" "judge_at", "judge_at", "Log.judge_at", defArgs (kid 33 10), defBody (kid 33 10), defScope (kid 33 10), ["self", "place"], ["self", "place"], x_d_Log_judge_at⟩
/-- Log.item_at -/
abbrev x_d_Log_item_at : List IS := [.ret (.es [0, 1] (.sub (.mth (.var 0) "answer_at" [.var 1]) (.lit (.int 2))))]
def d_Log_item_at : DefT := ⟨.me "Log" "item_at", "item_at", "Log.item_at", defArgs (kid 33 11), defBody (kid 33 11), defScope (kid 33 11), ["self", "place"], ["self", "place"], x_d_Log_item_at⟩
/-- Log.grade_at -/
abbrev x_d_Log_grade_at : List IS := [.ret (.es [0, 1] (.sub (.mth (.var 0) "answer_at" [.var 1]) (.lit (.int 3))))]
def d_Log_grade_at : DefT := ⟨.me "Log" "grade_at", "grade_at", "Log.grade_at", defArgs (kid 33 12), defBody (kid 33 12), defScope (kid 33 12), ["self", "place"], ["self", "place"], x_d_Log_grade_at⟩
/-- Log.span_at -/
abbrev x_d_Log_span_at : List IS := [.asg (.nm 3) (.es [0, 1] (.lc (.var 5) (.tp [.nm 5, .nm 6]) (.enm (.att (.var 0) "_events")) [.cmp .Eq (.var 6) (.tup [.glb "RESET" (.inr "reset"), .var 1])])), .asg (.nm 4) (.rd (.mxd true (.lc (.bin .Add (.var 5) (.lit (.int 1))) (.nm 5) (.seq (.var 3)) [.cmp .Lt (.var 5) (.var 2)]) (.lit (.int 0)))), .ret (.es [0, 2, 3, 4] (.tup [.var 4, .mxd false (.lc (.var 5) (.nm 5) (.seq (.var 3)) [.cmp .GtE (.var 5) (.var 2)]) (.b1 .len (.att (.var 0) "_events"))]))]
def d_Log_span_at : DefT := ⟨.me "Log" "span_at", "span_at", "Log.span_at", defArgs (kid 33 13), defBody (kid 33 13), defScope (kid 33 13), ["self", "judge", "place"], ["self", "judge", "place", "resets", "first", "at", "event"], x_d_Log_span_at⟩
/-- Log.stretch_at -/
abbrev x_d_Log_stretch_at : List IS := [.asg (.nm 3) (.es [0, 1] (.mth (.var 0) "answers_of" [.var 1])), .iff (.no (.chain .LtE .LtE (.lit (.int 0)) (.var 2) (.b1 .len (.att (.var 0) "_events")))) [.nev] [], .asg (.tp [.nm 4, .nm 5]) (.es [0, 1, 2] (.mth (.var 0) "span_at" [.var 1, .var 2])), .ret (.es [3, 4, 5] (.lc (.var 6) (.nm 6) (.seq (.var 3)) [.chain .LtE .Lt (.var 4) (.var 6) (.var 5)]))]
def d_Log_stretch_at : DefT := ⟨.me "Log" "stretch_at", "stretch_at", "Log.stretch_at", defArgs (kid 33 14), defBody (kid 33 14), defScope (kid 33 14), ["self", "judge", "place"], ["self", "judge", "place", "answers", "first", "last", "at"], x_d_Log_stretch_at⟩
/-- Log.stretch_of -/
abbrev x_d_Log_stretch_of : List IS := [.ret (.es [0, 1] (.mth (.var 0) "stretch_at" [.mth (.var 0) "judge_at" [.var 1], .var 1]))]
def d_Log_stretch_of : DefT := ⟨.me "Log" "stretch_of", "stretch_of", "Log.stretch_of", defArgs (kid 33 15), defBody (kid 33 15), defScope (kid 33 15), ["self", "place"], ["self", "place"], x_d_Log_stretch_of⟩
/-- Log.stretches -/
abbrev x_d_Log_stretches : List IS := [.asg (.nm 2) (.rd (.lst [])), .floop (.nm 3) false [0, 1] (.seq (.mth (.var 0) "answers_of" [.var 1])) [3] [.iff (.bo .Or [.cmp .Eq (.b1 .len (.var 2)) (.lit (.int 0)), .cmp .NotIn (.var 3) (.sub (.var 2) (.neg (.lit (.int 1))))]) [.app 2 [] (.es [0, 3] (.mth (.var 0) "stretch_of" [.var 3]))] []], .ret (.mv 2)]
def d_Log_stretches : DefT := ⟨.me "Log" "stretches", "stretches", "Log.stretches", defArgs (kid 33 16), defBody (kid 33 16), defScope (kid 33 16), ["self", "judge"], ["self", "judge", "found", "place"], x_d_Log_stretches⟩
/-- Log.in_order -/
abbrev x_d_Log_in_order : List IS := [.asg (.nm 3) (.es [0, 1] (.mth (.var 0) "judge_at" [.var 1])), .exp (.mth (.var 0) "judge_at" [.var 2]), .ret (.rd (.bo .And [.cmp .In (.var 2) (.mth (.var 0) "stretch_of" [.var 1]), .call "is_first" [.mth (.var 0) "drift_of" [.var 3], .var 1, .var 2]]))]
def d_Log_in_order : DefT := ⟨.me "Log" "in_order", "in_order", "Log.in_order", defArgs (kid 33 17), defBody (kid 33 17), defScope (kid 33 17), ["self", "one", "other"], ["self", "one", "other", "judge"], x_d_Log_in_order⟩
def tab : Tab := ⟨[d_check_items, d_is_link, d_links_in, d_links_of, d_ends_of, d_lengths_to, d_first_way, d_way_between, d_is_way, d_is_name, d_is_drift, d_are_names, d_is_event, d_is_first, d__law_row, d__law_numbers, d__law_log, d__law_made, d__law_alike, d__law_ordered, d__law_links, d__law_first_way, d__law_is_way, d__law_spoilt, d_law, d_Log, d_Log_item_names, d_Log_grades, d_Log_judges, d_Log_events, d_Log_drift_of, d_Log_is_answer, d_Log_answers, d_Log_answers_of, d_Log_answer_at, d_Log_judge_at, d_Log_item_at, d_Log_grade_at, d_Log_span_at, d_Log_stretch_at, d_Log_stretch_of, d_Log_stretches, d_Log_in_order], [("LETTERS", .inr "abcdefghijklmnopqrstuvwxyz0123456789"), ("RISES", .inr "rises"), ("FALLS", .inr "falls"), ("STAYS", .inr "stays"), ("ANSWER", .inr "answer"), ("RESET", .inr "reset"), ("MOST_ITEMS", .inl (20)), ("MOST_JUDGES", .inl (8)), ("MOST_EVENTS", .inl (120)), ("MOST_GRADE", .inl (9))], [("Log", "_items"), ("Log", "_grades"), ("Log", "_judges"), ("Log", "_events")]⟩
theorem chk_ok : tab.chk = true := by decide +kernel
theorem b_d_check_items : BindF d_check_items := fun _ _ _ _ _ _ us hl => match us, hl with | [_, _], _ => rfl
theorem b_d_is_link : BindF d_is_link := fun _ _ _ _ _ _ us hl => match us, hl with | [_, _, _], _ => rfl
theorem b_d_links_in : BindF d_links_in := fun _ _ _ _ _ _ us hl => match us, hl with | [_, _, _], _ => rfl
theorem b_d_links_of : BindF d_links_of := fun _ _ _ _ _ _ us hl => match us, hl with | [_], _ => rfl
theorem b_d_ends_of : BindF d_ends_of := fun _ _ _ _ _ _ us hl => match us, hl with | [_], _ => rfl
theorem b_d_lengths_to : BindF d_lengths_to := fun _ _ _ _ _ _ us hl => match us, hl with | [_, _], _ => rfl
theorem b_d_first_way : BindF d_first_way := fun _ _ _ _ _ _ us hl => match us, hl with | [_, _, _], _ => rfl
theorem b_d_way_between : BindF d_way_between := fun _ _ _ _ _ _ us hl => match us, hl with | [_, _, _], _ => rfl
theorem b_d_is_way : BindF d_is_way := fun _ _ _ _ _ _ us hl => match us, hl with | [_, _, _, _], _ => rfl
theorem b_d_is_name : BindF d_is_name := fun _ _ _ _ _ _ us hl => match us, hl with | [_], _ => rfl
theorem b_d_is_drift : BindF d_is_drift := fun _ _ _ _ _ _ us hl => match us, hl with | [_], _ => rfl
theorem b_d_are_names : BindF d_are_names := fun _ _ _ _ _ _ us hl => match us, hl with | [_, _], _ => rfl
theorem b_d_is_event : BindF d_is_event := fun _ _ _ _ _ _ us hl => match us, hl with | [_, _, _, _], _ => rfl
theorem b_d_is_first : BindF d_is_first := fun _ _ _ _ _ _ us hl => match us, hl with | [_, _, _], _ => rfl
theorem b_d__law_row : BindF d__law_row := fun _ _ _ _ _ _ us hl => match us, hl with | [_, _], _ => rfl
theorem b_d__law_numbers : BindF d__law_numbers := fun _ _ _ _ _ _ us hl => match us, hl with | [_, _], _ => rfl
theorem b_d__law_log : BindF d__law_log := fun _ _ _ _ _ _ us hl => match us, hl with | [_, _, _, _], _ => rfl
theorem b_d__law_made : BindF d__law_made := fun _ _ _ _ _ _ us hl => match us, hl with | [_], _ => rfl
theorem b_d__law_alike : BindF d__law_alike := fun _ _ _ _ _ _ us hl => match us, hl with | [_, _, _], _ => rfl
theorem b_d__law_ordered : BindF d__law_ordered := fun _ _ _ _ _ _ us hl => match us, hl with | [_, _, _], _ => rfl
theorem b_d__law_links : BindF d__law_links := fun _ _ _ _ _ _ us hl => match us, hl with | [_], _ => rfl
theorem b_d__law_first_way : BindF d__law_first_way := fun _ _ _ _ _ _ us hl => match us, hl with | [_, _, _, _], _ => rfl
theorem b_d__law_is_way : BindF d__law_is_way := fun _ _ _ _ _ _ us hl => match us, hl with | [_, _, _, _], _ => rfl
theorem b_d__law_spoilt : BindF d__law_spoilt := fun _ _ _ _ _ _ us hl => match us, hl with | [_, _, _], _ => rfl
theorem b_d_law : BindF d_law := fun _ _ _ _ _ _ us hl => match us, hl with | [_], _ => rfl
theorem b_d_Log : BindF d_Log := fun _ _ _ _ _ _ us hl => match us, hl with | [_, _, _, _, _], _ => rfl
theorem b_d_Log_item_names : BindF d_Log_item_names := fun _ _ _ _ _ _ us hl => match us, hl with | [_], _ => rfl
theorem b_d_Log_grades : BindF d_Log_grades := fun _ _ _ _ _ _ us hl => match us, hl with | [_], _ => rfl
theorem b_d_Log_judges : BindF d_Log_judges := fun _ _ _ _ _ _ us hl => match us, hl with | [_], _ => rfl
theorem b_d_Log_events : BindF d_Log_events := fun _ _ _ _ _ _ us hl => match us, hl with | [_], _ => rfl
theorem b_d_Log_drift_of : BindF d_Log_drift_of := fun _ _ _ _ _ _ us hl => match us, hl with | [_, _], _ => rfl
theorem b_d_Log_is_answer : BindF d_Log_is_answer := fun _ _ _ _ _ _ us hl => match us, hl with | [_, _], _ => rfl
theorem b_d_Log_answers : BindF d_Log_answers := fun _ _ _ _ _ _ us hl => match us, hl with | [_], _ => rfl
theorem b_d_Log_answers_of : BindF d_Log_answers_of := fun _ _ _ _ _ _ us hl => match us, hl with | [_, _], _ => rfl
theorem b_d_Log_answer_at : BindF d_Log_answer_at := fun _ _ _ _ _ _ us hl => match us, hl with | [_, _], _ => rfl
theorem b_d_Log_judge_at : BindF d_Log_judge_at := fun _ _ _ _ _ _ us hl => match us, hl with | [_, _], _ => rfl
theorem b_d_Log_item_at : BindF d_Log_item_at := fun _ _ _ _ _ _ us hl => match us, hl with | [_, _], _ => rfl
theorem b_d_Log_grade_at : BindF d_Log_grade_at := fun _ _ _ _ _ _ us hl => match us, hl with | [_, _], _ => rfl
theorem b_d_Log_span_at : BindF d_Log_span_at := fun _ _ _ _ _ _ us hl => match us, hl with | [_, _, _], _ => rfl
theorem b_d_Log_stretch_at : BindF d_Log_stretch_at := fun _ _ _ _ _ _ us hl => match us, hl with | [_, _, _], _ => rfl
theorem b_d_Log_stretch_of : BindF d_Log_stretch_of := fun _ _ _ _ _ _ us hl => match us, hl with | [_, _], _ => rfl
theorem b_d_Log_stretches : BindF d_Log_stretches := fun _ _ _ _ _ _ us hl => match us, hl with | [_, _], _ => rfl
theorem b_d_Log_in_order : BindF d_Log_in_order := fun _ _ _ _ _ _ us hl => match us, hl with | [_, _, _], _ => rfl
theorem binds : BindAll tab.ds := ⟨b_d_check_items, b_d_is_link, b_d_links_in, b_d_links_of, b_d_ends_of, b_d_lengths_to, b_d_first_way, b_d_way_between, b_d_is_way, b_d_is_name, b_d_is_drift, b_d_are_names, b_d_is_event, b_d_is_first, b_d__law_row, b_d__law_numbers, b_d__law_log, b_d__law_made, b_d__law_alike, b_d__law_ordered, b_d__law_links, b_d__law_first_way, b_d__law_is_way, b_d__law_spoilt, b_d_law, b_d_Log, b_d_Log_item_names, b_d_Log_grades, b_d_Log_judges, b_d_Log_events, b_d_Log_drift_of, b_d_Log_is_answer, b_d_Log_answers, b_d_Log_answers_of, b_d_Log_answer_at, b_d_Log_judge_at, b_d_Log_item_at, b_d_Log_grade_at, b_d_Log_span_at, b_d_Log_stretch_at, b_d_Log_stretch_of, b_d_Log_stretches, b_d_Log_in_order, trivial⟩
abbrev rowR : PySem.W.OpenRow := PySem.W.OpenLaw.row PySem.Challenge.rw_risingbars_k10_first_ways
abbrev hk : PySem.W.Hook := hookM 5 tab
def ob (s : PySem.W.SharedT) : AlM := obsMG 5 tab (HandSHeadRun.getT s)
theorem ob_eq (s : PySem.W.SharedT) : ob s = hk.obs s.abs := obsMG_eq (HandSHeadRun.getT_eq s)
def loose : List PySem.Str := (["_wall", "BarError", "InvalidLog", "UnknownItem", "UnknownJudge", "InvalidPlace", "check_items", "is_link", "links_in", "links_of", "ends_of", "lengths_to", "first_way", "way_between", "is_way", "LETTERS", "RISES", "FALLS", "STAYS", "ANSWER", "RESET", "MOST_ITEMS", "MOST_JUDGES", "MOST_EVENTS", "MOST_GRADE", "is_name", "is_drift", "are_names", "is_event", "is_first"] : List PySem.Str) ++ (["Log", "_law_row", "_law_numbers", "_law_log", "_law_made", "_law_alike", "_law_ordered", "_law_links", "_law_first_way", "_law_is_way", "_law_spoilt"] : List PySem.Str)
theorem run_ok (w : World) : HandSHeadRun.RunEq rowR (PySem.W.view rowR.prog [45]) hk ob 6000 loose w := by
  intro os
  kernel_rfl
end K10
open PySem
open PySem.W
open PySem.Calls
open PyProof.Rows
namespace K10
open Rb
theorem t_log : LogTab tab := by constructor <;> rfl
theorem t_nam : NamTab tab := by constructor <;> rfl
theorem t_chk : ChkTab tab := by constructor <;> rfl
theorem t_len : LenTab tab := by constructor <;> rfl
theorem t_way : WayTab tab := by constructor <;> rfl
theorem t_isw : IswTab tab := by constructor <;> rfl
theorem t_lfw : LfwTab tab := by constructor <;> rfl
theorem t_liw : LiwTab tab := by constructor <;> rfl
theorem t_lnk : LnkTab tab := by constructor <;> rfl
theorem t_law : tab.at (.fn "law") = some (18, 1, y_k10_law) := by rfl
theorem tr (ns : List Int) (h : ns.length ≤ 63) : (mkC tab 20).fn "law" [.nd .ext false (ns.map Rb.T.int)] = .ok (.bl true) := tr_k10 t_log t_nam t_chk t_len t_way t_isw t_lfw t_liw t_lnk t_law 9 ns h
theorem law_get : tab.get (.fn "law") = some d_law := by rfl
end K10
theorem PySem.Challenge.cw_risingbars_k10_first_ways_holds : PySem.Challenge.rw_risingbars_k10_first_ways.Holds := by
  w_on; o_law
  refine HandSHeadRun.head_any (r := K10.rowR) (q := view K10.rowR.prog [45]) (H := K10.hk) (ob := K10.ob) (M := 6000) (loose := K10.loose) (d := HandSHeadRun.topDef K10.rowR.prog 45) (kwd := []) K10.ob_eq
    (by kernel_rfl) (fun s => by kernel_rfl) K10.run_ok (by kernel_rfl) (by kernel_rfl) (by kernel_rfl) (by rfl) (by first | assumption | decide +kernel) (by decide +kernel) ⟨rfl, rfl, rfl, rfl, rfl, by decide +kernel⟩ ?hw ?hc
  case hw => w_witness2
  case hc =>
    refine LamX.walk_ofTsE (l := PySem.Challenge.rw_risingbars_k10_first_ways) (n := 63) (k := 2 * (19 + 1)) (x := "_law_script") (CX := fun w => L2.CX K10.prg w) rfl (by decide) (by kernel_rfl) ⟨rfl, by decide, by decide⟩ ?F (fun _ _ _ _ _ z => Rb.cx_none z)
    intro w mg fa h Y G hmg0
    obtain ⟨K, KX, c⟩ := Y
    have hmg : mg (Str.ofString "law") = some (.ref fa) := by
      have e : (HandSHeadRun.topDef K10.rowR.prog 45).name = (Str.ofString "law") := by kernel_rfl
      rw [← e]
      exact hmg0
    exact ⟨K, KX, Rb.law_ok (l := PySem.Challenge.rw_risingbars_k10_first_ways) KX G K10.binds c K10.chk_ok K10.law_get rfl hmg 19 fun ns hl _ => K10.tr ns hl⟩
