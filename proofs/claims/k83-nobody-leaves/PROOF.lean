import PyProof.Rows.All
import Wide.All
import OpenK.AllK
import Wide.FinOn
import KE.KStateDown
import Lean
import HandS.ForMost
import HandS.Walk
import HandS.Wide
import HandS.WideBits
import HandS.SortInts
import HandS.SortRule
import HandS.DictComp
import HandS.Star
import HandS.Flow
import HandS.Defaults
import HandS.SetFor
import HandS.Strs
import HandS.ListItems
import HandS.SortKw
import HandS.Style
import KE.DataMinMax
import HandS.EndBits
import HandS.IsInst
import HandS.Codes
import HandS.DictTup
import HandS.SetKeys
import HandS.Conv
import HandS.TupSets
import HandS.TryOnly
import HandS.Remove
import HandS.Head0
import HandS.Head1
import HandS.Head2
import HandS.HeadEnd
import HandS.HeadHook1
import HandS.HeadHook2
import PySem.Challenge.RW_lastmoments_k83_whole_nobody_leaves
set_option Elab.async false
set_option linter.all false
set_option maxRecDepth 100000
set_option maxHeartbeats 4000000
section
set_option Elab.async false
set_option linter.all false
set_option maxRecDepth 100000
set_option maxHeartbeats 4000000
namespace Lmo
open PySem L2

/-! ### the heap, parted by owners -/
abbrev Tag := List Nat
abbrev Own := Addr → Option Tag
def fz (w : Own) (H : Hp) : Hp := fun a => match w a with
  | none => H a
  | some _ => none
theorem fz_some {w : Own} {H : Hp} {a : Addr} {o : HO} (h : fz w H a = some o) : w a = none ∧ H a = some o := by
  unfold fz at h
  cases e : w a with
  | none => rw [e] at h; exact ⟨rfl, h⟩
  | some t => rw [e] at h; cases h
theorem fz_of {w : Own} {H : Hp} {a : Addr} {o : HO} (h : w a = none) (e : H a = some o) : fz w H a = some o := by
  unfold fz
  rw [h]
  exact e
/-- a dict's lock taken off -/
def nrm : HO → HO
  | .frz _ (.dK kvs) => .dK kvs
  | u => u
/-- all that stood stands; a dict may have been locked -/
def Le (H H' : Hp) : Prop := ∀ b o, H b = some o → H' b = some o ∨ ∃ ob kvs, o = .dK kvs ∧ H' b = some (.frz ob (.dK kvs))
theorem Le.refl (H : Hp) : Le H H := fun _ o h => .inl h
theorem Le.trans {H H1 H2 : Hp} (a : Le H H1) (b : Le H1 H2) : Le H H2 := fun c o h => by
  rcases a c o h with h1 | ⟨ob, kvs, rfl, h1⟩
  · exact b c o h1
  · rcases b c _ h1 with h2 | ⟨_, _, e, _⟩
    · exact .inr ⟨ob, kvs, rfl, h2⟩
    · cases e
theorem Le.of {H H' : Hp} (h : ∀ b o, H b = some o → H' b = some o) : Le H H' := fun b o e => .inl (h b o e)
theorem Le.new {H : Hp} {p : Addr} {o : HO} (h : H p = none) : Le H (upd H p o) := .of fun b u e => by rw [upd_ne (ne_of_none e h)]; exact e
theorem Le.get {H H' : Hp} {a : Addr} {o : HO} (l : Le H H') (h : H a = some o) : ∃ o', H' a = some o' ∧ nrm o' = nrm o := by
  rcases l a o h with h1 | ⟨ob, kvs, rfl, h1⟩
  · exact ⟨o, h1, rfl⟩
  · exact ⟨_, h1, rfl⟩
theorem Le.frz {H H' : Hp} {a : Addr} {ob : Obj} {u : HO} (l : Le H H') (h : H a = some (.frz ob u)) : H' a = some (.frz ob u) := by
  rcases l a _ h with h1 | ⟨_, _, e, _⟩
  · exact h1
  · cases e
theorem nrm_tup {o : HO} {xs : List V} (h : nrm o = .tup xs) : o = .tup xs := by
  unfold nrm at h
  split at h
  · cases h
  · exact h
theorem nrm_lst {o : HO} {xs : List V} (h : nrm o = .lst xs) : o = .lst xs := by
  unfold nrm at h
  split at h
  · cases h
  · exact h
theorem nrm_ins {o : HO} {C dx : Addr} {fs : List (Str × V)} (h : nrm o = .ins C dx fs) : o = .ins C dx fs := by
  unfold nrm at h
  split at h
  · cases h
  · exact h
theorem nrm_dK {o : HO} {kvs : List (Key × V)} (h : nrm o = .dK kvs) : o = .dK kvs ∨ ∃ ob, o = .frz ob (.dK kvs) := by
  unfold nrm at h
  split at h
  · cases h
    exact .inr ⟨_, rfl⟩
  · exact .inl h
theorem Le.tup {H H' : Hp} {a : Addr} {xs : List V} (l : Le H H') (h : H a = some (.tup xs)) : H' a = some (.tup xs) := by
  rcases l a _ h with h1 | ⟨_, _, e, _⟩
  · exact h1
  · cases e
theorem Le.lst {H H' : Hp} {a : Addr} {xs : List V} (l : Le H H') (h : H a = some (.lst xs)) : H' a = some (.lst xs) := by
  rcases l a _ h with h1 | ⟨_, _, e, _⟩
  · exact h1
  · cases e
theorem Le.ins {H H' : Hp} {a C dx : Addr} {fs : List (Str × V)} (l : Le H H') (h : H a = some (.ins C dx fs)) : H' a = some (.ins C dx fs) := by
  rcases l a _ h with h1 | ⟨_, _, e, _⟩
  · exact h1
  · cases e
def Good (w : Own) (H : Hp) : Prop := ∀ a t, w a = some t → H a ≠ none
theorem Good.new {w : Own} {H : Hp} (g : Good w H) {p : Addr} (h : H p = none) : w p = none := by
  cases e : w p with
  | none => rfl
  | some t => exact absurd h (g p t e)
theorem fz_le {w : Own} {H : Hp} : Le (fz w H) H := .of fun b o h => (fz_some h).2
theorem fz_mono {w : Own} {H H' : Hp} (l : Le H H') : Le (fz w H) (fz w H') := fun b o h => by
  obtain ⟨h1, h2⟩ := fz_some h
  rcases l b o h2 with h3 | ⟨ob, kvs, e, h3⟩
  · exact .inl (fz_of h1 h3)
  · exact .inr ⟨ob, kvs, e, fz_of h1 h3⟩

/-! ### how a value stands for data -/
structure Rp (α : Type) where
  rep : Hp → V → α → Prop
  mono : ∀ {H H' : Hp} {v : V} {x : α}, Le H H' → rep H v x → rep H' v x
def rInt : Rp Int := ⟨fun _ v x => v = .int x, fun _ h => h⟩
def rBool : Rp Bool := ⟨fun _ v x => v = .bl x, fun _ h => h⟩
def rStr : Rp Str := ⟨fun _ v x => v = .str x, fun _ h => h⟩
def rNon : Rp Unit := ⟨fun _ v _ => v = .non, fun _ h => h⟩
def rOpt {α : Type} (r : Rp α) : Rp (Option α) := ⟨fun H v x => match x with
  | none => v = .non
  | some y => r.rep H v y ∧ v ≠ .non, fun {H H' v x} l h => by
    cases x with
    | none => exact h
    | some y => exact ⟨r.mono l h.1, h.2⟩⟩
/-- data told by other data -/
def rIso {α β : Type} (f : β → α) (r : Rp α) : Rp β := ⟨fun H v x => r.rep H v (f x), fun l h => r.mono l h⟩
def LIM : Nat := 1000000
theorem paired_mono {α : Type} {f g : V → α → Prop} (h : ∀ v x, f v x → g v x) : ∀ {vs : List V} {xs : List α}, Paired f vs xs → Paired g vs xs
  | _, _, .nil => .nil
  | _, _, .cons r t => .cons (h _ _ r) (paired_mono h t)
def rList {α : Type} (r : Rp α) : Rp (List α) := ⟨fun H v xs => ∃ a vs, v = .ref a ∧ H a = some (.lst vs) ∧ Paired (r.rep H) vs xs ∧ xs.length ≤ LIM, fun l h => by
  obtain ⟨a, vs, h1, h2, h3, h4⟩ := h
  exact ⟨a, vs, h1, l.lst h2, paired_mono (fun _ _ q => r.mono l q) h3, h4⟩⟩
/-- a row of values -/
structure Tp (α : Type) where
  rep : Hp → List V → α → Prop
  mono : ∀ {H H' : Hp} {vs : List V} {x : α}, Le H H' → rep H vs x → rep H' vs x
def tp1 {α : Type} (r : Rp α) : Tp α := ⟨fun H vs x => ∃ v, vs = [v] ∧ r.rep H v x, fun l h => by
  obtain ⟨v, h1, h2⟩ := h
  exact ⟨v, h1, r.mono l h2⟩⟩
def tpc {α β : Type} (r : Rp α) (t : Tp β) : Tp (α × β) := ⟨fun H vs x => ∃ v us, vs = v :: us ∧ r.rep H v x.1 ∧ t.rep H us x.2, fun l h => by
  obtain ⟨v, us, h1, h2, h3⟩ := h
  exact ⟨v, us, h1, r.mono l h2, t.mono l h3⟩⟩
def rTup {α : Type} (t : Tp α) : Rp α := ⟨fun H v x => ∃ a vs, v = .ref a ∧ H a = some (.tup vs) ∧ t.rep H vs x, fun l h => by
  obtain ⟨a, vs, h1, h2, h3⟩ := h
  exact ⟨a, vs, h1, l.tup h2, t.mono l h3⟩⟩
abbrev rPair {α β : Type} (r : Rp α) (s : Rp β) : Rp (α × β) := rTup (tpc r (tp1 s))
/-- keys -/
structure Kp (κ : Type) where
  key : κ → Key
  inj : ∀ a b, key a = key b → a = b
def kInt : Kp Int := ⟨Sum.inl, fun _ _ h => Sum.inl.inj h⟩
def kStr : Kp Str := ⟨Sum.inr, fun _ _ h => Sum.inr.inj h⟩
def DRel {κ β : Type} (k : Kp κ) (r : Rp β) (H : Hp) (kvs : List (Key × V)) (xs : List (κ × β)) : Prop :=
  Paired (fun (p : Key × V) (q : κ × β) => p.1 = k.key q.1 ∧ r.rep H p.2 q.2) kvs xs
theorem DRel.mono {κ β : Type} {k : Kp κ} {r : Rp β} {H H' : Hp} (l : Le H H') : ∀ {kvs : List (Key × V)} {xs : List (κ × β)}, DRel k r H kvs xs → DRel k r H' kvs xs
  | _, _, .nil => .nil
  | _, _, .cons h t => .cons ⟨h.1, r.mono l h.2⟩ (DRel.mono l t)
def rDict {κ β : Type} (k : Kp κ) (r : Rp β) : Rp (List (κ × β)) := ⟨fun H v xs => ∃ a o kvs, v = .ref a ∧ H a = some o ∧ nrm o = .dK kvs ∧ DRel k r H kvs xs ∧ (xs.map (·.1)).Nodup ∧ xs.length ≤ LIM, fun l h => by
  obtain ⟨a, o, kvs, h1, h2, h3, h4, h5⟩ := h
  obtain ⟨o', e1, e2⟩ := l.get h2
  exact ⟨a, o', kvs, h1, e1, e2.trans h3, h4.mono l, h5⟩⟩
/-- values that no heap bears upon -/
class Flat {α : Type} (r : Rp α) : Prop where
  any : ∀ (H H' : Hp) (v : V) (x : α), r.rep H v x → r.rep H' v x
instance : Flat rInt := ⟨fun _ _ _ _ h => h⟩
instance : Flat rBool := ⟨fun _ _ _ _ h => h⟩
instance : Flat rStr := ⟨fun _ _ _ _ h => h⟩
instance : Flat rNon := ⟨fun _ _ _ _ h => h⟩
instance {α : Type} (r : Rp α) [Flat r] : Flat (rOpt r) := ⟨fun H H' v x h => by
  cases x with
  | none => exact h
  | some y => exact ⟨Flat.any (r := r) H H' _ _ h.1, h.2⟩⟩
/-- never None -/
class NNon {α : Type} (r : Rp α) : Prop where
  ne : ∀ (H : Hp) (v : V) (x : α), r.rep H v x → v ≠ .non
instance : NNon rInt := ⟨fun _ v x h q => by cases h.symm.trans q⟩
instance : NNon rBool := ⟨fun _ v x h q => by cases h.symm.trans q⟩
instance : NNon rStr := ⟨fun _ v x h q => by cases h.symm.trans q⟩
instance {α : Type} (r : Rp α) : NNon (rList r) := ⟨fun _ v x ⟨a, _, h, _⟩ q => by cases h.symm.trans q⟩
instance {α : Type} (t : Tp α) : NNon (rTup t) := ⟨fun _ v x ⟨a, _, h, _⟩ q => by cases h.symm.trans q⟩
instance {κ β : Type} (k : Kp κ) (r : Rp β) : NNon (rDict k r) := ⟨fun _ v x ⟨a, _, _, h, _⟩ q => by cases h.symm.trans q⟩

/-! ### slots -/
structure SR (α : Type) where
  rel : Own → Hp → Tag → Option V → α → Prop
  keep : ∀ {w w' : Own} {H H' : Hp} {p p' : Tag} {o : Option V} {x : α}, rel w H p o x → Le (fz w H) (fz w' H') →
    (∀ a q, w a = some (p ++ q) → w' a = some (p' ++ q) ∧ H' a = H a) → rel w' H' p' o x
def fr {α : Type} (r : Rp α) : SR α := ⟨fun w H _ o x => ∃ v, o = some v ∧ r.rep (fz w H) v x, fun h l _ => by
  obtain ⟨v, h1, h2⟩ := h
  exact ⟨v, h1, r.mono l h2⟩⟩
def un : SR Unit := ⟨fun _ _ _ _ _ => True, fun _ _ _ => trivial⟩
/-- a list of one's own -/
def ol {α : Type} (r : Rp α) : SR (List α) := ⟨fun w H p o xs => ∃ a vs, o = some (.ref a) ∧ w a = some p ∧ H a = some (.lst vs) ∧ Paired (r.rep (fz w H)) vs xs ∧ xs.length ≤ LIM, fun h l k => by
  obtain ⟨a, vs, h1, h2, h3, h4, h5⟩ := h
  obtain ⟨e1, e2⟩ := k a [] (by rw [List.append_nil]; exact h2)
  exact ⟨a, vs, h1, by rw [List.append_nil] at e1; exact e1, e2.trans h3, paired_mono (fun _ _ q => r.mono l q) h4, h5⟩⟩
/-- a dict of one's own -/
def od {κ β : Type} (k : Kp κ) (r : Rp β) : SR (List (κ × β)) := ⟨fun w H p o xs => ∃ a kvs, o = some (.ref a) ∧ w a = some p ∧ H a = some (.dK kvs) ∧ DRel k r (fz w H) kvs xs ∧ (xs.map (·.1)).Nodup ∧ xs.length ≤ LIM, fun h l k => by
  obtain ⟨a, kvs, h1, h2, h3, h4, h5⟩ := h
  obtain ⟨e1, e2⟩ := k a [] (by rw [List.append_nil]; exact h2)
  exact ⟨a, kvs, h1, by rw [List.append_nil] at e1; exact e1, e2.trans h3, h4.mono l, h5⟩⟩
/-- the slot's value told -/
def pin {α : Type} (v : V) (S : SR α) : SR α := ⟨fun w H p o x => o = some v ∧ S.rel w H p o x, fun h l k => ⟨h.1, S.keep h.2 l k⟩⟩

/-! ### all slots -/
structure ER (E : Type) where
  rel : Own → Hp → Tag → Nat → List (Option V) → E → Prop
  keep : ∀ {w w' : Own} {H H' : Hp} {p p' : Tag} {k : Nat} {σ : List (Option V)} {x : E}, rel w H p k σ x → Le (fz w H) (fz w' H') →
    (∀ a j q, k ≤ j → w a = some (p ++ j :: q) → w' a = some (p' ++ j :: q) ∧ H' a = H a) → rel w' H' p' k σ x
def en : ER Unit := ⟨fun _ _ _ _ σ _ => σ = [], fun h _ _ => h⟩
def ec {α E : Type} (S : SR α) (R : ER E) : ER (α × E) := ⟨fun w H p k σ e => ∃ o τ, σ = o :: τ ∧ S.rel w H (p ++ [k]) o e.1 ∧ R.rel w H p (k + 1) τ e.2, fun {w w' H H' p p' k σ x} h l q => by
  obtain ⟨o, τ, h1, h2, h3⟩ := h
  refine ⟨o, τ, h1, S.keep h2 l fun a t ha => ?_, R.keep h3 l fun a j t hj ha => q a j t (Nat.le_of_succ_le hj) ha⟩
  have := q a k t (Nat.le_refl k) (by rw [ha]; simp)
  simpa using this⟩
/-- the attributes fs of an instance, told by the names ns: σ -/
structure FS (ns : List Str) (fs : List (Str × V)) (σ : List (Option V)) : Prop where
  len : σ.length = ns.length
  at_ : ∀ (j : Nat) (f : Str), ns[j]? = some f → σ[j]? = some (fs.lookup f)
  out : ∀ f, f ∉ ns → fs.lookup f = none
  nd : (fs.map (·.1)).Nodup
def ob {F : Type} (C : Addr) (ns : List Str) (R : ER F) : SR F := ⟨fun w H p o x => ∃ a dx fs τ, o = some (.ref a) ∧ w a = some p ∧ H a = some (.ins C dx fs) ∧ FS ns fs τ ∧ R.rel w H p 0 τ x, fun h l k => by
  obtain ⟨a, dx, fs, τ, h1, h2, h3, h4, h5⟩ := h
  obtain ⟨e1, e2⟩ := k a [] (by rw [List.append_nil]; exact h2)
  exact ⟨a, dx, fs, τ, h1, by rw [List.append_nil] at e1; exact e1, e2.trans h3, h4, R.keep h5 l fun b j q _ hb => k b (j :: q) hb⟩⟩
/-- an instance that does not change any more -/
def rOb {β : Type} (C : Addr) (ns : List Str) (t : Tp β) : Rp β := ⟨fun H v x => ∃ a dx fs vs, v = .ref a ∧ H a = some (.ins C dx fs) ∧ FS ns fs (vs.map some) ∧ t.rep H vs x, fun l h => by
  obtain ⟨a, dx, fs, vs, h1, h2, h3, h4⟩ := h
  exact ⟨a, dx, fs, vs, h1, l.ins h2, h3, t.mono l h4⟩⟩
/-- slot i of R is S: read and changed in place -/
structure Has {E α : Type} (R : ER E) (i : Nat) (S : SR α) (get : E → α) (set : E → α → E) : Prop where
  get : ∀ {w : Own} {H : Hp} {p : Tag} {k : Nat} {σ : List (Option V)} {e : E}, R.rel w H p k σ e → ∃ o, σ[i]? = some o ∧ S.rel w H (p ++ [k + i]) o (get e)
  set : ∀ {w w' : Own} {H H' : Hp} {p : Tag} {k : Nat} {σ : List (Option V)} {e : E} {x : α}, R.rel w H p k σ e → Le (fz w H) (fz w' H') →
    (∀ a j q, k ≤ j → j ≠ k + i → w a = some (p ++ j :: q) → w' a = some (p ++ j :: q) ∧ H' a = H a) → (∀ o, σ[i]? = some o → S.rel w' H' (p ++ [k + i]) o x) → R.rel w' H' p k σ (set e x)
/-- slot i is given a new value (of another kind) -/
structure Put {E E' α : Type} (R : ER E) (i : Nat) (S : SR α) (R' : ER E') (put : E → α → E') : Prop where
  put : ∀ {w w' : Own} {H H' : Hp} {p : Tag} {k : Nat} {σ : List (Option V)} {e : E} {o : Option V} {x : α}, R.rel w H p k σ e → Le (fz w H) (fz w' H') →
    (∀ a j q, k ≤ j → j ≠ k + i → w a = some (p ++ j :: q) → w' a = some (p ++ j :: q) ∧ H' a = H a) → S.rel w' H' (p ++ [k + i]) o x → R'.rel w' H' p k (σ.set i o) (put e x)
section
variable {E E' α β : Type}
theorem has0 {S : SR α} {R : ER E} : Has (ec S R) 0 S (fun e => e.1) (fun e x => (x, e.2)) :=
  ⟨fun {w H p k σ e} h => by
    obtain ⟨o, τ, h1, h2, h3⟩ := h
    exact ⟨o, by rw [h1]; rfl, h2⟩, fun {w w' H H' p k σ e x} h l q s => by
    obtain ⟨o, τ, h1, h2, h3⟩ := h
    refine ⟨o, τ, h1, s o (by rw [h1]; rfl), R.keep h3 l fun a j t hj ha => q a j t (Nat.le_of_succ_le hj) (by omega) ha⟩⟩
theorem hasS {S0 : SR β} {R : ER E} {i : Nat} {S : SR α} {get : E → α} {set : E → α → E} (h : Has R i S get set) : Has (ec S0 R) (i + 1) S (fun e => get e.2) (fun e x => (e.1, set e.2 x)) :=
  ⟨fun {w H p k σ e} q => by
    obtain ⟨o, τ, h1, h2, h3⟩ := q
    obtain ⟨u, h4, h5⟩ := h.get h3
    refine ⟨u, by rw [h1]; simpa using h4, ?_⟩
    rw [show k + (i + 1) = k + 1 + i by omega]
    exact h5, fun {w w' H H' p k σ e x} q l f s => by
    obtain ⟨o, τ, h1, h2, h3⟩ := q
    refine ⟨o, τ, h1, S0.keep h2 l fun a t ha => ?_, h.set h3 l (fun a j t hj hn ha => f a j t (by omega) (by omega) ha) fun u hu => ?_⟩
    · have := f a k t (Nat.le_refl _) (by omega) (by rw [ha]; simp)
      simpa using this
    · have := s u (by rw [h1]; simpa using hu)
      rw [show k + (i + 1) = k + 1 + i by omega] at this
      exact this⟩
theorem put0 {S0 : SR β} {S : SR α} {R : ER E} : Put (ec S0 R) 0 S (ec S R) (fun e x => (x, e.2)) :=
  ⟨fun {w w' H H' p k σ e o x} h l q s => by
    obtain ⟨o1, τ, h1, h2, h3⟩ := h
    refine ⟨o, τ, by rw [h1]; rfl, s, R.keep h3 l fun a j t hj ha => q a j t (Nat.le_of_succ_le hj) (by omega) ha⟩⟩
theorem putS {S0 : SR β} {R : ER E} {R' : ER E'} {i : Nat} {S : SR α} {put : E → α → E'} (h : Put R i S R' put) : Put (ec S0 R) (i + 1) S (ec S0 R') (fun e x => (e.1, put e.2 x)) :=
  ⟨fun {w w' H H' p k σ e o x} q l f s => by
    obtain ⟨o1, τ, h1, h2, h3⟩ := q
    refine ⟨o1, τ.set i o, by rw [h1]; rfl, S0.keep h2 l fun a t ha => ?_, h.put h3 l (fun a j t hj hn ha => f a j t (by omega) (by omega) ha) ?_⟩
    · have := f a k t (Nat.le_refl _) (by omega) (by rw [ha]; simp)
      simpa using this
    · rw [show k + (i + 1) = k + 1 + i by omega] at s
      exact s⟩
end

/-! ### behind an expression -/
structure Post {E : Type} (p : Bool) (R : ER E) (w : Own) (H : Hp) (w' : Own) (H' : Hp) (σ : St) (e' : E) : Prop where
  good : Good w' H'
  sm : Le (fz w H) (fz w' H')
  fk : ∀ a j q, j < 2 → w a = some (j :: q) → w' a = some (j :: q) ∧ H' a = H a
  env : R.rel w' H' [] 2 σ e'
  pur : p = true → w' = w ∧ Le H H' ∧ ∀ a t, w a = some t → H' a = H a
section
variable {E : Type} {R : ER E} {w w1 w2 : Own} {H H1 H2 : Hp} {σ : St} {e e1 e2 : E} {p q : Bool}
theorem Post.le (a : Post p R w H w1 H1 σ e1) : Le (fz w H) (fz w1 H1) := a.sm
theorem Post.trans (a : Post p R w H w1 H1 σ e1) (b : Post q R w1 H1 w2 H2 σ e2) : Post (p && q) R w H w2 H2 σ e2 where
  good := b.good
  sm := a.sm.trans b.sm
  fk := fun c j t hj h => by
    obtain ⟨h1, h2⟩ := a.fk c j t hj h
    obtain ⟨h3, h4⟩ := b.fk c j t hj h1
    exact ⟨h3, h4.trans h2⟩
  env := b.env
  pur := fun h => by
    obtain ⟨hp, hq⟩ := Bool.and_eq_true_iff.mp h
    obtain ⟨h1, h2, h3⟩ := a.pur hp
    obtain ⟨h4, h5, h6⟩ := b.pur hq
    subst h1 h4
    exact ⟨rfl, h2.trans h5, fun c t ht => (h6 c t ht).trans (h3 c t ht)⟩
theorem Post.refl (g : Good w H) (h : R.rel w H [] 2 σ e) : Post p R w H w H σ e := ⟨g, .refl _, fun _ _ _ _ h => ⟨h, rfl⟩, h, fun _ => ⟨rfl, .refl _, fun _ _ _ => rfl⟩⟩
/-- all grew -/
theorem Post.grow (g : Good w H) (h : R.rel w H [] 2 σ e) (l : Le H H1) (k : ∀ a t, w a = some t → H1 a = H a) : Post p R w H w H1 σ e :=
  ⟨fun a t ha => by rw [k a t ha]; exact g a t ha, fz_mono l, fun a j q _ ha => ⟨ha, k a _ ha⟩, R.keep h (fz_mono l) fun a j q _ ha => ⟨ha, k a _ ha⟩, fun _ => ⟨rfl, l, k⟩⟩
theorem Post.new {o : HO} {b : Addr} (g : Good w H) (h : R.rel w H [] 2 σ e) (hb : H b = none) : Post p R w H w (upd H b o) σ e :=
  .grow g h (.new hb) fun a t ha => upd_ne fun z => g a t ha (by rw [z]; exact hb)
theorem Post.weak (a : Post p R w H w1 H1 σ e1) (h : q = true → p = true) : Post q R w H w1 H1 σ e1 := ⟨a.good, a.sm, a.fk, a.env, fun z => a.pur (h z)⟩
end
/-- the heap that a value is told in: true: what nobody owns; false: as it stands now -/
def vw (lv : Bool) (w : Own) (H : Hp) : Hp := if lv = true then fz w H else H
theorem vw_le {lv : Bool} {w : Own} {H : Hp} : Le (vw lv w H) H := by
  cases lv with
  | true => exact fz_le
  | false => exact .refl _
theorem fz_vw {lv : Bool} {w : Own} {H : Hp} : Le (fz w H) (vw lv w H) := by
  cases lv with
  | true => exact .refl _
  | false => exact fz_le
section
variable {E : Type} {R : ER E} {w w1 : Own} {H H1 : Hp} {σ : St} {e1 : E} {p lv : Bool}
theorem Post.vw (a : Post p R w H w1 H1 σ e1) (h : (lv || p) = true) : Le (vw lv w H) (vw lv w1 H1) := by
  cases lv with
  | true => exact a.le
  | false => exact (a.pur h).2.1
end
/-- EXPRESSION e: its value told by r in the heap lv; what it needs (P), what it is (f), what it leaves of the slots (g); p: it changes nothing -/
structure TX (X : Cx) {E : Type} (R : ER E) (e : Expr) {α : Type} (r : Rp α) (lv p : Bool) (P : E → Prop) (f : E → α) (g : E → E) : Prop where
  ex : ∃ t, PE X e t ∧ ∀ (w : Own) (H : Hp) (σ : St) (env : E) (Q : VK), Good w H → R.rel w H [] 2 σ env → P env →
    (∀ v w' H', Post p R w H w' H' σ (g env) → r.rep (vw lv w' H') v (f env) → Q v H') → t σ H Q
/-- a test -/
structure TQ (X : Cx) {E : Type} (R : ER E) (e : Expr) (p : Bool) (P : E → Prop) (f : E → Bool) (g : E → E) : Prop where
  ex : ∃ t, PT X e t ∧ ∀ (w : Own) (H : Hp) (σ : St) (env : E) (Q : Bool → Hp → Prop), Good w H → R.rel w H [] 2 σ env → P env →
    (∀ w' H', Post p R w H w' H' σ (g env) → Q (f env) H') → t σ H Q
/-- arguments, items -/
structure TAs (X : Cx) {E : Type} (R : ER E) (es : List Expr) {α : Type} (t : Tp α) (lv p : Bool) (P : E → Prop) (f : E → α) (g : E → E) : Prop where
  ex : ∃ ta, PA X es ta ∧ ∀ (w : Own) (H : Hp) (σ : St) (env : E) (Q : List V → Hp → Prop), Good w H → R.rel w H [] 2 σ env → P env →
    (∀ vs w' H', Post p R w H w' H' σ (g env) → t.rep (vw lv w' H') vs (f env) → Q vs H') → ta σ H Q
end Lmo
end
section
set_option Elab.async false
set_option linter.all false
set_option maxRecDepth 100000
set_option maxHeartbeats 4000000
namespace Lmo
open PySem L2
section
variable {X : Cx} {E : Type} {R : ER E} {pos : Pos}
/-! ### names and constants -/
theorem tx_var {i : Nat} {α : Type} {r : Rp α} {get : E → α} {set : E → α → E} {x : Str} (h : Has R i (fr r) get set) (hp : PE X (.Name x pos) (tVar i)) :
    TX X R (.Name x pos) r true true (fun _ => True) get (fun e => e) := by
  refine ⟨_, hp, fun w H σ env Q G hr _ k => ?_⟩
  obtain ⟨o, h1, v, h2, h3⟩ := h.get hr
  subst h2
  exact ⟨v, h1, k v w H (.refl G hr) h3⟩
/-- a list, a dict of one's own, read as it stands -/
theorem paired_le {α : Type} {r : Rp α} {H H' : Hp} (l : Le H H') {vs : List V} {xs : List α} (h : Paired (r.rep H) vs xs) : Paired (r.rep H') vs xs := paired_mono (fun _ _ q => r.mono l q) h
theorem tx_varL {i : Nat} {α : Type} {r : Rp α} {get : E → List α} {set : E → List α → E} {x : Str} (h : Has R i (ol r) get set) (hp : PE X (.Name x pos) (tVar i)) :
    TX X R (.Name x pos) (rList r) false true (fun _ => True) get (fun e => e) := by
  refine ⟨_, hp, fun w H σ env Q G hr _ k => ?_⟩
  obtain ⟨o, h1, a, vs, h2, h3, h4, h5, h6⟩ := h.get hr
  subst h2
  exact ⟨_, h1, k _ w H (.refl G hr) ⟨a, vs, rfl, h4, paired_le fz_le h5, h6⟩⟩
theorem tx_varD {i : Nat} {κ β : Type} {kk : Kp κ} {r : Rp β} {get : E → List (κ × β)} {set : E → List (κ × β) → E} {x : Str} (h : Has R i (od kk r) get set) (hp : PE X (.Name x pos) (tVar i)) :
    TX X R (.Name x pos) (rDict kk r) false true (fun _ => True) get (fun e => e) := by
  refine ⟨_, hp, fun w H σ env Q G hr _ k => ?_⟩
  obtain ⟨o, h1, a, kvs, h2, h3, h4, h5, h6⟩ := h.get hr
  subst h2
  exact ⟨_, h1, k _ w H (.refl G hr) ⟨a, _, kvs, rfl, h4, rfl, h5.mono fz_le, h6⟩⟩
theorem tx_c {α : Type} {e : Expr} {v : V} {r : Rp α} {x : α} (hp : PE X e (tC v)) (hr : ∀ H, r.rep H v x) : TX X R e r true true (fun _ => True) (fun _ => x) (fun e => e) :=
  ⟨_, hp, fun w H _ _ _ G q _ k => k _ w H (.refl G q) (hr _)⟩
theorem tx_int {i : Int} {j : Nat} : TX X R (.Constant (.int i) j pos) rInt true true (fun _ => True) (fun _ => i) (fun e => e) := tx_c pe_int fun _ => rfl
theorem tx_bl {b : Bool} {j : Nat} : TX X R (.Constant (.bool b) j pos) rBool true true (fun _ => True) (fun _ => b) (fun e => e) := tx_c pe_bl fun _ => rfl
theorem tx_str {x : Str} {j : Nat} : TX X R (.Constant (.str x) j pos) rStr true true (fun _ => True) (fun _ => x) (fun e => e) := tx_c pe_str fun _ => rfl
theorem tx_non {j : Nat} : TX X R (.Constant .none j pos) rNon true true (fun _ => True) (fun _ => ()) (fun e => e) := tx_c pe_non fun _ => rfl
/-- None where something may stand -/
theorem tx_none {α : Type} {r : Rp α} {j : Nat} : TX X R (.Constant .none j pos) (rOpt r) true true (fun _ => True) (fun _ => none) (fun e => e) := tx_c pe_non fun _ => rfl
theorem tx_some {α : Type} {e : Expr} {r : Rp α} [NNon r] {lv p : Bool} {P : E → Prop} {f : E → α} {g : E → E} (h : TX X R e r lv p P f g) : TX X R e (rOpt r) lv p P (fun e => some (f e)) g := by
  obtain ⟨t, h1, h2⟩ := h
  exact ⟨t, h1, fun w H σ env Q G q hP k => h2 w H σ env Q G q hP fun v w' H' hp hr => k v w' H' hp ⟨hr, NNon.ne _ _ _ hr⟩⟩
/-- what is not None is itself -/
theorem tx_get {α : Type} {e : Expr} {r : Rp α} {d : α} {lv p : Bool} {P : E → Prop} {f : E → Option α} {g : E → E} (h : TX X R e (rOpt r) lv p P f g) : TX X R e r lv p (fun e => P e ∧ (f e).isSome = true) (fun e => (f e).getD d) g := by
  obtain ⟨t, h1, h2⟩ := h
  refine ⟨t, h1, fun w H σ env Q G q hP k => h2 w H σ env Q G q hP.1 fun v w' H' hp hr => k v w' H' hp ?_⟩
  obtain ⟨x, e1⟩ := Option.isSome_iff_exists.mp hP.2
  rw [e1] at hr ⊢
  exact hr.1
/-- told weaker; as it stands -/
theorem tx_down {α : Type} {e : Expr} {r : Rp α} {lv p : Bool} {P : E → Prop} {f : E → α} {g : E → E} (h : TX X R e r lv p P f g) : TX X R e r false p P f g := by
  obtain ⟨t, h1, h2⟩ := h
  exact ⟨t, h1, fun w H σ env Q G q hP k => h2 w H σ env Q G q hP fun v w' H' hp hr => k v w' H' hp (r.mono vw_le hr)⟩
/-- flat values are told in any heap -/
theorem tx_flat {α : Type} {e : Expr} {r : Rp α} [Flat r] {lv p : Bool} {P : E → Prop} {f : E → α} {g : E → E} (h : TX X R e r lv p P f g) : TX X R e r true p P f g := by
  obtain ⟨t, h1, h2⟩ := h
  exact ⟨t, h1, fun w H σ env Q G q hP k => h2 w H σ env Q G q hP fun v w' H' hp hr => k v w' H' hp (Flat.any _ _ _ _ hr)⟩
/-- the same data by another name -/
theorem tx_iso {α β : Type} {e : Expr} {r : Rp α} {lv p : Bool} {P : E → Prop} {f : E → α} {g : E → E} (i : β → α) (j : α → β) (h : TX X R e r lv p P f g) (hi : ∀ x, i (j x) = x) : TX X R e (rIso i r) lv p P (fun e => j (f e)) g := by
  obtain ⟨t, h1, h2⟩ := h
  refine ⟨t, h1, fun w H σ env Q G q hP k => h2 w H σ env Q G q hP fun v w' H' hp hr => k v w' H' hp ?_⟩
  show r.rep _ v (i (j (f env)))
  rw [hi]
  exact hr
/-- another telling of the same -/
theorem tx_cast {α : Type} {e : Expr} {r r' : Rp α} {lv p : Bool} {P : E → Prop} {f : E → α} {g : E → E} (h : TX X R e r lv p P f g) (c : ∀ H v x, r.rep H v x → r'.rep H v x) : TX X R e r' lv p P f g := by
  obtain ⟨t, h1, h2⟩ := h
  exact ⟨t, h1, fun w H σ env Q G q hP k => h2 w H σ env Q G q hP fun v w' H' hp hr => k v w' H' hp (c _ _ _ hr)⟩

/-! ### operators whose answer is flat -/
/-- by values: what it needs (C), what it gives (h) -/
def OpF (X : Cx) (fn : Value → Value → Sem Value) {α β γ : Type} (ra : Rp α) (rb : Rp β) (rc : Rp γ) (C : α → β → Prop) (h : α → β → γ) : Prop :=
  ∃ r : R2, OpR X fn r ∧ ∀ (H : Hp) (v u : V) (x : α) (y : β) (Q : VK), ra.rep H v x → rb.rep H u y → C x y → (∀ z, rc.rep H z (h x y) → Q z H) → r v u H Q
section
variable {α β γ δ : Type} {ra : Rp α} {rb : Rp β} {rc : Rp γ} {a b : Expr} {la lb pa pb : Bool} {Pa Pb : E → Prop} {fa : E → α} {fb : E → β} {ga gb : E → E} {C : α → β → Prop} {h : α → β → γ}
theorem op_read [Flat rc] {r : R2} {ta tb : TE} {w : Own} {H : Hp} {σ : St} {env : E} {Q : VK}
    (h2 : ∀ (w : Own) (H : Hp) (σ : St) (env : E) (Q : VK), Good w H → R.rel w H [] 2 σ env → Pa env → (∀ v w' H', Post pa R w H w' H' σ (ga env) → ra.rep (vw la w' H') v (fa env) → Q v H') → ta σ H Q)
    (k2 : ∀ (w : Own) (H : Hp) (σ : St) (env : E) (Q : VK), Good w H → R.rel w H [] 2 σ env → Pb env → (∀ v w' H', Post pb R w H w' H' σ (gb env) → rb.rep (vw lb w' H') v (fb env) → Q v H') → tb σ H Q)
    (hr : ∀ (H : Hp) (v u : V) (x : α) (y : β) (Q : VK), ra.rep H v x → rb.rep H u y → C x y → (∀ z, rc.rep H z (h x y) → Q z H) → r v u H Q) (hl : (la || pb) = true)
    (G : Good w H) (q : R.rel w H [] 2 σ env) (hP : Pa env ∧ Pb (ga env) ∧ C (fa env) (fb (ga env))) (k : ∀ v w' H', Post (pa && pb) R w H w' H' σ (gb (ga env)) → rc.rep (vw true w' H') v (h (fa env) (fb (ga env))) → Q v H') :
    tOp r ta tb σ H Q := by
  refine h2 w H σ env _ G q hP.1 fun v w1 H1 p1 r1 => ?_
  refine k2 w1 H1 σ _ _ p1.good p1.env hP.2.1 fun u w2 H2 p2 r2 => ?_
  refine hr H2 v u _ _ Q (ra.mono vw_le (ra.mono (p2.vw hl) r1)) (rb.mono vw_le r2) hP.2.2 fun z hz => ?_
  exact k z w2 H2 (p1.trans p2) (Flat.any _ _ _ _ hz)
theorem tx_op [Flat rc] {op : Operator} (ho : OpF X (binaryOp op) ra rb rc C h) (ha : TX X R a ra la pa Pa fa ga) (hb : TX X R b rb lb pb Pb fb gb) (hl : (la || pb) = true := by rfl) :
    TX X R (.BinOp a op b pos) rc true (pa && pb) (fun e => Pa e ∧ Pb (ga e) ∧ C (fa e) (fb (ga e))) (fun e => h (fa e) (fb (ga e))) (fun e => gb (ga e)) := by
  obtain ⟨r, h0, hr⟩ := ho
  obtain ⟨ta, h1, h2⟩ := ha
  obtain ⟨tb, k1, k2⟩ := hb
  exact ⟨_, pe_op h0 h1 k1, fun w H σ env Q G q hP k => op_read h2 k2 hr hl G q hP k⟩
theorem tx_cmp {op : CmpOp} {h : α → β → Bool} (ho : OpF X (compareOp op) ra rb rBool C h) (ha : TX X R a ra la pa Pa fa ga) (hb : TX X R b rb lb pb Pb fb gb) (hm : behindInMarks op b = false := by first | exact nomark _ | with_unfolding_all rfl) (hl : (la || pb) = true := by rfl) :
    TX X R (.Compare a [op] [b] pos) rBool true (pa && pb) (fun e => Pa e ∧ Pb (ga e) ∧ C (fa e) (fb (ga e))) (fun e => h (fa e) (fb (ga e))) (fun e => gb (ga e)) := by
  obtain ⟨r, h0, hr⟩ := ho
  obtain ⟨ta, h1, h2⟩ := ha
  obtain ⟨tb, k1, k2⟩ := hb
  exact ⟨_, pe_cmpR h0 h1 k1 hm, fun w H σ env Q G q hP k => op_read h2 k2 hr hl G q hP k⟩
theorem tq_cmp {op : CmpOp} {h : α → β → Bool} (ho : OpF X (compareOp op) ra rb rBool C h) (ha : TX X R a ra la pa Pa fa ga) (hb : TX X R b rb lb pb Pb fb gb) (hm : behindInMarks op b = false := by first | exact nomark _ | with_unfolding_all rfl) (hl : (la || pb) = true := by rfl) :
    TQ X R (.Compare a [op] [b] pos) (pa && pb) (fun e => Pa e ∧ Pb (ga e) ∧ C (fa e) (fb (ga e))) (fun e => h (fa e) (fb (ga e))) (fun e => gb (ga e)) := by
  obtain ⟨r, h0, hr⟩ := ho
  obtain ⟨ta, h1, h2⟩ := ha
  obtain ⟨tb, k1, k2⟩ := hb
  exact ⟨_, pt_cmpR h0 h1 k1 hm, fun w H σ env Q G q hP k => op_read (rc := rBool) h2 k2 hr hl G q hP fun v w' H' p hv => ⟨_, hv, k w' H' p⟩⟩
variable {c : Expr} {rd : Rp δ} {lc pc : Bool} {Pc : E → Prop} {fc : E → δ} {gc : E → E} {C' : β → δ → Prop} {h1 : α → β → Bool} {h2 : β → δ → Bool}
theorem chain_read {r r' : R2} {ta tb tc : TE} {w : Own} {H : Hp} {σ : St} {env : E} {Q : VK}
    (h2' : ∀ (w : Own) (H : Hp) (σ : St) (env : E) (Q : VK), Good w H → R.rel w H [] 2 σ env → Pa env → (∀ v w' H', Post pa R w H w' H' σ (ga env) → ra.rep (vw la w' H') v (fa env) → Q v H') → ta σ H Q)
    (k2 : ∀ (w : Own) (H : Hp) (σ : St) (env : E) (Q : VK), Good w H → R.rel w H [] 2 σ env → Pb env → (∀ v w' H', Post true R w H w' H' σ env → rb.rep (vw lb w' H') v (fb env) → Q v H') → tb σ H Q)
    (c2 : ∀ (w : Own) (H : Hp) (σ : St) (env : E) (Q : VK), Good w H → R.rel w H [] 2 σ env → Pc env → (∀ v w' H', Post true R w H w' H' σ env → rd.rep (vw lc w' H') v (fc env) → Q v H') → tc σ H Q)
    (hr : ∀ (H : Hp) (v u : V) (x : α) (y : β) (Q : VK), ra.rep H v x → rb.rep H u y → C x y → (∀ z, rBool.rep H z (h1 x y) → Q z H) → r v u H Q)
    (hr' : ∀ (H : Hp) (v u : V) (x : β) (y : δ) (Q : VK), rb.rep H v x → rd.rep H u y → C' x y → (∀ z, rBool.rep H z (h2 x y) → Q z H) → r' v u H Q)
    (G : Good w H) (q : R.rel w H [] 2 σ env) (hP : Pa env ∧ Pb (ga env) ∧ C (fa env) (fb (ga env)) ∧ (h1 (fa env) (fb (ga env)) = true → Pc (ga env) ∧ C' (fb (ga env)) (fc (ga env))))
    (k : ∀ v w' H', Post pa R w H w' H' σ (ga env) → rBool.rep (vw true w' H') v (h1 (fa env) (fb (ga env)) && h2 (fb (ga env)) (fc (ga env))) → Q v H') : tChain r r' ta tb tc σ H Q := by
  refine h2' w H σ env _ G q hP.1 fun v w1 H1 p1 r1 => ?_
  refine k2 w1 H1 σ _ _ p1.good p1.env hP.2.1 fun u w2 H2 p2 r2 => ?_
  refine hr H2 v u _ _ _ (ra.mono vw_le (ra.mono (p2.vw (by simp)) r1)) (rb.mono vw_le r2) hP.2.2.1 fun z hz => ?_
  refine ⟨_, hz, ?_⟩
  cases e : h1 (fa env) (fb (ga env)) with
  | false =>
    rw [if_neg Bool.false_ne_true]
    refine k _ w2 H2 ((p1.trans p2).weak (by simp)) ?_
    rw [e]
    rfl
  | true =>
    rw [if_pos rfl]
    obtain ⟨hc, hC⟩ := hP.2.2.2 e
    refine c2 w2 H2 σ _ _ p2.good p2.env hc fun x w3 H3 p3 r3 => ?_
    refine hr' H3 u x _ _ _ (rb.mono vw_le (rb.mono (p3.vw (by simp)) r2)) (rd.mono vw_le r3) hC fun y hy => ?_
    refine k _ w3 H3 (((p1.trans p2).trans p3).weak (by simp)) ?_
    rw [e]
    exact hy
theorem tx_chain {op op' : CmpOp} (ho : OpF X (compareOp op) ra rb rBool C h1) (ho' : OpF X (compareOp op') rb rd rBool C' h2) (ha : TX X R a ra la pa Pa fa ga) (hb : TX X R b rb lb true Pb fb fun e => e) (hc : TX X R c rd lc true Pc fc fun e => e)
    (hm : lastMarks [op, op'] [b, c] = false := by with_unfolding_all rfl) :
    TX X R (.Compare a [op, op'] [b, c] pos) rBool true pa (fun e => Pa e ∧ Pb (ga e) ∧ C (fa e) (fb (ga e)) ∧ (h1 (fa e) (fb (ga e)) = true → Pc (ga e) ∧ C' (fb (ga e)) (fc (ga e)))) (fun e => h1 (fa e) (fb (ga e)) && h2 (fb (ga e)) (fc (ga e))) ga := by
  obtain ⟨r, h0, hr⟩ := ho
  obtain ⟨r', h0', hr'⟩ := ho'
  obtain ⟨ta, a1, a2⟩ := ha
  obtain ⟨tb, b1, b2⟩ := hb
  obtain ⟨tc, c1, c2⟩ := hc
  exact ⟨_, pe_chain h0 h0' a1 b1 c1 hm, fun w H σ env Q G q hP k => chain_read a2 b2 c2 hr hr' G q hP k⟩
theorem tq_chain {op op' : CmpOp} (ho : OpF X (compareOp op) ra rb rBool C h1) (ho' : OpF X (compareOp op') rb rd rBool C' h2) (ha : TX X R a ra la pa Pa fa ga) (hb : TX X R b rb lb true Pb fb fun e => e) (hc : TX X R c rd lc true Pc fc fun e => e)
    (hm : lastMarks [op, op'] [b, c] = false := by with_unfolding_all rfl) :
    TQ X R (.Compare a [op, op'] [b, c] pos) pa (fun e => Pa e ∧ Pb (ga e) ∧ C (fa e) (fb (ga e)) ∧ (h1 (fa e) (fb (ga e)) = true → Pc (ga e) ∧ C' (fb (ga e)) (fc (ga e)))) (fun e => h1 (fa e) (fb (ga e)) && h2 (fb (ga e)) (fc (ga e))) ga := by
  obtain ⟨r, h0, hr⟩ := ho
  obtain ⟨r', h0', hr'⟩ := ho'
  obtain ⟨ta, a1, a2⟩ := ha
  obtain ⟨tb, b1, b2⟩ := hb
  obtain ⟨tc, c1, c2⟩ := hc
  exact ⟨_, pt_chain h0 h0' a1 b1 c1 hm, fun w H σ env Q G q hP k => chain_read a2 b2 c2 hr hr' G q hP fun v w' H' p hv => ⟨_, hv, k w' H' p⟩⟩
end
/-! ints -/
theorem of_I0 {fn : Value → Value → Sem Value} {γ : Type} {rc : Rp γ} {h : Int → Int → γ} {z : Int → Int → V} (ho : OpR X fn (rI0 z)) (hz : ∀ H i j, rc.rep H (z i j) (h i j)) : OpF X fn rInt rInt rc (fun _ _ => True) h :=
  ⟨_, ho, fun H v u x y Q h1 h2 _ k => ⟨x, y, h1, h2, k _ (hz _ _ _)⟩⟩
theorem of_I {fn : Value → Value → Sem Value} {γ : Type} {rc : Rp γ} {C : Int → Int → Prop} {h : Int → Int → γ} {z : Int → Int → V} (ho : OpR X fn (rI C z)) (hz : ∀ H i j, rc.rep H (z i j) (h i j)) : OpF X fn rInt rInt rc C h :=
  ⟨_, ho, fun H v u x y Q h1 h2 c k => ⟨x, y, h1, h2, c, k _ (hz _ _ _)⟩⟩
theorem o_add : OpF X (binaryOp .Add) rInt rInt rInt (fun _ _ => True) fun i j => i + j := of_I0 op_add fun _ _ _ => rfl
theorem o_sub : OpF X (binaryOp .Sub) rInt rInt rInt (fun _ _ => True) fun i j => i - j := of_I0 op_sub fun _ _ _ => rfl
theorem o_mul : OpF X (binaryOp .Mult) rInt rInt rInt CMul fun i j => i * j := of_I op_mul fun _ _ _ => rfl
theorem o_mulX : OpF X (binaryOp .Mult) rInt rInt rInt CMulX fun i j => i * j := of_I op_mulX fun _ _ _ => rfl
theorem o_fdiv : OpF X (binaryOp .FloorDiv) rInt rInt rInt CDiv fun i j => i / j := of_I op_fdiv fun _ _ _ => rfl
theorem o_mod : OpF X (binaryOp .Mod) rInt rInt rInt (fun _ j => 0 < j) fun i j => i % j := of_I op_mod fun _ _ _ => rfl
def CPowX (i j : Int) : Prop := 0 ≤ j ∧ (Builtin.Int.intBits i : Int) * j ≤ 134217728
theorem o_lt : OpF X (compareOp .Lt) rInt rInt rBool (fun _ _ => True) fun i j => decide (i < j) := of_I0 op_lt fun _ _ _ => rfl
theorem o_le : OpF X (compareOp .LtE) rInt rInt rBool (fun _ _ => True) fun i j => decide (i ≤ j) := of_I0 op_le fun _ _ _ => rfl
theorem o_gt : OpF X (compareOp .Gt) rInt rInt rBool (fun _ _ => True) fun i j => decide (j < i) := of_I0 op_gt fun _ _ _ => rfl
theorem o_ge : OpF X (compareOp .GtE) rInt rInt rBool (fun _ _ => True) fun i j => decide (j ≤ i) := of_I0 op_ge fun _ _ _ => rfl
theorem o_eq : OpF X (compareOp .Eq) rInt rInt rBool (fun _ _ => True) fun i j => decide (i = j) := ⟨_, op_eq, fun H v u x y Q h1 h2 _ k => by
  cases h1
  cases h2
  refine ⟨rfl, k _ ?_⟩
  show V.bl (decide (V.int x = V.int y)) = V.bl (decide (x = y))
  by_cases e : x = y
  · rw [decide_eq_true e, decide_eq_true (by rw [e])]
  · rw [decide_eq_false e, decide_eq_false (fun q => e (V.int.inj q))]⟩
theorem o_ne : OpF X (compareOp .NotEq) rInt rInt rBool (fun _ _ => True) fun i j => !decide (i = j) := ⟨_, op_ne, fun H v u x y Q h1 h2 _ k => by
  cases h1
  cases h2
  refine ⟨rfl, k _ ?_⟩
  show V.bl (!decide (V.int x = V.int y)) = V.bl (!decide (x = y))
  by_cases e : x = y
  · rw [decide_eq_true e, decide_eq_true (by rw [e])]
  · rw [decide_eq_false e, decide_eq_false (fun q => e (V.int.inj q))]⟩
theorem o_isN {α : Type} {r : Rp α} : OpF X (compareOp .Is) (rOpt r) rNon rBool (fun _ _ => True) fun x _ => x.isNone := ⟨_, op_isN, fun H v u x y Q h1 h2 _ k => by
  cases h2
  refine ⟨rfl, k _ ?_⟩
  cases x with
  | none =>
    have e : v = .non := h1
    rw [e]
    rfl
  | some z =>
    have e : v ≠ .non := h1.2
    rw [decide_eq_false e]
    rfl⟩
theorem o_notN {α : Type} {r : Rp α} : OpF X (compareOp .IsNot) (rOpt r) rNon rBool (fun _ _ => True) fun x _ => x.isSome := ⟨_, op_notN, fun H v u x y Q h1 h2 _ k => by
  cases h2
  refine ⟨rfl, k _ ?_⟩
  cases x with
  | none =>
    have e : v = .non := h1
    rw [e]
    rfl
  | some z =>
    have e : v ≠ .non := h1.2
    rw [decide_eq_false e]
    rfl⟩
theorem tx_neg {a : Expr} {la pa : Bool} {Pa : E → Prop} {fa : E → Int} {ga : E → E} (ha : TX X R a rInt la pa Pa fa ga) : TX X R (.UnaryOp .USub a pos) rInt true pa Pa (fun e => -(fa e)) ga := by
  obtain ⟨t, h1, h2⟩ := ha
  exact ⟨_, pe_un un_neg h1, fun w H σ env Q G q hP k => h2 w H σ env _ G q hP fun v w' H' p hr => ⟨fa env, hr, k _ w' H' p rfl⟩⟩

/-! ### truth -/
section
variable {a b : Expr} {rest : List Expr} {pa pb la lb : Bool} {Pa Pb : E → Prop} {fa fb : E → Bool} {ga gb : E → E}
theorem tq_val (h : TX X R a rBool la pa Pa fa ga) (he : ∀ whole, isTrue a X.env whole = (do let v ← whole; standAt a.pos; holding [v] (truthy v)) := by intro _; rfl) : TQ X R a pa Pa fa ga := by
  obtain ⟨t, h1, h2⟩ := h
  exact ⟨_, pt_val h1 he, fun w H σ env Q G q hP k => h2 w H σ env _ G q hP fun v w' H' p hr => ⟨_, hr, k w' H' p⟩⟩
theorem tq_not (h : TQ X R a pa Pa fa ga) : TQ X R (.UnaryOp .Not a pos) pa Pa (fun e => !(fa e)) ga := by
  obtain ⟨t, h1, h2⟩ := h
  exact ⟨_, pt_not h1, fun w H σ env Q G q hP k => h2 w H σ env _ G q hP fun w' H' p => k w' H' p⟩
theorem tx_not (h : TX X R a rBool la pa Pa fa ga) : TX X R (.UnaryOp .Not a pos) rBool true pa Pa (fun e => !(fa e)) ga := by
  obtain ⟨t, h1, h2⟩ := h
  exact ⟨_, pe_not h1, fun w H σ env Q G q hP k => h2 w H σ env _ G q hP fun v w' H' p hr => ⟨_, hr, k _ w' H' p rfl⟩⟩
end
/-- the tail of and, or as a test -/
structure TW (X : Cx) {E : Type} (R : ER E) (e : Expr) (p : Bool) (P : E → Prop) (f : E → Bool) (g : E → E) : Prop where
  ex : ∃ t, PW X e t ∧ ∀ (w : Own) (H : Hp) (σ : St) (env : E) (Q : Bool → Hp → Prop), Good w H → R.rel w H [] 2 σ env → P env →
    (∀ w' H', Post p R w H w' H' σ (g env) → Q (f env) H') → t σ H Q
section
variable {a b : Expr} {rest : List Expr} {pa pb la lb : Bool} {Pa Pb : E → Prop} {fa fb : E → Bool} {ga gb : E → E}
theorem TW.tq {e : Expr} (h : TW X R e pa Pa fa ga) : TQ X R e pa Pa fa ga := by
  obtain ⟨t, h1, h2⟩ := h
  exact ⟨t, h1.pt, h2⟩
theorem tw_and1 (h : TQ X R a pa Pa fa ga) : TW X R (.BoolOp .And [a] pos) pa Pa fa ga := by
  obtain ⟨t, h1, h2⟩ := h
  exact ⟨_, pw_and1 h1, h2⟩
theorem tw_or1 (h : TQ X R a pa Pa fa ga) : TW X R (.BoolOp .Or [a] pos) pa Pa fa ga := by
  obtain ⟨t, h1, h2⟩ := h
  exact ⟨_, pw_or1 h1, h2⟩
theorem tw_and (ha : TQ X R a pa Pa fa ga) (hb : TW X R (.BoolOp .And (b :: rest) pos) true Pb fb fun e => e) : TW X R (.BoolOp .And (a :: b :: rest) pos) pa (fun e => Pa e ∧ (fa e = true → Pb (ga e))) (fun e => fa e && fb (ga e)) ga := by
  obtain ⟨t, h1, h2⟩ := ha
  obtain ⟨u, k1, k2⟩ := hb
  refine ⟨_, pw_and h1 k1, fun w H σ env Q G q hP k => h2 w H σ env _ G q hP.1 fun w' H' p => ?_⟩
  cases e : fa env with
  | false =>
    have := k w' H' p
    rw [e] at this
    rw [if_neg Bool.false_ne_true]
    exact this
  | true =>
    rw [if_pos rfl]
    refine k2 w' H' σ _ _ p.good p.env (hP.2 e) fun w2 H2 p2 => ?_
    have := k w2 H2 ((p.trans p2).weak (by simp))
    rw [e] at this
    exact this
theorem tw_or (ha : TQ X R a pa Pa fa ga) (hb : TW X R (.BoolOp .Or (b :: rest) pos) true Pb fb fun e => e) : TW X R (.BoolOp .Or (a :: b :: rest) pos) pa (fun e => Pa e ∧ (fa e = false → Pb (ga e))) (fun e => fa e || fb (ga e)) ga := by
  obtain ⟨t, h1, h2⟩ := ha
  obtain ⟨u, k1, k2⟩ := hb
  refine ⟨_, pw_or h1 k1, fun w H σ env Q G q hP k => h2 w H σ env _ G q hP.1 fun w' H' p => ?_⟩
  cases e : fa env with
  | true =>
    have := k w' H' p
    rw [e] at this
    rw [if_pos rfl]
    exact this
  | false =>
    rw [if_neg Bool.false_ne_true]
    refine k2 w' H' σ _ _ p.good p.env (hP.2 e) fun w2 H2 p2 => ?_
    have := k w2 H2 ((p.trans p2).weak (by simp))
    rw [e] at this
    exact this
/-- as values -/
theorem tx_one {op : BoolOp} {α : Type} {r : Rp α} {f : E → α} (h : TX X R a r la pa Pa f ga) : TX X R (.BoolOp op [a] pos) r la pa Pa f ga := by
  obtain ⟨t, h1, h2⟩ := h
  exact ⟨_, pe_one h1, h2⟩
theorem tx_and (ha : TX X R a rBool la pa Pa fa ga) (hb : TX X R (.BoolOp .And (b :: rest) pos) rBool lb true Pb fb fun e => e) : TX X R (.BoolOp .And (a :: b :: rest) pos) rBool true pa (fun e => Pa e ∧ (fa e = true → Pb (ga e))) (fun e => fa e && fb (ga e)) ga := by
  obtain ⟨t, h1, h2⟩ := ha
  obtain ⟨u, k1, k2⟩ := hb
  refine ⟨_, pe_and h1 k1, fun w H σ env Q G q hP k => h2 w H σ env _ G q hP.1 fun v w' H' p hv => ⟨_, hv, ?_⟩⟩
  cases e : fa env with
  | false =>
    rw [if_neg Bool.false_ne_true]
    refine k _ w' H' p ?_
    rw [e]
    rfl
  | true =>
    rw [if_pos rfl]
    refine k2 w' H' σ _ _ p.good p.env (hP.2 e) fun v2 w2 H2 p2 hv2 => ?_
    refine k _ w2 H2 ((p.trans p2).weak (by simp)) ?_
    rw [e]
    exact hv2
theorem tx_or (ha : TX X R a rBool la pa Pa fa ga) (hb : TX X R (.BoolOp .Or (b :: rest) pos) rBool lb true Pb fb fun e => e) : TX X R (.BoolOp .Or (a :: b :: rest) pos) rBool true pa (fun e => Pa e ∧ (fa e = false → Pb (ga e))) (fun e => fa e || fb (ga e)) ga := by
  obtain ⟨t, h1, h2⟩ := ha
  obtain ⟨u, k1, k2⟩ := hb
  refine ⟨_, pe_or h1 k1, fun w H σ env Q G q hP k => h2 w H σ env _ G q hP.1 fun v w' H' p hv => ⟨_, hv, ?_⟩⟩
  cases e : fa env with
  | true =>
    rw [if_pos rfl]
    refine k _ w' H' p ?_
    rw [e]
    rfl
  | false =>
    rw [if_neg Bool.false_ne_true]
    refine k2 w' H' σ _ _ p.good p.env (hP.2 e) fun v2 w2 H2 p2 hv2 => ?_
    refine k _ w2 H2 ((p.trans p2).weak (by simp)) ?_
    rw [e]
    exact hv2
/-- a if c else b (a, b change nothing) -/
theorem tx_if {c : Expr} {α : Type} {r : Rp α} {pc : Bool} {Pc : E → Prop} {fc : E → Bool} {gc : E → E} {fx fy : E → α} {l : Bool} (hc : TQ X R c pc Pc fc gc) (ha : TX X R a r l true Pa fx fun e => e) (hb : TX X R b r l true Pb fy fun e => e) :
    TX X R (.IfExp c a b pos) r l pc (fun e => Pc e ∧ (fc e = true → Pa (gc e)) ∧ (fc e = false → Pb (gc e))) (fun e => if fc e = true then fx (gc e) else fy (gc e)) gc := by
  obtain ⟨t, h1, h2⟩ := hc
  obtain ⟨ta, a1, a2⟩ := ha
  obtain ⟨tb, b1, b2⟩ := hb
  refine ⟨_, pe_ifExp h1 a1 b1, fun w H σ env Q G q hP k => h2 w H σ env _ G q hP.1 fun w' H' p => ?_⟩
  cases e : fc env with
  | true =>
    rw [if_pos rfl]
    refine a2 w' H' σ _ _ p.good p.env (hP.2.1 e) fun v2 w2 H2 p2 hv2 => ?_
    refine k _ w2 H2 ((p.trans p2).weak (by simp)) ?_
    rw [if_pos e]
    exact hv2
  | false =>
    rw [if_neg Bool.false_ne_true]
    refine b2 w' H' σ _ _ p.good p.env (hP.2.2 e) fun v2 w2 H2 p2 hv2 => ?_
    refine k _ w2 H2 ((p.trans p2).weak (by simp)) ?_
    rw [if_neg (by rw [e]; exact Bool.false_ne_true)]
    exact hv2
end
/-! ### items -/
section
variable {α β : Type} {r : Rp α} {t : Tp β} {a : Expr} {es : List Expr} {la pa pb : Bool} {Pa Pb : E → Prop} {fa : E → α} {fb : E → β} {ga gb : E → E}
def tp0 : Tp Unit := ⟨fun _ vs _ => vs = [], fun _ h => h⟩
theorem ta_nil {lv : Bool} : TAs X R [] tp0 lv true (fun _ => True) (fun _ => ()) (fun e => e) := ⟨_, pa_nil, fun w H _ _ _ G q _ k => k _ w H (.refl G q) rfl⟩
theorem ta_one (h : TX X R a r la pa Pa fa ga) (hs : starEach [a] X.env = (false, eval a X.env) :: starEach [] X.env := by rfl) : TAs X R [a] (tp1 r) la pa Pa fa ga := by
  obtain ⟨ta, h1, h2⟩ := h
  exact ⟨_, pa_cons h1 pa_nil hs, fun w H σ env Q G q hP k => h2 w H σ env _ G q hP fun v w' H' p hr => k _ w' H' p ⟨v, rfl, hr⟩⟩
theorem ta_cons (h : TX X R a r la pa Pa fa ga) (hb : TAs X R es t la pb Pb fb gb) (hl : (la || pb) = true := by rfl) (hs : starEach (a :: es) X.env = (false, eval a X.env) :: starEach es X.env := by rfl) :
    TAs X R (a :: es) (tpc r t) la (pa && pb) (fun e => Pa e ∧ Pb (ga e)) (fun e => (fa e, fb (ga e))) (fun e => gb (ga e)) := by
  obtain ⟨ta, h1, h2⟩ := h
  obtain ⟨tb, k1, k2⟩ := hb
  refine ⟨_, pa_cons h1 k1 hs, fun w H σ env Q G q hP k => h2 w H σ env _ G q hP.1 fun v w' H' p hr => ?_⟩
  refine k2 w' H' σ _ _ p.good p.env hP.2 fun vs w2 H2 p2 hr2 => ?_
  exact k _ w2 H2 (p.trans p2) ⟨v, vs, rfl, r.mono (p2.vw hl) hr, hr2⟩
theorem tp_len1 : ∀ (H : Hp) (vs : List V) (x : α), (tp1 r).rep H vs x → vs.length = 1 := fun H vs x ⟨v, h, _⟩ => by rw [h]; rfl
theorem tp_lenc {n : Nat} (h : ∀ (H : Hp) (vs : List V) (x : β), t.rep H vs x → vs.length = n) : ∀ (H : Hp) (vs : List V) (x : α × β), (tpc r t).rep H vs x → vs.length = n + 1 := fun H vs x ⟨v, us, e, _, h2⟩ => by
  rw [e, List.length_cons, h H us _ h2]
theorem tx_tup {k : Nat} {n : Nat} (h : TAs X R es t true pa Pa fb ga) (hl : ∀ H vs x, t.rep H vs x → vs.length = n) (hz : n ≤ 1000 := by decide) : TX X R (.Tuple es k pos) (rTup t) true pa Pa fb ga := by
  obtain ⟨ta, h1, h2⟩ := h
  refine ⟨_, pe_tup h1, fun w H σ env Q G q hP k => h2 w H σ env _ G q hP fun vs w' H' p hr => ⟨?_, fun b hb => ?_⟩⟩
  · rw [hl _ _ _ hr]
    exact Nat.le_trans hz (by decide)
  · have p2 : Post true R w' H' w' (upd H' b (.tup vs)) σ (ga env) := .new p.good p.env hb
    refine k _ w' _ ((p.trans p2).weak (by simp)) ⟨b, vs, rfl, ?_, t.mono p2.le hr⟩
    exact fz_of (p.good.new hb) upd_same
end
/-! ### list[int], tuple[int] -/
theorem paired_get {α : Type} {F : V → α → Prop} : ∀ {vs : List V} {xs : List α} {j : Nat} {x : α}, Paired F vs xs → xs[j]? = some x → ∃ v, vs[j]? = some v ∧ F v x
  | _, _, _, _, .nil, h => by simp at h
  | _, _, 0, x, .cons a t, h => by
    simp at h
    subst h
    exact ⟨_, rfl, a⟩
  | _, _, j + 1, x, .cons a t, h => by
    obtain ⟨v, h1, h2⟩ := paired_get (j := j) (x := x) t (by simpa using h)
    exact ⟨v, by simpa using h1, h2⟩
theorem atI_pair {α : Type} {F : V → α → Prop} {vs : List V} {xs : List α} (h : Paired F vs xs) {i : Int} {j : Nat} (hj : ixN xs.length i = some j) {x : α} (hx : xs[j]? = some x) : ∃ v, atI vs i = some v ∧ F v x := by
  have hl : vs.length = xs.length := Paired.length h
  obtain ⟨v, hv, hF⟩ := paired_get h hx
  exact ⟨v, by unfold atI; rw [hl, hj]; exact hv, hF⟩
end
end Lmo
end
section
set_option Elab.async false
set_option linter.all false
set_option maxRecDepth 100000
set_option maxHeartbeats 4000000
namespace Lmo
open PySem L2
/-! ### items by place -/
/-- the place of an index -/
def at? {α : Type} (xs : List α) (i : Int) : Option α := (ixN xs.length i).bind fun j => xs[j]?
def geti {α : Type} [Inhabited α] (xs : List α) (i : Int) : α := (at? xs i).getD default
theorem at_nat {α : Type} {xs : List α} {j : Nat} : at? xs (j : Int) = xs[j]? := by
  unfold at? ixN
  rw [if_pos (by omega)]
  by_cases h : j < xs.length
  · rw [if_pos (by omega)]
    simp
  · rw [if_neg (by omega)]
    simp at h
    simp [h]
theorem paired_at {α : Type} {F : V → α → Prop} {vs : List V} {xs : List α} (h : Paired F vs xs) {i : Int} {x : α} (hx : at? xs i = some x) : ∃ v, atI vs i = some v ∧ F v x := by
  unfold at? at hx
  cases e : ixN xs.length i with
  | none => rw [e] at hx; cases hx
  | some j =>
    rw [e] at hx
    exact atI_pair h e hx
section
variable {X : Cx} {E : Type} {R : ER E} {pos : Pos} {α : Type} {r : Rp α} {a b : Expr} {la lb pa pb : Bool} {Pa Pb : E → Prop} {ga gb : E → E}
theorem tx_ixL [Inhabited α] {fa : E → List α} {fb : E → Int} (ha : TX X R a (rList r) la pa Pa fa ga) (hb : TX X R b rInt lb pb Pb fb gb) (hl : (la || pb) = true := by rfl) (hs : PlainIx b := by exact fun _ _ => rfl) :
    TX X R (.Subscript a b pos) r la (pa && pb) (fun e => Pa e ∧ Pb (ga e) ∧ (at? (fa e) (fb (ga e))).isSome = true) (fun e => geti (fa e) (fb (ga e))) (fun e => gb (ga e)) := by
  obtain ⟨t, h1, h2⟩ := ha
  obtain ⟨u, k1, k2⟩ := hb
  refine ⟨_, pe_ix ix_list h1 k1 hs, fun w H σ env Q G q hP k => h2 w H σ env _ G q hP.1 fun v w' H' p hv => ?_⟩
  refine k2 w' H' σ _ _ p.good p.env hP.2.1 fun i w2 H2 p2 hi => ?_
  obtain ⟨c, vs, e1, e2, e3, e4⟩ := (rList r).mono (p2.vw hl) hv
  obtain ⟨x, hx⟩ := Option.isSome_iff_exists.mp hP.2.2
  obtain ⟨z, hz, hF⟩ := paired_at e3 hx
  refine ⟨c, vs, _, z, e1, hi, SqL.of (vw_le.lst e2), hz, k z w2 H2 (p.trans p2) ?_⟩
  rw [show geti (fa env) (fb (ga env)) = x by unfold geti; rw [hx]; rfl]
  exact hF
/-- one item of a row -/
structure At {β : Type} (t : Tp β) (i : Nat) (n : Nat) (r : Rp α) (f : β → α) : Prop where
  at_ : ∀ {H : Hp} {vs : List V} {x : β}, t.rep H vs x → vs.length = n ∧ ∃ v, vs[i]? = some v ∧ r.rep H v (f x)
theorem at1 : At (tp1 r) 0 1 r fun x => x := ⟨fun ⟨v, h1, h2⟩ => ⟨by rw [h1]; rfl, v, by rw [h1]; rfl, h2⟩⟩
theorem atc {β : Type} {t : Tp β} {n : Nat} (hl : ∀ H vs x, t.rep H vs x → vs.length = n) : At (tpc r t) 0 (n + 1) r fun x => x.1 := ⟨fun {H vs x} ⟨v, us, h1, h2, h3⟩ => ⟨by rw [h1, List.length_cons, hl _ _ _ h3], v, by rw [h1]; rfl, h2⟩⟩
theorem atS {β γ : Type} {t : Tp β} {s : Rp γ} {i n : Nat} {f : β → α} (h : At t i n r f) : At (tpc s t) (i + 1) (n + 1) r fun x => f x.2 := ⟨fun {H vs x} ⟨v, us, h1, h2, h3⟩ => by
  obtain ⟨h4, u, h5, h6⟩ := h.at_ h3
  exact ⟨by rw [h1, List.length_cons, h4], u, by rw [h1]; simpa using h5, h6⟩⟩
theorem tx_ixT {β : Type} {t : Tp β} {fa : E → β} {i n : Nat} {f : β → α} (ha : TX X R a (rTup t) la pa Pa fa ga) (h : At t i n r f) {j : Nat} {ip : Pos} (hs : PlainIx (.Constant (.int (i : Int)) j ip) := by exact fun _ _ => rfl) :
    TX X R (.Subscript a (.Constant (.int (i : Int)) j ip) pos) r la pa Pa (fun e => f (fa e)) ga := by
  obtain ⟨u, h1, h2⟩ := ha
  refine ⟨_, pe_ix ix_tup h1 pe_int hs, fun w H σ env Q G q hP k => h2 w H σ env _ G q hP fun v w' H' p hv => ?_⟩
  obtain ⟨c, vs, e1, e2, e3⟩ := hv
  obtain ⟨hn, z, h5, h6⟩ := h.at_ e3
  exact ⟨c, vs, _, z, e1, rfl, SqT.of (vw_le.tup e2), atI_nat h5, k z w' H' p h6⟩
end
/-! ### new lists, new dicts -/
/-- the value is a new list; b its address, the heap ahead of it H' -/
structure TN (X : Cx) {E : Type} (R : ER E) (e : Expr) {α : Type} (r : Rp α) (p : Bool) (P : E → Prop) (f : E → List α) (g : E → E) : Prop where
  ex : ∃ t, PE X e t ∧ ∀ (w : Own) (H : Hp) (σ : St) (env : E) (Q : VK), Good w H → R.rel w H [] 2 σ env → P env →
    (∀ b vs w' H', H' b = none → Post p R w H w' H' σ (g env) → Paired (r.rep (fz w' H')) vs (f env) → (f env).length ≤ LIM → Q (.ref b) (upd H' b (.lst vs))) → t σ H Q
structure TM (X : Cx) {E : Type} (R : ER E) (e : Expr) {κ β : Type} (kk : Kp κ) (r : Rp β) (p : Bool) (P : E → Prop) (f : E → List (κ × β)) (g : E → E) : Prop where
  ex : ∃ t, PE X e t ∧ ∀ (w : Own) (H : Hp) (σ : St) (env : E) (Q : VK), Good w H → R.rel w H [] 2 σ env → P env →
    (∀ b kvs w' H', H' b = none → Post p R w H w' H' σ (g env) → DRel kk r (fz w' H') kvs (f env) → ((f env).map (·.1)).Nodup → (f env).length ≤ LIM → Q (.ref b) (upd H' b (.dK kvs))) → t σ H Q
section
variable {X : Cx} {E : Type} {R : ER E} {pos : Pos} {α β κ : Type} {r : Rp α} {e : Expr} {p : Bool} {P : E → Prop} {g : E → E}
theorem lim_size {n : Nat} (h : n ≤ LIM) : n ≤ sizeLine := Nat.le_trans h (by decide)
/-- it may be shared from now on -/
theorem tx_newL {f : E → List α} (h : TN X R e r p P f g) : TX X R e (rList r) true p P f g := by
  obtain ⟨t, h1, h2⟩ := h
  refine ⟨t, h1, fun w H σ env Q G q hP k => h2 w H σ env Q G q hP fun b vs w' H' hb hp hr hl => ?_⟩
  have p2 : Post true R w' H' w' (upd H' b (.lst vs)) σ (g env) := .new hp.good hp.env hb
  refine k _ w' _ ((hp.trans p2).weak (by simp)) ⟨b, vs, rfl, fz_of (hp.good.new hb) upd_same, paired_le p2.le hr, hl⟩
theorem tx_newD {kk : Kp κ} {s : Rp β} {f : E → List (κ × β)} (h : TM X R e kk s p P f g) : TX X R e (rDict kk s) true p P f g := by
  obtain ⟨t, h1, h2⟩ := h
  refine ⟨t, h1, fun w H σ env Q G q hP k => h2 w H σ env Q G q hP fun b kvs w' H' hb hp hr hn hl => ?_⟩
  have p2 : Post true R w' H' w' (upd H' b (.dK kvs)) σ (g env) := .new hp.good hp.env hb
  refine k _ w' _ ((hp.trans p2).weak (by simp)) ⟨b, _, kvs, rfl, fz_of (hp.good.new hb) upd_same, rfl, hr.mono p2.le, hn, hl⟩
/-- a row as a list -/
structure Row {β : Type} (t : Tp β) (r : Rp α) (n : Nat) (f : β → List α) : Prop where
  row : ∀ {H : Hp} {vs : List V} {x : β}, t.rep H vs x → Paired (r.rep H) vs (f x) ∧ vs.length = n ∧ (f x).length = n
theorem row0 : Row tp0 r 0 fun _ => [] := ⟨fun h => by
  have e := h
  unfold tp0 at e
  simp at e
  subst e
  exact ⟨.nil, rfl, rfl⟩⟩
theorem row1 : Row (tp1 r) r 1 fun x => [x] := ⟨fun ⟨v, h1, h2⟩ => by
  subst h1
  exact ⟨.cons h2 .nil, rfl, rfl⟩⟩
theorem rowc {β : Type} {t : Tp β} {n : Nat} {f : β → List α} (h : Row t r n f) : Row (tpc r t) r (n + 1) fun x => x.1 :: f x.2 := ⟨fun ⟨v, us, h1, h2, h3⟩ => by
  subst h1
  obtain ⟨h4, h5, h6⟩ := h.row h3
  exact ⟨.cons h2 h4, by rw [List.length_cons, h5], by rw [List.length_cons, h6]⟩⟩
theorem tn_list {es : List Expr} {t : Tp β} {fb : E → β} {n : Nat} {f : β → List α} (h : TAs X R es t true p P fb g) (hr : Row t r n f) (hz : n ≤ LIM := by decide) : TN X R (.List es pos) r p P (fun e => f (fb e)) g := by
  obtain ⟨ta, h1, h2⟩ := h
  refine ⟨_, pe_lst h1, fun w H σ env Q G q hP k => h2 w H σ env _ G q hP fun vs w' H' hp hv => ?_⟩
  obtain ⟨h4, h5, h6⟩ := hr.row hv
  exact ⟨by rw [h5]; exact lim_size hz, fun b hb => k b vs w' H' hb hp h4 (by rw [h6]; exact hz)⟩
theorem tm_nil {kk : Kp κ} {s : Rp β} : TM X R (.Dict [] [] pos) kk s true (fun _ => True) (fun _ => []) (fun e => e) :=
  ⟨_, pe_dnewK, fun w H σ env Q G q _ k => fun b hb => k b [] w H hb (.refl G q) .nil List.nodup_nil (Nat.zero_le _)⟩
/-! ### slices -/
def cut {α : Type} (xs : List α) (lo hi : Option Int) : List α := (xs.drop (HT.sIx xs.length 0 lo)).take (HT.sIx xs.length xs.length hi - HT.sIx xs.length 0 lo)
theorem cut_length {α : Type} (xs : List α) (lo hi : Option Int) : (cut xs lo hi).length ≤ xs.length := by
  unfold cut
  rw [List.length_take, List.length_drop]
  omega
theorem paired_drop {F : V → α → Prop} : ∀ (n : Nat) {vs : List V} {xs : List α}, Paired F vs xs → Paired F (vs.drop n) (xs.drop n)
  | 0, _, _, h => h
  | _ + 1, _, _, .nil => .nil
  | n + 1, _, _, .cons _ t => paired_drop n t
theorem paired_take {F : V → α → Prop} : ∀ (n : Nat) {vs : List V} {xs : List α}, Paired F vs xs → Paired F (vs.take n) (xs.take n)
  | 0, _, _, _ => .nil
  | _ + 1, _, _, .nil => .nil
  | n + 1, _, _, .cons a t => .cons a (paired_take n t)
theorem paired_cut {F : V → α → Prop} {vs : List V} {xs : List α} (h : Paired F vs xs) (lo hi : Option Int) : Paired F (cutV vs lo hi) (cut xs lo hi) := by
  unfold cutV cut
  rw [Paired.length h]
  exact paired_take _ (paired_drop _ h)
/-- values of a level that may be shared -/
class Up {α : Type} (lv : Bool) (r : Rp α) : Prop where
  up : ∀ (w : Own) (H : Hp) (v : V) (x : α), r.rep (vw lv w H) v x → r.rep (fz w H) v x
instance : Up true r := ⟨fun _ _ _ _ h => h⟩
instance (priority := low) [Flat r] {lv : Bool} : Up lv r := ⟨fun _ _ _ _ h => Flat.any _ _ _ _ h⟩
/-- a part of a slice -/
structure TO (X : Cx) {E : Type} (R : ER E) (o : Option Expr) (P : E → Prop) (f : E → Option Int) : Prop where
  ex : ∃ t, PO X o t ∧ ∀ (w : Own) (H : Hp) (σ : St) (env : E) (Q : Option Int → Hp → Prop), Good w H → R.rel w H [] 2 σ env → P env →
    (∀ H', Post true R w H w H' σ env → Q (f env) H') → t σ H Q
theorem to_none : TO X R none (fun _ => True) (fun _ => none) := ⟨_, po_none, fun w H σ env Q G q _ k => k H (.refl G q)⟩
theorem to_some {f : E → Int} {lv : Bool} (h : TX X R e rInt lv true P f fun e => e) : TO X R (some e) P (fun e => some (f e)) := by
  obtain ⟨t, h1, h2⟩ := h
  refine ⟨_, po_some h1, fun w H σ env Q G q hP k => h2 w H σ env _ G q hP fun v w' H' hp hv => ⟨_, hv, ?_⟩⟩
  obtain ⟨e1, _⟩ := hp.pur rfl
  subst e1
  exact k H' hp
theorem tn_slice {lo hi : Option Expr} {p2 : Pos} {Pl Ph : E → Prop} {fl fh : E → Option Int} {f : E → List α} {lv : Bool} [Up lv r] (h : TX X R e (rList r) lv p P f g) (hl : TO X R lo Pl fl) (hh : TO X R hi Ph fh) :
    TN X R (.Subscript e (.Slice lo hi none p2) pos) r p (fun e => P e ∧ Pl (g e) ∧ Ph (g e)) (fun e => cut (f e) (fl (g e)) (fh (g e))) g := by
  obtain ⟨t, h1, h2⟩ := h
  obtain ⟨tl, l1, l2⟩ := hl
  obtain ⟨th, u1, u2⟩ := hh
  refine ⟨_, pe_slice sl_list h1 l1 u1, fun w H σ env Q G q hP k => h2 w H σ env _ G q hP.1 fun v w' H' hp hv => ?_⟩
  refine l2 w' H' σ _ _ hp.good hp.env hP.2.1 fun H2 hp2 => u2 w' H2 σ _ _ hp2.good hp2.env hP.2.2 fun H3 hp3 => ?_
  have hp23 := hp2.trans hp3
  obtain ⟨c, vs, e1, e2, e3, e4⟩ := (rList r).mono (hp23.vw (by simp)) hv
  refine ⟨c, vs, e1, SqL.of (vw_le.lst e2), fun b hb => k b _ w' H3 hb ((hp.trans hp23).weak (by simp)) ?_ (Nat.le_trans (cut_length _ _ _) e4)⟩
  exact paired_mono (fun _ _ z => Up.up (lv := lv) w' H3 _ _ z) (paired_cut e3 _ _)
end
/-! ### built-in calls -/
section
variable {X : Cx} {E : Type} {R : ER E} {pos np : Pos} {α β γ : Type} {t : Tp α} {rc : Rp γ} {e : Expr} {es : List Expr} {lv p : Bool} {P : E → Prop} {f : E → α} {g : E → E} {C : α → Prop} {h : α → γ} {x : Str}
def CalF (X : Cx) (fn : Value) {α γ : Type} (t : Tp α) (rc : Rp γ) (C : α → Prop) (h : α → γ) : Prop :=
  ∃ r : List V → Hp → VK → Prop, CallR X fn r ∧ ∀ (H : Hp) (vs : List V) (x : α) (Q : VK), t.rep H vs x → C x → (∀ z, rc.rep H z (h x) → Q z H) → r vs H Q
theorem tx_callB [Flat rc] {id : String} (hc : CalF X (.builtin id) t rc C h) (hg : Gl X x) (hm : X.mg x = none) (hv : bootBuiltins x = some (.builtin id)) (ha : TAs X R (e :: es) t lv p P f g) (hn : x ≠ "__name__" := by decide) (hdb : (x == ("__debug__" : Str)) = false := by decide)
    (he : starEach (e :: es) X.env = (false, eval e X.env) :: starEach es X.env := by rfl) (hpl : (backTo pos (starEach es X.env)).any (·.1) = false := by rfl) :
    TX X R (.Call (.Name x np) (e :: es) [] pos) rc true p (fun e => P e ∧ C (f e)) (fun e => h (f e)) g := by
  obtain ⟨r, c1, c2⟩ := hc
  obtain ⟨ta, h1, h2⟩ := ha
  refine ⟨_, pe_callB c1 hg hm hv h1 hn hdb he hpl, fun w H σ env Q G q hP k => h2 w H σ env _ G q hP.1 fun vs w' H' hp hr => ?_⟩
  exact c2 H' vs _ Q (t.mono vw_le hr) hP.2 fun z hz => k z w' H' hp (Flat.any _ _ _ _ hz)
theorem tx_callT [Flat rc] {id : String} (hc : CalF X (.type id) t rc C h) (hg : Gl X x) (hm : X.mg x = none) (hv : bootBuiltins x = some (.type id)) (ha : TAs X R (e :: es) t lv p P f g) (hn : x ≠ "__name__" := by decide) (hdb : (x == ("__debug__" : Str)) = false := by decide)
    (he : starEach (e :: es) X.env = (false, eval e X.env) :: starEach es X.env := by rfl) (hpl : (backTo pos (starEach es X.env)).any (·.1) = false := by rfl) :
    TX X R (.Call (.Name x np) (e :: es) [] pos) rc true p (fun e => P e ∧ C (f e)) (fun e => h (f e)) g := by
  obtain ⟨r, c1, c2⟩ := hc
  obtain ⟨ta, h1, h2⟩ := ha
  refine ⟨_, pe_callTy c1 hg hm hv h1 hn hdb he hpl, fun w H σ env Q G q hP k => h2 w H σ env _ G q hP.1 fun vs w' H' hp hr => ?_⟩
  exact c2 H' vs _ Q (t.mono vw_le hr) hP.2 fun z hz => k z w' H' hp (Flat.any _ _ _ _ hz)
/-- a call that makes a list: what stood stands, its items are told where the arguments were -/
def CalN (X : Cx) (fn : Value) {α γ : Type} (t : Tp α) (rc : Rp γ) (C : α → Prop) (h : α → List γ) : Prop :=
  ∃ r : List V → Hp → VK → Prop, CallR X fn r ∧ ∀ (K H : Hp) (vs : List V) (x : α) (Q : VK), Le K H → t.rep K vs x → C x → (h x).length ≤ LIM ∧ ((∀ b us, H b = none → Paired (rc.rep K) us (h x) → Q (.ref b) (upd H b (.lst us))) → r vs H Q)
theorem tn_callB {id : String} [Up lv rc] (hc : CalN X (.builtin id) t rc C h2) (hg : Gl X x) (hm : X.mg x = none) (hv : bootBuiltins x = some (.builtin id)) (ha : TAs X R (e :: es) t lv p P f g) (hn : x ≠ "__name__" := by decide) (hdb : (x == ("__debug__" : Str)) = false := by decide)
    (he : starEach (e :: es) X.env = (false, eval e X.env) :: starEach es X.env := by rfl) (hpl : (backTo pos (starEach es X.env)).any (·.1) = false := by rfl) :
    TN X R (.Call (.Name x np) (e :: es) [] pos) rc p (fun e => P e ∧ C (f e)) (fun e => h2 (f e)) g := by
  obtain ⟨r, c1, c2⟩ := hc
  obtain ⟨ta, k1, k2⟩ := ha
  refine ⟨_, pe_callB c1 hg hm hv k1 hn hdb he hpl, fun w H σ env Q G q hP k => k2 w H σ env _ G q hP.1 fun vs w' H' hp hr => ?_⟩
  obtain ⟨hl, c3⟩ := c2 (vw lv w' H') H' vs _ Q vw_le hr hP.2
  exact c3 fun b us hb hu => k b us w' H' hb hp (paired_mono (fun _ _ z => Up.up (lv := lv) w' H' _ _ z) hu) hl
theorem tn_callT {id : String} [Up lv rc] (hc : CalN X (.type id) t rc C h2) (hg : Gl X x) (hm : X.mg x = none) (hv : bootBuiltins x = some (.type id)) (ha : TAs X R (e :: es) t lv p P f g) (hn : x ≠ "__name__" := by decide) (hdb : (x == ("__debug__" : Str)) = false := by decide)
    (he : starEach (e :: es) X.env = (false, eval e X.env) :: starEach es X.env := by rfl) (hpl : (backTo pos (starEach es X.env)).any (·.1) = false := by rfl) :
    TN X R (.Call (.Name x np) (e :: es) [] pos) rc p (fun e => P e ∧ C (f e)) (fun e => h2 (f e)) g := by
  obtain ⟨r, c1, c2⟩ := hc
  obtain ⟨ta, k1, k2⟩ := ha
  refine ⟨_, pe_callTy c1 hg hm hv k1 hn hdb he hpl, fun w H σ env Q G q hP k => k2 w H σ env _ G q hP.1 fun vs w' H' hp hr => ?_⟩
  obtain ⟨hl, c3⟩ := c2 (vw lv w' H') H' vs _ Q vw_le hr hP.2
  exact c3 fun b us hb hu => k b us w' H' hb hp (paired_mono (fun _ _ z => Up.up (lv := lv) w' H' _ _ z) hu) hl
end
end Lmo
end
section
set_option Elab.async false
set_option linter.all false
set_option maxRecDepth 100000
set_option maxHeartbeats 4000000
namespace Lmo
open PySem L2
section
variable {X : Cx} {α β γ κ : Type} {r : Rp α}
theorem paired_int {H : Hp} : ∀ {vs : List V} {xs : List Int}, Paired (rInt.rep H) vs xs → vs = xs.map V.int
  | _, _, .nil => rfl
  | _, _, .cons h t => by
    rw [List.map_cons, ← paired_int t, show _ = _ from h]
theorem paired_ints {H : Hp} : ∀ (xs : List Int), Paired (rInt.rep H) (xs.map V.int) xs
  | [] => .nil
  | _ :: xs => .cons rfl (paired_ints xs)
theorem paired_bl {H : Hp} : ∀ {vs : List V} {xs : List Bool}, Paired (rBool.rep H) vs xs → vs = xs.map V.bl
  | _, _, .nil => rfl
  | _, _, .cons h t => by
    rw [List.map_cons, ← paired_bl t, show _ = _ from h]
/-! ### len, sums, greatest and least -/
theorem c_lenL : CalF X (.builtin "len") (tp1 (rList r)) rInt (fun _ => True) fun xs => (xs.length : Int) := ⟨_, call_len, fun H vs x Q h _ k => by
  obtain ⟨v, rfl, a, us, rfl, h2, h3, _⟩ := h
  exact ⟨_, us.length, rfl, .inl ⟨us, SqL.of h2, rfl⟩, k _ (by rw [Paired.length h3]; rfl)⟩⟩
def rLenD : List V → Hp → VK → Prop := fun xs H Q => ∃ (a : Addr) (kvs : List (Key × V)), xs = [V.ref a] ∧ Rd H a (.dK kvs) ∧ Q (.int (kvs.length : Int)) H
theorem call_lenRd : CallR X (.builtin "len") rLenD := by
  intro pins s σ H xs us Q I rr h
  obtain ⟨a, kvs, rfl, ha, q⟩ := h
  obtain ⟨u, rfl, ru⟩ := vals1 rr
  cases ru
  exact d_len I ha fun t s' I' => ⟨.int kvs.length, H, I', ⟨t, rfl⟩, q⟩
theorem rd_nrm {H : Hp} {a : Addr} {o : HO} {kvs : List (Key × V)} (h : H a = some o) (e : nrm o = .dK kvs) : Rd H a (.dK kvs) := by
  rcases nrm_dK e with rfl | ⟨ob, rfl⟩
  · exact .inl h
  · exact .inr ⟨ob, h⟩
theorem c_lenD {kk : Kp κ} {s : Rp β} : CalF X (.builtin "len") (tp1 (rDict kk s)) rInt (fun _ => True) fun xs => (xs.length : Int) := ⟨_, call_lenRd, fun H vs x Q h _ k => by
  obtain ⟨v, rfl, a, o, kvs, rfl, h2, h3, h4, _⟩ := h
  exact ⟨a, kvs, rfl, rd_nrm h2 h3, k _ (by rw [Paired.length h4]; rfl)⟩⟩
def max2 (i j : Int) : Int := if j > i then j else i
def min2 (i j : Int) : Int := if j < i then j else i
theorem c_max2 (hc : X.calm = true) : CalF X (.builtin "max") (tpc rInt (tp1 rInt)) rInt (fun _ => True) fun x => max2 x.1 x.2 := ⟨_, call_max2 hc, fun H vs x Q h _ k => by
  obtain ⟨v, us, rfl, h1, u, rfl, h2⟩ := h
  exact ⟨x.1, x.2, by rw [show v = _ from h1, show u = _ from h2], k _ rfl⟩⟩
theorem c_min2 (hc : X.calm = true) : CalF X (.builtin "min") (tpc rInt (tp1 rInt)) rInt (fun _ => True) fun x => min2 x.1 x.2 := ⟨_, call_min2 hc, fun H vs x Q h _ k => by
  obtain ⟨v, us, rfl, h1, u, rfl, h2⟩ := h
  exact ⟨x.1, x.2, by rw [show v = _ from h1, show u = _ from h2], k _ rfl⟩⟩
theorem max2_eq (i j : Int) : max2 i j = max i j := by unfold max2; omega
theorem min2_eq (i j : Int) : min2 i j = min i j := by unfold min2; omega
theorem c_sum (hc : X.calm = true) : CalF X (.builtin "sum") (tp1 (rList rInt)) rInt (fun _ => True) fun xs => xs.sum := ⟨_, cr_sum hc, fun H vs x Q h _ k => by
  obtain ⟨v, rfl, a, us, rfl, h2, h3, _⟩ := h
  rw [paired_int h3] at h2
  exact ⟨a, x, rfl, SqL.of h2, k _ rfl⟩⟩
theorem c_any (hc : X.calm = true) : CalF X (.builtin "any") (tp1 (rList rBool)) rBool (fun _ => True) fun xs => xs.any id := ⟨_, cr_any hc, fun H vs x Q h _ k => by
  obtain ⟨v, rfl, a, us, rfl, h2, h3, _⟩ := h
  rw [paired_bl h3] at h2
  exact ⟨a, x, rfl, SqL.of h2, k _ rfl⟩⟩
theorem c_all (hc : X.calm = true) : CalF X (.builtin "all") (tp1 (rList rBool)) rBool (fun _ => True) fun xs => xs.all id := ⟨_, cr_all hc, fun H vs x Q h _ k => by
  obtain ⟨v, rfl, a, us, rfl, h2, h3, _⟩ := h
  rw [paired_bl h3] at h2
  exact ⟨a, x, rfl, SqL.of h2, k _ rfl⟩⟩
theorem c_int : CalF X (.type "int") (tp1 rInt) rInt (fun _ => True) fun x => x := ⟨_, call_int1, fun H vs x Q h _ k => by
  obtain ⟨v, rfl, h⟩ := h
  exact .inl ⟨x, by rw [show v = _ from h], k _ rfl⟩⟩
theorem c_intB : CalF X (.type "int") (tp1 rBool) rInt (fun _ => True) fun x => if x = true then 1 else 0 := ⟨_, call_int1, fun H vs x Q h _ k => by
  obtain ⟨v, rfl, h⟩ := h
  exact .inr ⟨x, by rw [show v = _ from h], k _ (by cases x <;> rfl)⟩⟩
/-- the greatest of a list, the least -/
def lmax : List Int → Int
  | [] => 0
  | x :: xs => xs.foldl max x
def lmin : List Int → Int
  | [] => 0
  | x :: xs => xs.foldl min x
theorem foldl_max_mem : ∀ (xs : List Int) (x : Int), xs.foldl max x = x ∨ xs.foldl max x ∈ xs
  | [], x => .inl rfl
  | y :: ys, x => by
    rcases foldl_max_mem ys (max x y) with h | h
    · rw [List.foldl_cons, h]
      by_cases hxy : x ≤ y
      · exact .inr (by rw [Int.max_eq_right hxy]; exact List.mem_cons_self)
      · exact .inl (Int.max_eq_left (by omega))
    · exact .inr (List.mem_cons_of_mem _ h)
theorem foldl_max_le : ∀ (xs : List Int) (x : Int), x ≤ xs.foldl max x ∧ ∀ y ∈ xs, y ≤ xs.foldl max x
  | [], x => ⟨Int.le_refl _, fun _ h => by cases h⟩
  | y :: ys, x => by
    obtain ⟨h1, h2⟩ := foldl_max_le ys (max x y)
    refine ⟨Int.le_trans (Int.le_max_left x y) h1, fun z hz => ?_⟩
    rcases List.mem_cons.mp hz with rfl | hz
    · exact Int.le_trans (Int.le_max_right x z) h1
    · exact h2 z hz
theorem lmax_mem {xs : List Int} (h : xs ≠ []) : lmax xs ∈ xs := by
  cases xs with
  | nil => exact absurd rfl h
  | cons x xs =>
    rcases foldl_max_mem xs x with e | e
    · show xs.foldl max x ∈ _
      rw [e]
      exact List.mem_cons_self
    · exact List.mem_cons_of_mem _ e
theorem le_lmax {xs : List Int} {x : Int} (h : x ∈ xs) : x ≤ lmax xs := by
  cases xs with
  | nil => cases h
  | cons y ys =>
    rcases List.mem_cons.mp h with rfl | h
    · exact (foldl_max_le ys x).1
    · exact (foldl_max_le ys y).2 x h
theorem lmax_eq {xs : List Int} {m : Int} (h : m ∈ xs) (k : ∀ y ∈ xs, y ≤ m) : m = lmax xs :=
  Int.le_antisymm (le_lmax h) (k _ (lmax_mem fun e => by rw [e] at h; cases h))
theorem foldl_min_mem : ∀ (xs : List Int) (x : Int), xs.foldl min x = x ∨ xs.foldl min x ∈ xs
  | [], x => .inl rfl
  | y :: ys, x => by
    rcases foldl_min_mem ys (min x y) with h | h
    · rw [List.foldl_cons, h]
      by_cases hxy : x ≤ y
      · exact .inl (Int.min_eq_left hxy)
      · exact .inr (by rw [Int.min_eq_right (by omega)]; exact List.mem_cons_self)
    · exact .inr (List.mem_cons_of_mem _ h)
theorem foldl_min_le : ∀ (xs : List Int) (x : Int), xs.foldl min x ≤ x ∧ ∀ y ∈ xs, xs.foldl min x ≤ y
  | [], x => ⟨Int.le_refl _, fun _ h => by cases h⟩
  | y :: ys, x => by
    obtain ⟨h1, h2⟩ := foldl_min_le ys (min x y)
    refine ⟨Int.le_trans h1 (Int.min_le_left x y), fun z hz => ?_⟩
    rcases List.mem_cons.mp hz with rfl | hz
    · exact Int.le_trans h1 (Int.min_le_right x z)
    · exact h2 z hz
theorem lmin_mem {xs : List Int} (h : xs ≠ []) : lmin xs ∈ xs := by
  cases xs with
  | nil => exact absurd rfl h
  | cons x xs =>
    rcases foldl_min_mem xs x with e | e
    · show xs.foldl min x ∈ _
      rw [e]
      exact List.mem_cons_self
    · exact List.mem_cons_of_mem _ e
theorem lmin_le {xs : List Int} {x : Int} (h : x ∈ xs) : lmin xs ≤ x := by
  cases xs with
  | nil => cases h
  | cons y ys =>
    rcases List.mem_cons.mp h with rfl | h
    · exact (foldl_min_le ys x).1
    · exact (foldl_min_le ys y).2 x h
theorem lmin_eq {xs : List Int} {m : Int} (h : m ∈ xs) (k : ∀ y ∈ xs, m ≤ y) : m = lmin xs :=
  Int.le_antisymm (k _ (lmin_mem fun e => by rw [e] at h; cases h)) (lmin_le h)
theorem c_maxL (hc : X.calm = true) : CalF X (.builtin "max") (tp1 (rList rInt)) rInt (fun xs => xs ≠ []) lmax := ⟨_, cr_max hc, fun H vs x Q h c k => by
  obtain ⟨v, rfl, a, us, rfl, h2, h3, _⟩ := h
  rw [paired_int h3] at h2
  refine ⟨a, x, rfl, SqL.of h2, List.length_pos_iff.mpr c, fun m hm hy => k _ ?_⟩
  rw [lmax_eq hm hy]
  rfl⟩
theorem c_minL (hc : X.calm = true) : CalF X (.builtin "min") (tp1 (rList rInt)) rInt (fun xs => xs ≠ []) lmin := ⟨_, cr_min hc, fun H vs x Q h c k => by
  obtain ⟨v, rfl, a, us, rfl, h2, h3, _⟩ := h
  rw [paired_int h3] at h2
  refine ⟨a, x, rfl, SqL.of h2, List.length_pos_iff.mpr c, fun m hm hy => k _ ?_⟩
  rw [lmin_eq hm hy]
  rfl⟩
/-! ### sorted of ints, new lists of old ones -/
def srt (xs : List Int) : List Int := xs.mergeSort fun a b => decide (a ≤ b)
theorem srt_perm (xs : List Int) : (srt xs).Perm xs := List.mergeSort_perm xs _
theorem srt_pair (xs : List Int) : (srt xs).Pairwise (· ≤ ·) := by
  have h := List.pairwise_mergeSort (le := fun a b : Int => decide (a ≤ b)) (fun a b c h1 h2 => by simp at *; omega) (fun a b => by simp; omega) xs
  exact h.imp fun h => by simpa using h
theorem sorted_uniq : ∀ {xs ys : List Int}, xs.Perm ys → xs.Pairwise (· ≤ ·) → ys.Pairwise (· ≤ ·) → xs = ys
  | [], ys, p, _, _ => by rw [List.nil_perm.mp p]
  | x :: xs, [], p, _, _ => absurd p.length_eq (by simp)
  | x :: xs, y :: ys, p, h1, h2 => by
    obtain ⟨a1, a2⟩ := List.pairwise_cons.mp h1
    obtain ⟨b1, b2⟩ := List.pairwise_cons.mp h2
    have e : x = y := by
      have hx : x ∈ y :: ys := p.mem_iff.mp List.mem_cons_self
      have hy : y ∈ x :: xs := p.mem_iff.mpr List.mem_cons_self
      rcases List.mem_cons.mp hx with e | hx
      · exact e
      · rcases List.mem_cons.mp hy with e | hy
        · exact e.symm
        · exact Int.le_antisymm (a1 y hy) (b1 x hx)
    subst e
    rw [sorted_uniq (p.cons_inv) a2 b2]
theorem c_sortI : CalN X (.builtin "sorted") (tp1 (rList rInt)) rInt (fun _ => True) srt := ⟨_, cr_sortedI, fun K H vs x Q l h _ => by
  obtain ⟨v, rfl, a, us, rfl, h2, h3, h4⟩ := h
  refine ⟨by rw [(srt_perm _).length_eq]; exact h4, fun k => ?_⟩
  rw [paired_int h3] at h2
  refine ⟨a, x, rfl, SqL.of (l.lst h2), fun ns' p hp hs hn => ?_⟩
  rw [sorted_uniq (hp.trans (srt_perm x).symm) hs (srt_pair x)]
  exact k p _ hn (paired_ints _)⟩
theorem c_listL : CalN X (.type "list") (tp1 (rList r)) r (fun _ => True) fun xs => xs := ⟨_, call_list_of, fun K H vs x Q l h _ => by
  obtain ⟨v, rfl, a, us, rfl, h2, h3, h4⟩ := h
  exact ⟨h4, fun k => ⟨a, us, rfl, .inl (SqL.of (l.lst h2)), fun b hb => k b us hb h3⟩⟩⟩
end
end Lmo
end
section
set_option Elab.async false
set_option linter.all false
set_option maxRecDepth 100000
set_option maxHeartbeats 4000000
namespace Lmo
open PySem L2
/-! ### what is walked -/
structure TI (X : Cx) {E : Type} (R : ER E) (tg iter : Expr) {α : Type} (r : Rp α) (lv p : Bool) (P : E → Prop) (f : E → List α) (g : E → E) : Prop where
  ex : ∃ wi, PI X tg iter wi ∧ ∀ (w : Own) (H : Hp) (σ : St) (env : E) (Rk : It → Hp → Prop), Good w H → R.rel w H [] 2 σ env → P env →
    (∀ J w' H' G Y, Post p R w H w' H' σ (g env) → (f env).length ≤ LIM → Walk J (f env).length G Y → (∀ w2 H2, Le (vw lv w' H') (vw lv w2 H2) → G H2) →
      (∀ i v H2 H3 w2, Good w2 H2 → Le (vw lv w' H') (vw lv w2 H2) → i < (f env).length → Y i H2 v H3 →
        (Le H2 H3 ∧ ∀ a t, w2 a = some t → H3 a = H2 a) ∧ ∃ x, (f env)[i]? = some x ∧ r.rep (vw lv w2 H3) v x) → Rk J H') → wi σ H Rk
theorem paired_get2 {δ α : Type} {F : δ → α → Prop} : ∀ {vs : List δ} {xs : List α} {j : Nat} {v : δ}, Paired F vs xs → vs[j]? = some v → ∃ x, xs[j]? = some x ∧ F v x
  | _, _, _, _, .nil, h => by simp at h
  | _, _, 0, v, .cons a t, h => by
    simp at h
    subst h
    exact ⟨_, rfl, a⟩
  | _, _, j + 1, v, .cons a t, h => by
    obtain ⟨x, h1, h2⟩ := paired_get2 (j := j) (v := v) t (by simpa using h)
    exact ⟨x, by simpa using h1, h2⟩
section
variable {X : Cx} {E : Type} {R : ER E} {tg e : Expr} {α β κ : Type} {r : Rp α} {lv p : Bool} {P : E → Prop} {g : E → E} {pos np : Pos}
theorem ti_list {f : E → List α} (h : TX X R e (rList r) lv p P f g) : TI X R tg e r lv p P f g := by
  obtain ⟨t, h1, h2⟩ := h
  refine ⟨_, pi_list h1, fun w H σ env Rk G q hP k => h2 w H σ env _ G q hP fun v w' H' hp hv => ?_⟩
  obtain ⟨a, vs, rfl, e2, e3, e4⟩ := hv
  have hl : vs.length = (f env).length := Paired.length e3
  refine ⟨a, rfl, ⟨vs, SqL.of (vw_le.lst e2)⟩, ?_⟩
  have wk := walk_list (K := X.K) (a := a) (xs := vs)
  rw [hl] at wk
  refine k _ w' H' _ _ hp e4 wk (fun w2 H2 l => SqL.of (vw_le.lst (l.lst e2))) fun i v H2 H3 w2 G2 l hi y => ?_
  obtain ⟨rfl, hy⟩ := y
  obtain ⟨x, hx, hF⟩ := paired_get2 e3 hy
  exact ⟨⟨.refl _, fun _ _ _ => rfl⟩, x, hx, r.mono l hF⟩
/-- ints from lo on -/
def rng (lo : Int) (n : Nat) : List Int := (List.range n).map fun i => lo + (i : Nat)
theorem rng_len (lo : Int) (n : Nat) : (rng lo n).length = n := by unfold rng; simp
theorem rng_get (lo : Int) (n : Nat) {i : Nat} (h : i < n) : (rng lo n)[i]? = some (lo + (i : Nat)) := by unfold rng; simp [h]
theorem mem_rng {lo : Int} {n : Nat} {x : Int} : x ∈ rng lo n ↔ lo ≤ x ∧ x < lo + n := by
  unfold rng
  simp only [List.mem_map, List.mem_range]
  constructor
  · rintro ⟨i, h, rfl⟩
    omega
  · intro h
    exact ⟨(x - lo).toNat, by omega, by omega⟩
theorem fz_vw' {w : Own} {H : Hp} : Le (vw true w H) (fz w H) := .refl _
/-- ints that no heap bears upon -/
theorem ti_ints {iter : Expr} {wi : L2.TI} {f : E → List Int} (hw : PI X tg iter wi)
    (h2 : ∀ (w : Own) (H : Hp) (σ : St) (env : E) (Rk : It → Hp → Prop), Good w H → R.rel w H [] 2 σ env → P env →
      (∀ J w' H', Post p R w H w' H' σ (g env) → (f env).length ≤ LIM → Walk J (f env).length (fun _ => True) (YFn fun i => .int ((f env)[i]?.getD 0)) → Rk J H') → wi σ H Rk) : TI X R tg iter rInt true p P f g :=
  ⟨_, hw, fun w H σ env Rk G q hP k => h2 w H σ env Rk G q hP fun J w' H' hp hl wk => k J w' H' _ _ hp hl wk (fun _ _ _ => trivial) fun i v H2 H3 w2 G2 l hi y => by
    obtain ⟨rfl, rfl⟩ := y
    refine ⟨⟨.refl _, fun _ _ _ => rfl⟩, (f env)[i], by simp [hi], ?_⟩
    show V.int _ = V.int _
    simp [hi]⟩
theorem walk_rng {lo : Int} {n : Nat} : Walk (Itr lo n) (rng lo n).length (fun _ => True) (YFn fun i => .int ((rng lo n)[i]?.getD 0)) := by
  rw [rng_len]
  refine (walk_range (lo := lo) (n := n)).mono (fun _ h => h) fun i H x H' hi _ y => ?_
  obtain ⟨h1, h2⟩ := y
  refine ⟨h1, ?_⟩
  show x = V.int ((rng lo n)[i]?.getD 0)
  rw [rng_get lo n hi]
  exact h2
theorem ti_range1 {f : E → Int} (h : TAs X R [e] (tp1 rInt) lv p P f g) (hg : Gl X "range") (hm : X.mg "range" = none) (hs : starEach [e] X.env = [(false, eval e X.env)] := by rfl) :
    TI X R tg (.Call (.Name "range" np) [e] [] pos) rInt true p (fun e => P e ∧ -LIM ≤ f e ∧ f e ≤ LIM) (fun e => rng 0 (f e).toNat) g := by
  obtain ⟨t, h1, h2⟩ := h
  refine ti_ints (pi_range1 hg hm h1 hs) fun w H σ env Rk G q hP k => h2 w H σ env _ G q hP.1 fun vs w' H' hp hv => ?_
  obtain ⟨v, rfl, hv⟩ := hv
  have hl : (LIM : Int) = 1000000 := rfl
  obtain ⟨_, q1, q2⟩ := hP
  rw [hl] at q1 q2
  refine ⟨f env, by rw [show v = _ from hv], by omega, by omega, k _ w' H' hp ?_ walk_rng⟩
  rw [rng_len]
  show (f env).toNat ≤ 1000000
  omega
theorem ti_range2 {a b : Expr} {f : E → Int × Int} (h : TAs X R [a, b] (tpc rInt (tp1 rInt)) lv p P f g) (hg : Gl X "range") (hm : X.mg "range" = none) (hs : starEach [a, b] X.env = [(false, eval a X.env), (false, eval b X.env)] := by rfl) (hs2 : starEach [b] X.env = [(false, eval b X.env)] := by rfl) :
    TI X R tg (.Call (.Name "range" np) [a, b] [] pos) rInt true p (fun e => P e ∧ (-(2 ^ 62) ≤ (f e).1 ∧ (f e).1 < 2 ^ 62 ∧ -(2 ^ 62) ≤ (f e).2 ∧ (f e).2 < 2 ^ 62) ∧ (f e).2 - (f e).1 ≤ LIM) (fun e => rng (f e).1 ((f e).2 - (f e).1).toNat) g := by
  obtain ⟨t, h1, h2⟩ := h
  refine ti_ints (pi_range2 hg hm h1 hs hs2) fun w H σ env Rk G q hP k => h2 w H σ env _ G q hP.1 fun vs w' H' hp hv => ?_
  obtain ⟨v, us, rfl, hv, u, rfl, hu⟩ := hv
  have hl : (LIM : Int) = 1000000 := rfl
  obtain ⟨_, q1, q2⟩ := hP
  rw [hl] at q2
  refine ⟨(f env).1, (f env).2, by rw [show v = _ from hv, show u = _ from hu], q1, k _ w' H' hp ?_ walk_rng⟩
  rw [rng_len]
  show ((f env).2 - (f env).1).toNat ≤ 1000000
  omega
/-- range(a, b, -1) -/
def rngD (hi lo : Int) : List Int := (List.range (hi - lo).toNat).map fun i => hi - (i : Nat)
theorem rngD_len (hi lo : Int) : (rngD hi lo).length = (hi - lo).toNat := by unfold rngD; simp
theorem ti_rangeD {a b c : Expr} {f : E → Int × Int × Int} (h : TAs X R [a, b, c] (tpc rInt (tpc rInt (tp1 rInt))) lv p P f g) (hg : Gl X "range") (hm : X.mg "range" = none) (hs : starEach [a, b, c] X.env = (false, eval a X.env) :: starEach [b, c] X.env := by rfl) (hpl : (backTo pos (starEach [b, c] X.env)).any (·.1) = false := by rfl) :
    TI X R tg (.Call (.Name "range" np) [a, b, c] [] pos) rInt true p (fun e => P e ∧ (f e).2.2 = -1 ∧ (-(2 ^ 62) ≤ (f e).1 ∧ (f e).1 < 2 ^ 62 ∧ -(2 ^ 62) ≤ (f e).2.1 ∧ (f e).2.1 < 2 ^ 62) ∧ (f e).1 - (f e).2.1 ≤ LIM) (fun e => rngD (f e).1 (f e).2.1) g := by
  obtain ⟨t, h1, h2⟩ := h
  refine ti_ints (pi_range3 hg hm h1 hs hpl) fun w H σ env Rk G q hP k => h2 w H σ env _ G q hP.1 fun vs w' H' hp hv => ?_
  obtain ⟨v, us, rfl, hv, u, us', rfl, hu, z, rfl, hz⟩ := hv
  have hl : (LIM : Int) = 1000000 := rfl
  obtain ⟨_, q0, q1, q2⟩ := hP
  rw [hl] at q2
  refine ⟨(f env).1, (f env).2.1, (f env).2.2, _, by rw [show v = _ from hv, show u = _ from hu, show z = _ from hz], ?_, k (Itc (f env).1 (f env).2.2 ((f env).1 - (f env).2.1).toNat) w' H' hp ?_ ?_⟩
  · rw [q0]
    exact RgC.neg q1.1 q1.2.1 q1.2.2.1 q1.2.2.2
  · rw [rngD_len]
    show ((f env).1 - (f env).2.1).toNat ≤ 1000000
    omega
  · rw [rngD_len]
    refine (walk_rangeC).mono (fun _ h => h) fun i H x H' hi _ y => ?_
    obtain ⟨y1, y2⟩ := y
    refine ⟨y1, ?_⟩
    rw [y2, q0]
    unfold rngD
    simp [hi]
    omega
/-! ### dicts walked: locked from then on -/
def tLk (td : TE) : TE := fun σ H Q => td σ H fun x H1 => ∃ d kvs, x = .ref d ∧ ((∃ ob, H1 d = some (.frz ob (.dK kvs)) ∧ Q x H1) ∨ (H1 d = some (.dK kvs) ∧ ∀ ob, Q x (upd H1 d (.frz ob (.dK kvs)))))
theorem pe_lk {td : TE} (h : PE X e td) : PE X e (tLk td) := by
  refine ⟨fun pins s σ H Q I hw => ?_⟩
  refine thn (h.run pins s σ H _ I hw) fun v s1 ⟨x, H1, I1, r, d, kvs, e1, q⟩ => ?_
  rcases q with ⟨ob, _, q⟩ | ⟨h1, q⟩
  · exact ⟨x, H1, I1, r, q⟩
  · obtain ⟨ob, I2⟩ := I1.lock h1 trivial
    exact ⟨x, _, I2, r, q ob⟩
theorem le_lock {H : Hp} {d : Addr} {ob : Obj} {kvs : List (Key × V)} (h : H d = some (.dK kvs)) : Le H (upd H d (.frz ob (.dK kvs))) := fun b o hb => by
  by_cases e : b = d
  · subst e
    rw [h] at hb
    cases hb
    exact .inr ⟨ob, kvs, rfl, upd_same⟩
  · exact .inl (by rw [upd_ne e]; exact hb)
variable {kk : Kp κ} {s : Rp β}
theorem lk_read {f : E → List (κ × β)} (h : TX X R e (rDict kk s) true p P f g) : ∃ td, PE X e td ∧ ∀ (w : Own) (H : Hp) (σ : St) (env : E) (Q : VK), Good w H → R.rel w H [] 2 σ env → P env →
    (∀ d ob kvs w' H', Post p R w H w' H' σ (g env) → w' d = none → H' d = some (.frz ob (.dK kvs)) → DRel kk s (fz w' H') kvs (f env) → (f env).length ≤ LIM → Q (.ref d) H') → td σ H Q := by
  obtain ⟨t, h1, h2⟩ := h
  refine ⟨_, pe_lk h1, fun w H σ env Q G q hP k => h2 w H σ env _ G q hP fun v w' H' hp hv => ?_⟩
  obtain ⟨d, o, kvs, rfl, e2, e3, e4, e5, e6⟩ := hv
  obtain ⟨n1, n2⟩ := fz_some e2
  refine ⟨d, kvs, rfl, ?_⟩
  rcases nrm_dK e3 with rfl | ⟨ob, rfl⟩
  · refine .inr ⟨n2, fun ob => ?_⟩
    have l := le_lock (ob := ob) n2
    have p2 : Post true R w' H' w' (upd H' d (.frz ob (.dK kvs))) σ (g env) := .grow hp.good hp.env l fun a t ha => upd_ne fun z => by rw [z, n1] at ha; cases ha
    exact k d ob kvs w' _ ((hp.trans p2).weak (by simp)) n1 upd_same (e4.mono p2.sm) e6
  · exact .inl ⟨ob, n2, k d ob kvs w' H' hp n1 n2 e4 e6⟩
theorem ti_keys {f : E → List (κ × β)} (h : TX X R e (rDict kk s) true p P f g) (rk : Rp κ) [Flat rk] (hk : ∀ H x, rk.rep H (kV (kk.key x)) x) : TI X R tg e rk true p P (fun e => (f e).map (·.1)) g := by
  obtain ⟨td, h1, h2⟩ := lk_read h
  refine ⟨_, pi_keys h1, fun w H σ env Rk G q hP k => h2 w H σ env _ G q hP fun d ob kvs w' H' hp n1 n2 e4 e6 => ?_⟩
  have hl : kvs.length = ((f env).map (·.1)).length := by rw [List.length_map]; exact Paired.length e4
  have wk := walk_keys (d := d) (o := ob) (kvs := kvs)
  rw [hl] at wk
  refine ⟨d, ob, rfl, .inl ⟨kvs, n2, k _ w' H' _ _ hp (by rw [List.length_map]; exact e6) wk (fun w2 H2 l => ?_) fun i v H2 H3 w2 G2 l hi y => ?_⟩⟩
  · exact (fz_some (l.frz (fz_of n1 n2))).2
  · obtain ⟨rfl, ky, vy, hy, rfl⟩ := y
    obtain ⟨x, hx, e, _⟩ := paired_get2 e4 hy
    refine ⟨⟨.refl _, fun _ _ _ => rfl⟩, x.1, by simp [hx], ?_⟩
    rw [show ky = kk.key x.1 from e]
    exact hk _ _
theorem ti_values {f : E → List (κ × β)} (h : TX X R e (rDict kk s) true p P f g) {apos cpos : Pos} (hbase : attributeBase e "values" X.env (eval e X.env) = eval e X.env := by rfl) (hline : (apos.endLine == cpos.line) = true := by rfl) :
    TI X R tg (.Call (.Attribute e "values" apos) [] [] cpos) s true p P (fun e => (f e).map (·.2)) g := by
  obtain ⟨td, h1, h2⟩ := lk_read h
  refine ⟨_, pi_values h1 hbase hline, fun w H σ env Rk G q hP k => h2 w H σ env _ G q hP fun d ob kvs w' H' hp n1 n2 e4 e6 => ?_⟩
  have hl : kvs.length = ((f env).map (·.2)).length := by rw [List.length_map]; exact Paired.length e4
  have wk := walk_values (d := d) (o := ob) (kvs := kvs)
  rw [hl] at wk
  refine ⟨d, ob, kvs, rfl, n2, k _ w' H' _ _ hp (by rw [List.length_map]; exact e6) wk (fun w2 H2 l => ?_) fun i v H2 H3 w2 G2 l hi y => ?_⟩
  · exact (fz_some (l.frz (fz_of n1 n2))).2
  · obtain ⟨rfl, ky, hy⟩ := y
    obtain ⟨x, hx, e, e'⟩ := paired_get2 e4 hy
    exact ⟨⟨.refl _, fun _ _ _ => rfl⟩, x.2, by simp [hx], s.mono l e'⟩
theorem ti_items {f : E → List (κ × β)} (h : TX X R e (rDict kk s) true p P f g) (rk : Rp κ) (hk : ∀ H x, rk.rep H (kV (kk.key x)) x) {elts : List Expr} {nn : Nat} {tpos apos cpos : Pos}
    (hbase : attributeBase e "items" X.env (eval e X.env) = eval e X.env := by rfl) (hline : (apos.endLine == cpos.line) = true := by rfl) :
    TI X R (.Tuple elts nn tpos) (.Call (.Attribute e "items" apos) [] [] cpos) (rPair rk s) true p P f g := by
  obtain ⟨td, h1, h2⟩ := lk_read h
  refine ⟨_, pi_items h1 hbase hline, fun w H σ env Rk G q hP k => h2 w H σ env _ G q hP fun d ob kvs w' H' hp n1 n2 e4 e6 => ?_⟩
  have hl : kvs.length = (f env).length := Paired.length e4
  have wk := walk_items (d := d) (o := ob) (kvs := kvs)
  rw [hl] at wk
  refine ⟨d, ob, kvs, rfl, n2, k _ w' H' _ _ hp e6 wk (fun w2 H2 l => ?_) fun i v H2 H3 w2 G2 l hi y => ?_⟩
  · exact (fz_some (l.frz (fz_of n1 n2))).2
  · obtain ⟨T, y1, y2, rfl, hT, rfl, q1, q2⟩ := y
    have hi' : i < kvs.length := by rw [hl]; exact hi
    obtain ⟨x, hx, e, e'⟩ := paired_get2 e4 (show kvs[i]? = some kvs[i] by simp [hi'])
    simp [hi'] at q1 q2
    have l2 : Le H2 (upd H2 T (.tup [y1, y2])) := .new hT
    refine ⟨⟨l2, fun a t ha => upd_ne fun z => G2 a t ha (by rw [z]; exact hT)⟩, x, hx, T, _, rfl, ?_, y1, [y2], rfl, ?_, y2, rfl, ?_⟩
    · exact fz_of (G2.new hT) upd_same
    · rw [← q1, e]
      exact hk _ _
    · have z := s.mono (l.trans (fz_mono l2)) e'
      rw [q2] at z
      exact z
theorem ti_enum {f : E → List α} {es : List Expr} (h : TX X R e (rList r) lv p P f g) [Up lv r] (hg : Gl X "enumerate") (hm : X.mg "enumerate" = none) {elts : List Expr} {nn : Nat} {tpos : Pos} (hs : starEach [e] X.env = [(false, eval e X.env)] := by rfl) (hs2 : starEach [e] X.env = (false, eval e X.env) :: starEach [] X.env := by rfl) :
    TI X R (.Tuple elts nn tpos) (.Call (.Name "enumerate" np) [e] [] pos) (rPair rInt r) lv p P (fun e => (rng 0 (f e).length).zip (f e)) g := by
  obtain ⟨t, h1, h2⟩ := h
  refine ⟨_, pi_enum hg hm (pa_cons h1 pa_nil hs2) hs, fun w H σ env Rk G q hP k => h2 w H σ env _ G q hP fun v w' H' hp hv => ?_⟩
  obtain ⟨a, vs, rfl, e2, e3, e4⟩ := hv
  have hz : ((rng 0 (f env).length).zip (f env)).length = (f env).length := by rw [List.length_zip, rng_len, Nat.min_self]
  have hl : vs.length = ((rng 0 (f env).length).zip (f env)).length := by rw [hz]; exact Paired.length e3
  have wk := walk_enum (K := X.K) (a := a) (xs := vs)
  rw [hl] at wk
  refine ⟨a, vs, rfl, SqL.of (vw_le.lst e2), k _ w' H' _ _ hp (by rw [hz]; exact e4) wk (fun w2 H2 l => SqL.of (vw_le.lst (l.lst e2))) fun i v H2 H3 w2 G2 l hi y => ?_⟩
  obtain ⟨T, y1, y2, rfl, hT, rfl, q1, q2⟩ := y
  obtain ⟨x, hx, hF⟩ := paired_get2 e3 q2
  have l2 : Le H2 (upd H2 T (.tup [y1, y2])) := .new hT
  rw [hz] at hi
  refine ⟨⟨l2, fun a t ha => upd_ne fun z => G2 a t ha (by rw [z]; exact hT)⟩, ((i : Nat), x), ?_, T, _, rfl, ?_, y1, [y2], rfl, ?_, y2, rfl, ?_⟩
  · rw [List.getElem?_zip_eq_some]
    exact ⟨by rw [rng_get 0 _ hi]; simp, hx⟩
  · cases lv with
    | true => exact fz_of (G2.new hT) upd_same
    | false => exact upd_same
  · exact (Option.some.inj q1).symm
  · exact r.mono (l.trans (by cases lv with
      | true => exact fz_mono l2
      | false => exact l2)) hF
theorem ti_zip {f : E → List α × List β} {s : Rp β} {e2 : Expr} (h : TAs X R [e, e2] (tpc (rList r) (tp1 (rList s))) lv p P f g) (hg : Gl X "zip") (hm : X.mg "zip" = none) {elts : List Expr} {nn : Nat} {tpos : Pos}
    (hs : starEach [e, e2] X.env = (false, eval e X.env) :: starEach [e2] X.env := by rfl) (hpl : (backTo pos (starEach [e2] X.env)).any (·.1) = false := by rfl) :
    TI X R (.Tuple elts nn tpos) (.Call (.Name "zip" np) [e, e2] [] pos) (rPair r s) lv p P (fun e => (f e).1.zip (f e).2) g := by
  obtain ⟨t, h1, h2⟩ := h
  refine ⟨_, pi_zip hg hm h1 hs hpl, fun w H σ env Rk G q hP k => h2 w H σ env _ G q hP fun v w' H' hp hv => ?_⟩
  obtain ⟨v1, us, rfl, ⟨a, vs, rfl, e2, e3, e4⟩, v2, rfl, ⟨b, ws, rfl, f2, f3, f4⟩⟩ := hv
  have l1 := Paired.length e3
  have l2 := Paired.length f3
  have wk := walk_zip (K := X.K) (a := a) (b := b) (xs := vs) (ys := ws) (n := ((f env).1.zip (f env).2).length) (by rw [List.length_zip]; omega)
  refine ⟨a, b, vs, ws, rfl, SqL.of (vw_le.lst e2), SqL.of (vw_le.lst f2), k _ w' H' _ _ hp (by rw [List.length_zip]; omega) wk (fun w2 H2 l => ⟨SqL.of (vw_le.lst (l.lst e2)), SqL.of (vw_le.lst (l.lst f2))⟩) fun i v H2 H3 w2 G2 l hi y => ?_⟩
  obtain ⟨T, y1, y2, rfl, hT, rfl, q1, q2⟩ := y
  obtain ⟨x, hx, hF⟩ := paired_get2 e3 q1
  obtain ⟨z, hz, hF2⟩ := paired_get2 f3 q2
  have l2 : Le H2 (upd H2 T (.tup [y1, y2])) := .new hT
  have l3 : Le (vw lv w2 H2) (vw lv w2 (upd H2 T (.tup [y1, y2]))) := by
    cases lv with
    | true => exact fz_mono l2
    | false => exact l2
  refine ⟨⟨l2, fun a t ha => upd_ne fun z => G2 a t ha (by rw [z]; exact hT)⟩, (x, z), by rw [List.getElem?_zip_eq_some]; exact ⟨hx, hz⟩, T, _, rfl, ?_, y1, [y2], rfl, r.mono (l.trans l3) hF, y2, rfl, s.mono (l.trans l3) hF2⟩
  cases lv with
  | true => exact fz_of (G2.new hT) upd_same
  | false => exact upd_same
end
end Lmo
end
section
set_option Elab.async false
set_option linter.all false
set_option maxRecDepth 100000
set_option maxHeartbeats 4000000
namespace Lmo
open PySem L2
theorem wipe_set {σ : St} {i : Nat} {o : Option V} : ∀ {vs : List Nat}, i ∈ vs → wipe (σ.set i o) vs = wipe σ vs
  | v :: vs, h => by
    unfold wipe
    by_cases hi : i ∈ vs
    · rw [wipe_set hi]
    · have e : v = i := by
        rcases List.mem_cons.mp h with e | e
        · exact e.symm
        · exact absurd e hi
      subst e
      have q : ∀ (vs : List Nat), v ∉ vs → wipe (σ.set v o) vs = (wipe σ vs).set v o := by
        intro vs
        induction vs with
        | nil => intro _; rfl
        | cons u us ih =>
          intro hv
          unfold wipe
          rw [ih fun z => hv (List.mem_cons_of_mem _ z), List.set_comm _ _ fun z => hv (by rw [z]; exact List.mem_cons_self)]
      rw [q vs hi, List.set_set]
/-! ### targets -/
/-- tg = a value told by r: the slots behind it, and how they are let go again -/
structure TGt (X : Cx) {E E' : Type} (R : ER E) (tg : Expr) {α : Type} (r : Rp α) (R' : ER E') (put : E → α → E') (drop : E' → E) (vs : List Nat) : Prop where
  ex : ∃ gt, PG X tg gt ∧ ∀ (w : Own) (H : Hp) (σ : St) (env : E) (v : V) (x : α) (Q : St → Hp → Prop), Good w H → R.rel w H [] 2 σ env → r.rep (fz w H) v x →
    (∀ σ', R'.rel w H [] 2 σ' (put env x) → wipe σ' vs = wipe σ vs → (∀ w2 H2 env2, R'.rel w2 H2 [] 2 σ' env2 → R.rel w2 H2 [] 2 σ (drop env2)) → Q σ' H) → gt v σ H Q
structure TGs (X : Cx) {E E' : Type} (R : ER E) (ts : List Expr) {α : Type} (t : Tp α) (R' : ER E') (put : E → α → E') (drop : E' → E) (vs : List Nat) : Prop where
  ex : ∃ gt, PGs X ts gt ∧ ∀ (w : Own) (H : Hp) (σ : St) (env : E) (us : List V) (x : α) (Q : St → Hp → Prop), Good w H → R.rel w H [] 2 σ env → t.rep (fz w H) us x →
    (∀ σ', R'.rel w H [] 2 σ' (put env x) → wipe σ' vs = wipe σ vs → (∀ w2 H2 env2, R'.rel w2 H2 [] 2 σ' env2 → R.rel w2 H2 [] 2 σ (drop env2)) → Q σ' H) → gt us σ H Q
theorem er_len {E : Type} {R : ER E} {i : Nat} {α : Type} {S : SR α} {get : E → α} {set : E → α → E} (h : Has R i S get set) {w : Own} {H : Hp} {σ : St} {e : E} (q : R.rel w H [] 2 σ e) : i < σ.length := by
  obtain ⟨o, h1, _⟩ := h.get q
  exact (List.getElem?_eq_some_iff.mp h1).1
section
variable {X : Cx} {E E' : Type} {R : ER E} {R' : ER E'} {α β : Type} {r : Rp α} {t : Tp β} {pos : Pos} {x : Str} {i : Nat}
/-- a name; its slot was free -/
theorem tg_name {put : E → α → E'} {dp : E' → Unit → E} {get : E → Unit} {set : E → Unit → E} {vs : List Nat} (h : Put R i (fr r) R' put) (hd : Put R' i un R dp) (hh : Has R i un get set) (hv : i ∈ vs) (hN : X.N.Nodup) (hi : X.N[i]? = some x) (hx : Loc X.env.scope x)
    (hf : X.fn x = true ∨ X.env.scope.names.lookup x = some .local := by first | exact .inl rfl | exact .inr rfl) : TGt X R (.Name x pos) r R' put (fun e => dp e ()) vs := by
  refine ⟨_, pg_name hN hi hx hf, fun w H σ env v x Q G q hr k => ?_⟩
  refine k _ (h.put q (.refl _) (fun a j t _ _ ha => ⟨ha, rfl⟩) ⟨v, rfl, hr⟩) (wipe_set hv) fun w2 H2 env2 q2 => ?_
  have hl := er_len hh q
  have := hd.put (o := σ[i]) (x := ()) q2 (.refl _) (fun a j t _ _ ha => ⟨ha, rfl⟩) trivial
  rw [List.set_set, List.set_getElem_self] at this
  exact this
theorem tgs_one {put : E → α → E'} {drop : E' → E} {tg : Expr} {vs : List Nat} (h : TGt X R tg r R' put drop vs) (hs : (assignEach [tg] X.env).map (·.2) = assign tg X.env :: (assignEach [] X.env).map (·.2) := by rfl) : TGs X R [tg] (tp1 r) R' put drop vs := by
  obtain ⟨gt, h1, h2⟩ := h
  refine ⟨_, pgs_cons h1 pgs_nil hs, fun w H σ env us x Q G q hr k => ?_⟩
  obtain ⟨v, rfl, hr⟩ := hr
  exact ⟨v, [], rfl, h2 w H σ env v x _ G q hr fun σ' a b c => ⟨rfl, k σ' a b c⟩⟩
theorem tgs_cons {E2 : Type} {R2 : ER E2} {put : E → α → E'} {drop : E' → E} {put2 : E' → β → E2} {drop2 : E2 → E'} {tg : Expr} {ts : List Expr} {vs : List Nat} (h : TGt X R tg r R' put drop vs) (hb : TGs X R' ts t R2 put2 drop2 vs)
    (hs : (assignEach (tg :: ts) X.env).map (·.2) = assign tg X.env :: (assignEach ts X.env).map (·.2) := by rfl) : TGs X R (tg :: ts) (tpc r t) R2 (fun e x => put2 (put e x.1) x.2) (fun e => drop (drop2 e)) vs := by
  obtain ⟨gt, h1, h2⟩ := h
  obtain ⟨gu, k1, k2⟩ := hb
  refine ⟨_, pgs_cons h1 k1 hs, fun w H σ env us x Q G q hr k => ?_⟩
  obtain ⟨v, us, rfl, hr, hr2⟩ := hr
  exact ⟨v, us, rfl, h2 w H σ env v x.1 _ G q hr fun σ' a b c => k2 w H σ' _ us x.2 Q G a hr2 fun σ2 a2 b2 c2 => k σ2 a2 (b2.trans b) fun w2 H2 env2 q2 => c _ _ _ (c2 _ _ _ q2)⟩
theorem tg_tup {put : E → β → E'} {drop : E' → E} {es : List Expr} {vs : List Nat} {k n : Nat} (h : TGs X R es t R' put drop vs) (hc : X.calm = true) (hl : ∀ H us x, t.rep H us x → us.length = n) (hn : (assignEach es X.env).length = n := by rfl) (hst : (assignEach es X.env).findIdx? (·.1) = none := by rfl) :
    TGt X R (.Tuple es k pos) (rTup t) R' put drop vs := by
  obtain ⟨gt, h1, h2⟩ := h
  refine ⟨_, pg_tup hc h1 hn hst, fun w H σ env v x Q G q hr kk => ?_⟩
  obtain ⟨a, us, rfl, e1, e2⟩ := hr
  exact ⟨a, us, rfl, SqT.of (fz_some e1).2, hl _ _ _ e2, h2 w H σ env us x Q G q e2 kk⟩
end
/-! ### a comprehension's tests -/
structure TPs (X : Cx) {E : Type} (R : ER E) (ifs : List Expr) (P : E → Prop) (f : E → Bool) : Prop where
  ex : ∃ t, PTs X ifs t ∧ ∀ (w : Own) (H : Hp) (σ : St) (env : E) (Q : Bool → Hp → Prop), Good w H → R.rel w H [] 2 σ env → P env →
    (∀ H', Post true R w H w H' σ env → Q (f env) H') → t σ H Q
section
variable {X : Cx} {E : Type} {R : ER E} {c : Expr} {P : E → Prop} {f : E → Bool}
theorem tps_nil : TPs X R [] (fun _ => True) (fun _ => true) := ⟨_, pts_nil, fun w H σ env Q G q _ k => k H (.refl G q)⟩
theorem tps_one (h : TQ X R c true P f fun e => e) : TPs X R [c] P f := by
  obtain ⟨t, h1, h2⟩ := h
  refine ⟨_, pts_one h1, fun w H σ env Q G q hP k => h2 w H σ env _ G q hP fun w' H' p => ?_⟩
  obtain ⟨e, _⟩ := p.pur rfl
  subst e
  exact k H' p
end
/-! ### one reading for all blocks -/
section
variable {ι : Type} {Y : ι → Cx} {α β : Type}
theorem pe_alls {e : Expr} {S : St → Hp → VK → Prop} (h : ∀ c, ∃ t, PE (Y c) e t ∧ ∀ σ H Q, S σ H Q → t σ H Q) : ∃ t, (∀ c, PE (Y c) e t) ∧ ∀ σ H Q, S σ H Q → t σ H Q :=
  ⟨fun σ H Q => ∀ c, (h c).choose σ H Q, fun c => ⟨fun pins s σ H Q I q => (h c).choose_spec.1.run pins s σ H Q I (q c)⟩, fun σ H Q s c => (h c).choose_spec.2 σ H Q s⟩
theorem pts_alls {e : List Expr} {S : St → Hp → (Bool → Hp → Prop) → Prop} (h : ∀ c, ∃ t, PTs (Y c) e t ∧ ∀ σ H Q, S σ H Q → t σ H Q) : ∃ t, (∀ c, PTs (Y c) e t) ∧ ∀ σ H Q, S σ H Q → t σ H Q :=
  ⟨fun σ H Q => ∀ c, (h c).choose σ H Q, fun c => ⟨fun pins s σ H Q I q => (h c).choose_spec.1.run pins s σ H Q I (q c)⟩, fun σ H Q s c => (h c).choose_spec.2 σ H Q s⟩
theorem pg_alls {e : Expr} {S : V → St → Hp → (St → Hp → Prop) → Prop} (h : ∀ c, ∃ t, PG (Y c) e t ∧ ∀ v σ H Q, S v σ H Q → t v σ H Q) : ∃ t, (∀ c, PG (Y c) e t) ∧ ∀ v σ H Q, S v σ H Q → t v σ H Q :=
  ⟨fun v σ H Q => ∀ c, (h c).choose v σ H Q, fun c => ⟨fun pins s σ H v u Q I r q => (h c).choose_spec.1.run pins s σ H v u Q I r (q c)⟩, fun v σ H Q s c => (h c).choose_spec.2 v σ H Q s⟩
end
/-! ### what a comprehension makes -/
def lcG {α β E : Type} (step : E → α → Option β × E) : List α → E → List β × E
  | [], e => ([], e)
  | x :: xs, e => ((step e x).1.toList ++ (lcG step xs (step e x).2).1, (lcG step xs (step e x).2).2)
def lcP {α β E : Type} (step : E → α → Option β × E) (P : E → α → Prop) : List α → E → Prop
  | [], _ => True
  | x :: xs, e => P e x ∧ lcP step P xs (step e x).2
section
variable {α β E : Type} {step : E → α → Option β × E} {P : E → α → Prop}
theorem lcG_snoc : ∀ (xs : List α) (x : α) (e : E), lcG step (xs ++ [x]) e = ((lcG step xs e).1 ++ (step (lcG step xs e).2 x).1.toList, (step (lcG step xs e).2 x).2)
  | [], x, e => by simp [lcG]
  | y :: ys, x, e => by
    have ih := lcG_snoc ys x (step e y).2
    simp only [List.cons_append, lcG, ih, List.append_assoc]
theorem lcP_at : ∀ {xs : List α} {e : E} {i : Nat} {x : α}, lcP step P xs e → xs[i]? = some x → P (lcG step (xs.take i) e).2 x
  | [], _, _, _, _, h => by simp at h
  | y :: ys, e, 0, x, h, q => by
    simp at q
    subst q
    exact h.1
  | y :: ys, e, i + 1, x, h, q => by
    have := lcP_at (i := i) (x := x) h.2 (by simpa using q)
    simpa [lcG] using this
theorem lcG_len : ∀ (xs : List α) (e : E), (lcG step xs e).1.length ≤ xs.length
  | [], e => by simp [lcG]
  | x :: xs, e => by
    have := lcG_len xs (step e x).2
    simp only [lcG, List.length_append, List.length_cons]
    cases (step e x).1 <;> simp <;> omega
theorem lcG_pure {b : E → α → Option β} : ∀ (xs : List α) (e : E), lcG (fun e x => (b e x, e)) xs e = (xs.filterMap (b e), e)
  | [], e => by simp [lcG]
  | x :: xs, e => by
    have ih := lcG_pure (b := b) xs e
    simp only [lcG, ih, List.filterMap_cons]
    cases b e x <;> simp
theorem lcP_pure {b : E → α → Option β} : ∀ (xs : List α) (e : E), (∀ x ∈ xs, P e x) → lcP (fun e x => (b e x, e)) P xs e
  | [], e, _ => trivial
  | x :: xs, e, h => ⟨h x List.mem_cons_self, lcP_pure xs e fun y hy => h y (List.mem_cons_of_mem _ hy)⟩
end
/-- D's heap, D left out -/
def er (D : Addr) (H : Hp) : Hp := fun a => if a = D then none else H a
theorem er_upd {D : Addr} {H : Hp} {o : HO} (h : H D = some o) : upd (er D H) D o = H := by
  funext a
  unfold upd er
  by_cases e : a = D
  · rw [if_pos e, e, h]
  · rw [if_neg e, if_neg e]
/-- D kept out of the way -/
def hid (D : Addr) (w : Own) : Own := fun a => if a = D then some [0] else w a
theorem hid_same {D : Addr} {w : Own} : hid D w D = some [0] := by unfold hid; rw [if_pos rfl]
theorem hid_ne {D a : Addr} {w : Own} (h : a ≠ D) : hid D w a = w a := by unfold hid; rw [if_neg h]
/-- .. and given back -/
def unh (D : Addr) (w : Own) : Own := fun a => if a = D then none else w a
theorem unh_ne {D a : Addr} {w : Own} (h : a ≠ D) : unh D w a = w a := by unfold unh; rw [if_neg h]
theorem fz_unh {D : Addr} {w : Own} {H : Hp} (h : w D = some [0]) : fz (unh D w) (er D H) = fz w H := by
  funext a
  unfold fz er
  by_cases e : a = D
  · subst e
    rw [h]
    unfold unh
    rw [if_pos rfl, if_pos rfl]
  · rw [unh_ne e, if_neg e]
theorem fz_hid {D : Addr} {w : Own} {H : Hp} {o : HO} (h : H D = none) : Le (fz w H) (fz (hid D w) (upd H D o)) := .of fun b u hb => by
  obtain ⟨h1, h2⟩ := fz_some hb
  have e : b ≠ D := ne_of_none h2 h
  exact fz_of (by rw [hid_ne e]; exact h1) (by rw [upd_ne e]; exact h2)
theorem fz_tag {D : Addr} {w : Own} {H : Hp} {o : HO} {t : Tag} (h : w D = some t) : fz w (upd H D o) = fz w H := by
  funext a
  unfold fz
  cases e : w a with
  | some _ => rfl
  | none => exact upd_ne fun z => by rw [z, h] at e; cases e
/-- slots that nothing is said of -/
structure Ins {E : Type} (R : ER E) (m : List Bool) : Prop where
  ins : ∀ {w : Own} {H : Hp} {p : Tag} {k : Nat} {σ σ' : List (Option V)} {e : E}, R.rel w H p k σ e → σ.length = σ'.length → (∀ i : Nat, m[i]? ≠ some true → σ[i]? = σ'[i]?) → R.rel w H p k σ' e
theorem ins_nil : Ins en [] := ⟨fun {w H p k σ σ' e} h l _ => by
  have e : σ = [] := h
  subst e
  cases σ' with
  | nil => rfl
  | cons => cases l⟩
theorem ins_un {E : Type} {R : ER E} {m : List Bool} (h : Ins R m) : Ins (ec un R) (true :: m) := ⟨fun {w H p k σ σ' e} q l g => by
  obtain ⟨o, τ, rfl, h2, h3⟩ := q
  cases σ' with
  | nil => cases l
  | cons u us => exact ⟨u, us, rfl, trivial, h.ins h3 (by simpa using l) fun i hi => by simpa using g (i + 1) (by simpa using hi)⟩⟩
theorem ins_keep {E α : Type} {S : SR α} {R : ER E} {m : List Bool} (h : Ins R m) : Ins (ec S R) (false :: m) := ⟨fun {w H p k σ σ' e} q l g => by
  obtain ⟨o, τ, rfl, h2, h3⟩ := q
  cases σ' with
  | nil => cases l
  | cons u us =>
    have e0 : o = u := by simpa using g 0 (by simp)
    subst e0
    exact ⟨o, us, rfl, h2, h.ins h3 (by simpa using l) fun i hi => by simpa using g (i + 1) (by simpa using hi)⟩⟩
theorem wipe_none {σ : St} {i : Nat} : ∀ {vs : List Nat}, i ∈ vs → i < σ.length → (wipe σ vs)[i]? = some none
  | v :: vs, h, hl => by
    unfold wipe
    by_cases e : v = i
    · subst e
      rw [List.getElem?_set_self (by rw [wipe_length]; exact hl)]
    · rw [List.getElem?_set_ne e]
      exact wipe_none ((List.mem_cons.mp h).resolve_left fun z => e z.symm) hl
theorem wipe_wipe {σ : St} {vs : List Nat} : wipe (wipe σ vs) vs = wipe σ vs := by
  apply List.ext_getElem?
  intro i
  by_cases h : i ∈ vs
  · by_cases hl : i < σ.length
    · rw [wipe_none h (by rw [wipe_length]; exact hl), wipe_none h hl]
    · rw [List.getElem?_eq_none (by rw [wipe_length, wipe_length]; omega), List.getElem?_eq_none (by rw [wipe_length]; omega)]
  · rw [wipe_out h]
theorem Ins.wipe {E : Type} {R : ER E} {m : List Bool} {vs : List Nat} (h : Ins R m) (hm : ∀ i ∈ vs, m[i]? = some true) {w : Own} {H : Hp} {p : Tag} {k : Nat} {σ : List (Option V)} {e : E} (q : R.rel w H p k σ e) : R.rel w H p k (L2.wipe σ vs) e :=
  h.ins q (wipe_length _ _).symm fun i hi => (wipe_out fun z => hi (hm i z)).symm
theorem Ins.unwipe {E : Type} {R : ER E} {m : List Bool} {vs : List Nat} (h : Ins R m) (hm : ∀ i ∈ vs, m[i]? = some true) {w : Own} {H : Hp} {p : Tag} {k : Nat} {σ : List (Option V)} {e : E} (q : R.rel w H p k (L2.wipe σ vs) e) : R.rel w H p k σ e :=
  h.ins q (wipe_length _ _) fun i hi => wipe_out fun z => hi (hm i z)
theorem paired_snoc {δ α : Type} {F : δ → α → Prop} {v : δ} {x : α} (h : F v x) : ∀ {vs : List δ} {xs : List α}, Paired F vs xs → Paired F (vs ++ [v]) (xs ++ [x])
  | _, _, .nil => .cons h .nil
  | _, _, .cons a t => .cons a (paired_snoc h t)
theorem take_snoc {α : Type} {xs : List α} {i : Nat} {x : α} (h : xs[i]? = some x) : xs.take (i + 1) = xs.take i ++ [x] := by
  rw [List.take_succ, h]
  rfl
section
variable {X : Cx} {E E' : Type} {R : ER E} {R' : ER E'} {α β : Type} {r : Rp α} {s : Rp β} {lv p pe : Bool} {P : E → Prop} {f : E → List α} {g : E → E} {pos : Pos}
/-- a comprehension's parts and what it makes -/
structure LC (X : Cx) {E : Type} (R : ER E) (elt tg iter : Expr) (ifs : List Expr) (scope : Scope) (own : List (Str × Nat)) {β : Type} (s : Rp β) (p : Bool) (P : E → Prop) (f : E → List β) (g : E → E) : Prop where
  ex : ∃ wi g0 t0 e0, PI X tg iter wi ∧ (∀ (s : Shared) (H : Hp) (C : Addr) (cl : List (Str × Addr)) (fp : List Addr), PG (X.blk s H scope (compEnvC scope cl C X.env) fp) tg g0) ∧
    (∀ (s : Shared) (H : Hp) (C : Addr) (cl : List (Str × Addr)) (fp : List Addr), PTs (X.blk s H scope (compEnvC scope cl C X.env) fp) ifs t0) ∧
    (∀ (s : Shared) (H : Hp) (C : Addr) (cl : List (Str × Addr)) (fp : List Addr), PE (X.blk s H scope (compEnvC scope cl C X.env) fp) elt e0) ∧
    ∀ (w : Own) (H : Hp) (σ : St) (env : E) (Q : VK), Good w H → R.rel w H [] 2 σ env → P env →
      (∀ b vs w' H', H' b = none → Post p R w H w' H' σ (g env) → Paired (s.rep (fz w' H')) vs (f env) → (f env).length ≤ LIM → Q (.ref b) (upd H' b (.lst vs))) → tLc wi g0 t0 e0 (own.map (·.2)) σ H Q
theorem tn_lc {elt tg iter : Expr} {ifs : List Expr} {scope : Scope} {own : List (Str × Nat)} {P : E → Prop} {f : E → List β} {g : E → E} (h : LC X R elt tg iter ifs scope own s p P f g) (hc : X.calm = true) (hN : X.N.Nodup) (ok : blkC X.N X.env.scope scope own = true)
    (hs : ∀ x, foldedSetIterable iter X.env x = pure x := by intro _; rfl) : TN X R (.ListComp elt [⟨tg, iter, ifs, 0⟩] scope pos) s p P f g := by
  obtain ⟨wi, g0, t0, e0, h1, h2, h3, h4, h5⟩ := h
  exact ⟨_, pe_lc hc hN h1 (blkOk_by ok) h2 h3 h4 hs, h5⟩
theorem LC.cong {elt tg iter : Expr} {ifs : List Expr} {scope : Scope} {own : List (Str × Nat)} {P : E → Prop} {f : E → List β} {g : E → E} {P' : E → Prop} {f' : E → List β} {g' : E → E} (h : LC X R elt tg iter ifs scope own s p P f g) (hP : ∀ x, P' x → P x) (hf : ∀ x, P' x → f x = f' x) (hg : ∀ x, P' x → g x = g' x) :
    LC X R elt tg iter ifs scope own s p P' f' g' := by
  obtain ⟨wi, g0, t0, e0, h1, h2, h3, h4, h5⟩ := h
  refine ⟨wi, g0, t0, e0, h1, h2, h3, h4, fun w H σ env Q G q hp k => h5 w H σ env Q G q (hP _ hp) fun b vs w' H' hb hpo hr hl => ?_⟩
  rw [hf _ hp] at hr hl
  rw [hg _ hp] at hpo
  exact k b vs w' H' hb hpo hr hl
theorem lcE {elt tg iter : Expr} {ifs : List Expr} {scope : Scope} {own : List (Str × Nat)} {put : E → α → E'} {drop : E' → E} {Pt Pe : E' → Prop} {ft : E' → Bool} {fe : E' → β} {ge : E' → E'} [Up lv r]
    (hi : TI X R tg iter r lv p P f g) (hlv : (lv || pe) = true)
    {m : List Bool} (hm : Ins R m) (hv : ∀ i ∈ own.map (·.2), m[i]? = some true)
    (hg : ∀ (s : Shared) (H : Hp) (C : Addr) (cl : List (Str × Addr)) (fp : List Addr), TGt (X.blk s H scope (compEnvC scope cl C X.env) fp) R tg r R' put drop (own.map (·.2)))
    (ht : ∀ (s : Shared) (H : Hp) (C : Addr) (cl : List (Str × Addr)) (fp : List Addr), TPs (X.blk s H scope (compEnvC scope cl C X.env) fp) R' ifs Pt ft)
    (he : ∀ (s' : Shared) (H : Hp) (C : Addr) (cl : List (Str × Addr)) (fp : List Addr), TX (X.blk s' H scope (compEnvC scope cl C X.env) fp) R' elt s true pe Pe fe ge) :
    LC X R elt tg iter ifs scope own s (p && pe)
      (fun e => P e ∧ lcP (fun e x => (if ft (put e x) = true then some (fe (put e x)) else none, drop (if ft (put e x) = true then ge (put e x) else put e x))) (fun e x => Pt (put e x) ∧ (ft (put e x) = true → Pe (put e x))) (f e) (g e))
      (fun e => (lcG (fun e x => (if ft (put e x) = true then some (fe (put e x)) else none, drop (if ft (put e x) = true then ge (put e x) else put e x))) (f e) (g e)).1)
      (fun e => (lcG (fun e x => (if ft (put e x) = true then some (fe (put e x)) else none, drop (if ft (put e x) = true then ge (put e x) else put e x))) (f e) (g e)).2) := by
  obtain ⟨wi, i1, i2⟩ := hi
  obtain ⟨g0, hg1, hg2⟩ := pg_alls (Y := fun c : Shared × Hp × Addr × List (Str × Addr) × List Addr => X.blk c.1 c.2.1 scope (compEnvC scope c.2.2.2.1 c.2.2.1 X.env) c.2.2.2.2) (e := tg)
    (S := fun v σ H Q => ∃ w env x, Good w H ∧ R.rel w H [] 2 σ env ∧ r.rep (fz w H) v x ∧ ∀ σ', R'.rel w H [] 2 σ' (put env x) → wipe σ' (own.map (·.2)) = wipe σ (own.map (·.2)) → (∀ w2 H2 env2, R'.rel w2 H2 [] 2 σ' env2 → R.rel w2 H2 [] 2 σ (drop env2)) → Q σ' H)
    (fun c => by
      obtain ⟨gt, a, b⟩ := hg c.1 c.2.1 c.2.2.1 c.2.2.2.1 c.2.2.2.2
      exact ⟨gt, a, fun v σ H Q ⟨w, env, x, G, q, hr, k⟩ => b w H σ env v x Q G q hr k⟩)
  obtain ⟨t0, ht1, ht2⟩ := pts_alls (Y := fun c : Shared × Hp × Addr × List (Str × Addr) × List Addr => X.blk c.1 c.2.1 scope (compEnvC scope c.2.2.2.1 c.2.2.1 X.env) c.2.2.2.2) (e := ifs)
    (S := fun σ H Q => ∃ w env, Good w H ∧ R'.rel w H [] 2 σ env ∧ Pt env ∧ ∀ H', Post true R' w H w H' σ env → Q (ft env) H')
    (fun c => by
      obtain ⟨gt, a, b⟩ := ht c.1 c.2.1 c.2.2.1 c.2.2.2.1 c.2.2.2.2
      exact ⟨gt, a, fun σ H Q ⟨w, env, G, q, hr, k⟩ => b w H σ env Q G q hr k⟩)
  obtain ⟨e0, he1, he2⟩ := pe_alls (Y := fun c : Shared × Hp × Addr × List (Str × Addr) × List Addr => X.blk c.1 c.2.1 scope (compEnvC scope c.2.2.2.1 c.2.2.1 X.env) c.2.2.2.2) (e := elt)
    (S := fun σ H Q => ∃ w env, Good w H ∧ R'.rel w H [] 2 σ env ∧ Pe env ∧ ∀ v w' H', Post pe R' w H w' H' σ (ge env) → s.rep (vw true w' H') v (fe env) → Q v H')
    (fun c => by
      obtain ⟨gt, a, b⟩ := he c.1 c.2.1 c.2.2.1 c.2.2.2.1 c.2.2.2.2
      exact ⟨gt, a, fun σ H Q ⟨w, env, G, q, hr, k⟩ => b w H σ env Q G q hr k⟩)
  refine ⟨wi, g0, t0, e0, i1, fun s H C cl fp => hg1 (s, H, C, cl, fp), fun s H C cl fp => ht1 (s, H, C, cl, fp), fun s H C cl fp => he1 (s, H, C, cl, fp), ?_⟩
  intro w H σ env Q G q hP k
  refine i2 w H σ env _ G q hP.1 fun J w1 H1 G' Y p1 hlim wk hG hY => fun D hD => ?_
  have hwD : w1 D = none := p1.good.new hD
  generalize hst : (fun e x => (if ft (put e x) = true then some (fe (put e x)) else none, drop (if ft (put e x) = true then ge (put e x) else put e x))) = step at hP k
  refine lc_it wk (fun i Hx => ∃ wx acc, Good wx Hx ∧ Le (fz w1 H1) (fz wx Hx) ∧ (∀ a j q, j < 2 → w1 a = some (j :: q) → wx a = some (j :: q) ∧ Hx a = H1 a) ∧ R.rel wx Hx [] 2 (wipe σ (own.map (·.2))) (lcG step ((f env).take i) (g env)).2 ∧ wx D = some [0] ∧ Hx D = some (.lst acc) ∧
    Paired (s.rep (fz wx Hx)) acc (lcG step ((f env).take i) (g env)).1 ∧ (pe = true → wx = hid D w1 ∧ Le H1 Hx ∧ ∀ a t, w1 a = some t → Hx a = H1 a)) ?h0 ?hG ?hs ?hd
  case h0 =>
    refine ⟨hid D w1, [], fun a t ha => ?_, fz_hid hD, fun a j q _ ha => ?_, ?_, hid_same, upd_same, .nil, fun _ => ⟨rfl, .new hD, fun a t ha => ?_⟩⟩
    · by_cases e : a = D
      · rw [e, upd_same]
        exact fun z => nomatch z
      · rw [hid_ne e] at ha
        rw [upd_ne e]
        exact p1.good a t ha
    · have e : a ≠ D := fun z => by rw [z, hwD] at ha; cases ha
      exact ⟨by rw [hid_ne e]; exact ha, upd_ne e⟩
    · refine R.keep (hm.wipe hv p1.env) (fz_hid hD) fun a j q _ ha => ?_
      have e : a ≠ D := fun z => by rw [z, hwD] at ha; cases ha
      exact ⟨by rw [hid_ne e]; exact ha, upd_ne e⟩
    · exact upd_ne fun z => by rw [z, hwD] at ha; cases ha
  case hG =>
    rintro i Hx _ ⟨wx, acc, a1, a2, a3, a4, a5, a6, a7, a8⟩
    refine hG wx Hx ?_
    cases lv with
    | true => exact a2
    | false => exact (a8 (by simpa using hlv)).2.1
  case hs =>
    rintro i v Hx H2 hi ⟨wx, acc, a1, a2, a3, a4, a5, a6, a7, a8⟩ hy
    have hle : Le (vw lv w1 H1) (vw lv wx Hx) := by
      cases lv with
      | true => exact a2
      | false => exact (a8 (by simpa using hlv)).2.1
    obtain ⟨⟨l2, k2⟩, x, hx, hr⟩ := hY i v Hx H2 wx a1 hle hi hy
    have hPx := lcP_at hP.2 hx
    generalize hei : (lcG step ((f env).take i) (g env)).2 = ei at a4 hPx
    have ha2 : H2 D = some (.lst acc) := l2.lst a6
    have g2 : Good wx H2 := fun a t ha => by rw [k2 a t ha]; exact a1 a t ha
    have r2 : R.rel wx H2 [] 2 (wipe σ (own.map (·.2))) ei := R.keep a4 (fz_mono l2) fun a j q _ ha => ⟨ha, k2 a _ ha⟩
    have hacc : acc.length < sizeLine := by
      have h1 := Paired.length a7
      have h2 := lcG_len (step := step) ((f env).take i) (g env)
      rw [List.length_take] at h2
      have : i < LIM := Nat.lt_of_lt_of_le hi hlim
      exact Nat.lt_of_lt_of_le (Nat.lt_of_le_of_lt (by omega) this) (by decide)
    refine hg2 v _ H2 _ ⟨wx, ei, x, g2, r2, Up.up (lv := lv) _ _ _ _ hr, fun σ' b1 b2 b3 => ⟨by rw [b2, wipe_wipe], ?_⟩⟩
    refine ht2 σ' H2 _ ⟨wx, put ei x, g2, b1, hPx.1, fun H3 p3 => ?_⟩
    obtain ⟨_, l3, k3⟩ := p3.pur rfl
    have h3D : H3 D = some (.lst acc) := l3.lst ha2
    have l13 : Le (fz w1 H1) (fz wx H3) := (a2.trans (fz_mono l2)).trans (fz_mono l3)
    have stp : lcG step ((f env).take (i + 1)) (g env) = ((lcG step ((f env).take i) (g env)).1 ++ (step ei x).1.toList, (step ei x).2) := by rw [take_snoc hx, lcG_snoc, hei]
    cases hft : ft (put ei x) with
    | false =>
      rw [if_neg Bool.false_ne_true]
      have e1 : (step ei x) = (none, drop (put ei x)) := by
        rw [← hst]
        simp only [hft, Bool.false_eq_true, if_false]
      refine ⟨wx, acc, p3.good, l13, fun a j q hj ha => ?_, ?_, a5, h3D, ?_, fun z => ?_⟩
      · obtain ⟨c1, c2⟩ := a3 a j q hj ha
        exact ⟨c1, (k3 a _ c1).trans ((k2 a _ c1).trans c2)⟩
      · rw [stp, e1]
        exact b3 _ _ _ p3.env
      · rw [stp, e1]
        simp only [Option.toList_none, List.append_nil]
        exact paired_le ((fz_mono l2).trans (fz_mono l3)) a7
      · obtain ⟨c1, c2, c3⟩ := a8 z
        refine ⟨c1, (c2.trans l2).trans l3, fun a t ha => ?_⟩
        have e : a ≠ D := fun z => by rw [z, hwD] at ha; cases ha
        have hx' : wx a = some t := by rw [c1, hid_ne e]; exact ha
        exact (k3 a t hx').trans ((k2 a t hx').trans (c3 a t ha))
    | true =>
      rw [if_pos rfl]
      refine he2 σ' H3 _ ⟨wx, put ei x, p3.good, p3.env, hPx.2 hft, fun u w4 H4 p4 hu => ?_⟩
      obtain ⟨d1, d2⟩ := p4.fk D 0 [] (by omega) a5
      have h4D : H4 D = some (.lst acc) := d2.trans h3D
      have e1 : (step ei x) = (some (fe (put ei x)), drop (ge (put ei x))) := by
        rw [← hst]
        simp only [hft, if_true]
      refine ⟨acc, h4D, hacc, w4, acc ++ [u], fun a t ha => ?_, ?_, fun a j q hj ha => ?_, ?_, d1, upd_same, ?_, fun z => ?_⟩
      · by_cases e : a = D
        · rw [e, upd_same]
          exact fun z => nomatch z
        · rw [upd_ne e]
          exact p4.good a t ha
      · rw [fz_tag d1]
        exact l13.trans p4.sm
      · obtain ⟨c1, c2⟩ := a3 a j q hj ha
        obtain ⟨c3, c4⟩ := p4.fk a j q hj c1
        have e : a ≠ D := fun z => by rw [z, hwD] at ha; cases ha
        exact ⟨c3, by rw [upd_ne e]; exact c4.trans ((k3 a _ c1).trans ((k2 a _ c1).trans c2))⟩
      · rw [stp, e1]
        refine R.keep (b3 _ _ _ p4.env) (by rw [fz_tag d1]; exact .refl _) fun a j q hj ha => ⟨ha, upd_ne fun z => ?_⟩
        rw [z, d1] at ha
        cases ha
        omega
      · rw [stp, e1, fz_tag d1]
        simp only [Option.toList_some]
        exact paired_snoc hu (paired_le (((fz_mono l2).trans (fz_mono l3)).trans p4.sm) a7)
      · obtain ⟨c1, c2, c3⟩ := a8 z
        obtain ⟨f1, f2, f3⟩ := p4.pur z
        subst f1
        refine ⟨c1, fun b o hb => ?_, fun a t ha => ?_⟩
        · have e : b ≠ D := fun z => by rw [z, hD] at hb; cases hb
          have := ((c2.trans l2).trans l3).trans f2 b o hb
          rw [upd_ne e]
          exact this
        · have e : a ≠ D := fun z => by rw [z, hwD] at ha; cases ha
          have hx' : w4 a = some t := by rw [c1, hid_ne e]; exact ha
          rw [upd_ne e]
          exact (f3 a t hx').trans ((k3 a t hx').trans ((k2 a t hx').trans (c3 a t ha)))
  case hd =>
    rintro Hn ⟨wx, acc, a1, a2, a3, a4, a5, a6, a7, a8⟩
    rw [List.take_length] at a4 a7
    have key := k D acc (unh D wx) (er D Hn) (by unfold er; rw [if_pos rfl]) ?_ ?_ (Nat.le_trans (lcG_len _ _) hlim)
    · rw [er_upd a6] at key
      exact key
    · refine ⟨fun a t ha => ?_, ?_, fun a j q hj ha => ?_, ?_, fun z => ?_⟩
      · have e : a ≠ D := fun z => by rw [z] at ha; unfold unh at ha; rw [if_pos rfl] at ha; cases ha
        rw [unh_ne e] at ha
        show er D Hn a ≠ none
        unfold er
        rw [if_neg e]
        exact a1 a t ha
      · rw [fz_unh a5]
        exact p1.sm.trans a2
      · obtain ⟨c1, c2⟩ := p1.fk a j q hj ha
        obtain ⟨c3, c4⟩ := a3 a j q hj c1
        have e : a ≠ D := fun z => by rw [z, hwD] at c1; cases c1
        refine ⟨by rw [unh_ne e]; exact c3, ?_⟩
        unfold er
        rw [if_neg e]
        exact c4.trans c2
      · refine hm.unwipe hv (R.keep a4 (by rw [fz_unh a5]; exact .refl _) fun a j q hj ha => ?_)
        have e : a ≠ D := fun z => by
          rw [z, a5] at ha
          cases ha
          omega
        refine ⟨by rw [unh_ne e]; exact ha, ?_⟩
        unfold er
        rw [if_neg e]
      · obtain ⟨z1, z2⟩ := Bool.and_eq_true_iff.mp z
        obtain ⟨c1, c2, c3⟩ := p1.pur z1
        obtain ⟨d1, d2, d3⟩ := a8 z2
        subst c1 d1
        refine ⟨?_, fun b o hb => ?_, fun a t ha => ?_⟩
        · funext a
          unfold unh hid
          by_cases e : a = D
          · rw [if_pos e, e, hwD]
          · rw [if_neg e, if_neg e]
        · have e : b ≠ D := fun z => by
            rcases c2 b o hb with h1 | ⟨_, _, _, h1⟩
            · rw [z, hD] at h1; cases h1
            · rw [z, hD] at h1; cases h1
          have := c2.trans d2 b o hb
          unfold er
          rw [if_neg e]
          exact this
        · have e : a ≠ D := fun z => by rw [z, hwD] at ha; cases ha
          unfold er
          rw [if_neg e]
          exact (d3 a t ha).trans (c3 a t ha)
    · rw [fz_unh a5]
      exact a7
end
end Lmo
end
section
set_option Elab.async false
set_option linter.all false
set_option maxRecDepth 100000
set_option maxHeartbeats 4000000
namespace Lmo
open PySem L2
section
variable {X : Cx} {E E' : Type} {R : ER E} {R' : ER E'} {α β κ : Type} {r : Rp α} {s : Rp β} {lv p pe : Bool} {P : E → Prop} {g : E → E} {pos : Pos} {e : Expr}
/-! ### the same, said otherwise -/
theorem TN.cong {f : E → List α} {P' : E → Prop} {f' : E → List α} {g' : E → E} (h : TN X R e r p P f g) (hP : ∀ x, P' x → P x) (hf : ∀ x, P' x → f x = f' x) (hg : ∀ x, P' x → g x = g' x) : TN X R e r p P' f' g' := by
  obtain ⟨t, h1, h2⟩ := h
  refine ⟨t, h1, fun w H σ env Q G q hp k => h2 w H σ env Q G q (hP _ hp) fun b vs w' H' hb hpo hr hl => ?_⟩
  rw [hf _ hp] at hr hl
  rw [hg _ hp] at hpo
  exact k b vs w' H' hb hpo hr hl
theorem TX.cong {f : E → α} {P' : E → Prop} {f' : E → α} {g' : E → E} (h : TX X R e r lv p P f g) (hP : ∀ x, P' x → P x) (hf : ∀ x, P' x → f x = f' x) (hg : ∀ x, P' x → g x = g' x) : TX X R e r lv p P' f' g' := by
  obtain ⟨t, h1, h2⟩ := h
  refine ⟨t, h1, fun w H σ env Q G q hp k => h2 w H σ env Q G q (hP _ hp) fun v w' H' hpo hr => ?_⟩
  rw [hf _ hp] at hr
  rw [hg _ hp] at hpo
  exact k v w' H' hpo hr
theorem TQ.cong {f : E → Bool} {P' : E → Prop} {f' : E → Bool} {g' : E → E} (h : TQ X R e p P f g) (hP : ∀ x, P' x → P x) (hf : ∀ x, P' x → f x = f' x) (hg : ∀ x, P' x → g x = g' x) : TQ X R e p P' f' g' := by
  obtain ⟨t, h1, h2⟩ := h
  refine ⟨t, h1, fun w H σ env Q G q hp k => h2 w H σ env Q G q (hP _ hp) fun w' H' hpo => ?_⟩
  rw [hg _ hp] at hpo
  have := k w' H' hpo
  rw [← hf _ hp] at this
  exact this
theorem TX.pu {f : E → α} (h : TX X R e r lv p P f g) (hp : p = true) (hg : g = fun e => e) : TX X R e r lv true P f fun e => e := by
  subst hp
  subst hg
  exact h
theorem TQ.pu {f : E → Bool} (h : TQ X R e p P f g) (hp : p = true) (hg : g = fun e => e) : TQ X R e true P f fun e => e := by
  subst hp
  subst hg
  exact h
theorem TW.pu {f : E → Bool} (h : TW X R e p P f g) (hp : p = true) (hg : g = fun e => e) : TW X R e true P f fun e => e := by
  subst hp
  subst hg
  exact h
theorem filterMap_if {f : α → Bool} {h : α → β} : ∀ xs : List α, xs.filterMap (fun x => if f x = true then some (h x) else none) = (xs.filter f).map h
  | [] => rfl
  | x :: xs => by
    rw [List.filterMap_cons, List.filter_cons, filterMap_if xs]
    cases f x <;> simp
/-- [elt for tg in iter if test], nothing changed by it -/
theorem lcF {f : E → List α} {elt tg iter : Expr} {ifs : List Expr} {scope : Scope} {own : List (Str × Nat)} {put : E → α → E'} {drop : E' → E} {Pt Pe : E' → Prop} {ft : E' → Bool} {fe : E' → β} [Up lv r]
    (hi : TI X R tg iter r lv p P f g) {m : List Bool} (hm : Ins R m) (hv : ∀ i ∈ own.map (·.2), m[i]? = some true)
    (hg : ∀ (s : Shared) (H : Hp) (C : Addr) (cl : List (Str × Addr)) (fp : List Addr), TGt (X.blk s H scope (compEnvC scope cl C X.env) fp) R tg r R' put drop (own.map (·.2))) (hd : ∀ e x, drop (put e x) = e)
    (ht : ∀ (s : Shared) (H : Hp) (C : Addr) (cl : List (Str × Addr)) (fp : List Addr), TPs (X.blk s H scope (compEnvC scope cl C X.env) fp) R' ifs Pt ft)
    (he : ∀ (s' : Shared) (H : Hp) (C : Addr) (cl : List (Str × Addr)) (fp : List Addr), TX (X.blk s' H scope (compEnvC scope cl C X.env) fp) R' elt s true true Pe fe fun e => e) :
    LC X R elt tg iter ifs scope own s p (fun e => P e ∧ ∀ x ∈ f e, Pt (put (g e) x) ∧ (ft (put (g e) x) = true → Pe (put (g e) x)))
      (fun e => ((f e).filter fun x => ft (put (g e) x)).map fun x => fe (put (g e) x)) g := by
  have base := lcE hi (by simp) hm hv hg ht he
  have st : (fun (e : E) (x : α) => ((if ft (put e x) = true then some (fe (put e x)) else none : Option β), drop (if ft (put e x) = true then put e x else put e x))) = fun e x => ((if ft (put e x) = true then some (fe (put e x)) else none : Option β), e) := by
    funext e x
    rw [ite_self, hd]
  rw [show (p && true) = p by simp] at base
  refine base.cong (fun e h => ⟨h.1, ?_⟩) (fun e h => ?_) (fun e h => ?_)
  · rw [st]
    exact lcP_pure _ _ h.2
  · rw [st, lcG_pure, ← filterMap_if]
  · rw [st, lcG_pure]
theorem lcM {f : E → List α} {elt tg iter : Expr} {scope : Scope} {own : List (Str × Nat)} {put : E → α → E'} {drop : E' → E} {Pe : E' → Prop} {fe : E' → β} [Up lv r]
    (hi : TI X R tg iter r lv p P f g) {m : List Bool} (hm : Ins R m) (hv : ∀ i ∈ own.map (·.2), m[i]? = some true)
    (hg : ∀ (s : Shared) (H : Hp) (C : Addr) (cl : List (Str × Addr)) (fp : List Addr), TGt (X.blk s H scope (compEnvC scope cl C X.env) fp) R tg r R' put drop (own.map (·.2))) (hd : ∀ e x, drop (put e x) = e)
    (he : ∀ (s' : Shared) (H : Hp) (C : Addr) (cl : List (Str × Addr)) (fp : List Addr), TX (X.blk s' H scope (compEnvC scope cl C X.env) fp) R' elt s true true Pe fe fun e => e) :
    LC X R elt tg iter [] scope own s p (fun e => P e ∧ ∀ x ∈ f e, Pe (put (g e) x)) (fun e => (f e).map fun x => fe (put (g e) x)) g := by
  have base := lcF (ifs := []) hi hm hv hg hd (fun _ _ _ _ _ => tps_nil) he
  refine base.cong (fun e h => ⟨h.1, fun x hx => ⟨trivial, fun _ => h.2 x hx⟩⟩) (fun e _ => ?_) (fun _ _ => rfl)
  rw [List.filter_eq_self.mpr fun _ _ => rfl]
/-! ### dict comprehensions: the keys are to differ -/
theorem drel_keys {kk : Kp κ} {H : Hp} : ∀ {kvs : List (Key × V)} {xs : List (κ × β)}, DRel kk s H kvs xs → kvs.map (·.1) = xs.map fun x => kk.key x.1
  | _, _, .nil => rfl
  | _, _, .cons h t => by
    rw [List.map_cons, List.map_cons, drel_keys t, h.1]
theorem putK_not {kvs : List (Key × V)} {k : Key} {v : V} (h : k ∉ kvs.map (·.1)) : putK kvs k v = kvs ++ [(k, v)] := by
  refine putK_new v ?_
  cases e : valV kvs k with
  | none => rfl
  | some u => exact absurd (valV_in e) h
theorem dc_it {J : It} {n : Nat} {G : Hp → Prop} {Y : Nat → Hp → V → Hp → Prop} (wk : Walk J n G Y) {gt : TG} {tt : TT} {tk tv : TE} {vs : List Nat} {σ : St} {H1 : Hp} {D : Addr} {Qd : Hp → Prop} (Pv : Nat → Hp → Prop) (z : Pv 0 (upd H1 D (.dK []))) (hG : ∀ i H, i ≤ n → Pv i H → G H)
    (hs : ∀ i x H H', i < n → Pv i H → Y i H x H' → gt x (wipe σ vs) H' fun σ2 H2 => wipe σ2 vs = wipe σ vs ∧ tt σ2 H2 fun b H3 =>
      if b = true then tk σ2 H3 fun y H4 => tv σ2 H4 fun u H5 => ∃ kvs k, y = kV k ∧ H5 D = some (.dK kvs) ∧ kvs.length < sizeLine ∧ Pv (i + 1) (upd H5 D (.dK (putK kvs k u))) else Pv (i + 1) H3) (hd : ∀ H, Pv n H → Qd H) :
    ∃ W : Nat → Nat → Hp → Prop, (∃ m, W 0 m (upd H1 D (.dK []))) ∧ ∀ i m H, W i m H →
      (J.stop i H ∧ Qd H) ∨ (J.go i H ∧ ∃ Nx : Hp → Prop, (∀ H', Nx H' → ∃ m', m' < m ∧ W (i + 1) m' H') ∧ ∀ x H', J.yld i H x H' → gt x (wipe σ vs) H' fun σ2 H2 => wipe σ2 vs = wipe σ vs ∧ tt σ2 H2 fun b H3 =>
        if b = true then tk σ2 H3 fun y H4 => tv σ2 H4 fun u H5 => ∃ kvs k, y = kV k ∧ H5 D = some (.dK kvs) ∧ kvs.length < sizeLine ∧ Nx (upd H5 D (.dK (putK kvs k u))) else Nx H3) := by
  refine ⟨fun i m H => m + i = n ∧ Pv i H, ⟨n, rfl, z⟩, ?_⟩
  rintro i m H ⟨hm, p⟩
  have q := hG i H (by omega) p
  by_cases hi : i < n
  · exact .inr ⟨wk.goes i H hi q, Pv (i + 1), fun H' p' => ⟨m - 1, by omega, by omega, p'⟩, fun x H' y => hs i x H H' hi p (wk.yields i H x H' hi q y)⟩
  · have e : i = n := by omega
    subst e
    exact .inl ⟨wk.stops H q, hd H p⟩
/-- a dict comprehension's parts and what it makes -/
structure DC (X : Cx) {E : Type} (R : ER E) (kx vx tg iter : Expr) (ifs : List Expr) (scope : Scope) (own : List (Str × Nat)) {κ β : Type} (kk : Kp κ) (s : Rp β) (p : Bool) (P : E → Prop) (f : E → List (κ × β)) (g : E → E) : Prop where
  ex : ∃ wi g0 t0 k0 e0, PI X tg iter wi ∧ (∀ (s : Shared) (H : Hp) (C : Addr) (cl : List (Str × Addr)) (fp : List Addr), PG (X.blk s H scope (compEnvC scope cl C X.env) fp) tg g0) ∧
    (∀ (s : Shared) (H : Hp) (C : Addr) (cl : List (Str × Addr)) (fp : List Addr), PTs (X.blk s H scope (compEnvC scope cl C X.env) fp) ifs t0) ∧
    (∀ (s : Shared) (H : Hp) (C : Addr) (cl : List (Str × Addr)) (fp : List Addr), PE (X.blk s H scope (compEnvC scope cl C X.env) fp) kx k0) ∧
    (∀ (s : Shared) (H : Hp) (C : Addr) (cl : List (Str × Addr)) (fp : List Addr), PE (X.blk s H scope (compEnvC scope cl C X.env) fp) vx e0) ∧
    ∀ (w : Own) (H : Hp) (σ : St) (env : E) (Q : VK), Good w H → R.rel w H [] 2 σ env → P env →
      (∀ b kvs w' H', H' b = none → Post p R w H w' H' σ (g env) → DRel kk s (fz w' H') kvs (f env) → ((f env).map (·.1)).Nodup → (f env).length ≤ LIM → Q (.ref b) (upd H' b (.dK kvs))) → tDc wi g0 t0 k0 e0 (own.map (·.2)) σ H Q
theorem tm_dc {f : E → List (κ × β)} {kx vx tg iter : Expr} {ifs : List Expr} {scope : Scope} {own : List (Str × Nat)} {kk : Kp κ} (h : DC X R kx vx tg iter ifs scope own kk s p P f g) (hc : X.calm = true) (hN : X.N.Nodup) (ok : blkC X.N X.env.scope scope own = true)
    (hs : ∀ x, foldedSetIterable iter X.env x = pure x := by intro _; rfl) : TM X R (.DictComp kx vx [⟨tg, iter, ifs, 0⟩] scope pos) kk s p P f g := by
  obtain ⟨wi, g0, t0, k0, e0, h1, h2, h3, h4, h5, h6⟩ := h
  exact ⟨_, pe_dc hc hN h1 (blkOk_by ok) h2 h3 h4 h5 hs, h6⟩
theorem dcF {f : E → List α} {kx vx tg iter : Expr} {ifs : List Expr} {scope : Scope} {own : List (Str × Nat)} {put : E → α → E'} {drop : E' → E} {Pt Pk Pv : E' → Prop} {ft : E' → Bool} {kk : Kp κ} {rk : Rp κ} {fk : E' → κ} {fv : E' → β} [Up lv r]
    (hkk : ∀ H v x, rk.rep H v x → v = kV (kk.key x)) (hi : TI X R tg iter r lv true P f fun e => e) {m : List Bool} (hm : Ins R m) (hv : ∀ i ∈ own.map (·.2), m[i]? = some true)
    (hg : ∀ (s : Shared) (H : Hp) (C : Addr) (cl : List (Str × Addr)) (fp : List Addr), TGt (X.blk s H scope (compEnvC scope cl C X.env) fp) R tg r R' put drop (own.map (·.2))) (hd : ∀ e x, drop (put e x) = e)
    (ht : ∀ (s : Shared) (H : Hp) (C : Addr) (cl : List (Str × Addr)) (fp : List Addr), TPs (X.blk s H scope (compEnvC scope cl C X.env) fp) R' ifs Pt ft)
    (hk : ∀ (s' : Shared) (H : Hp) (C : Addr) (cl : List (Str × Addr)) (fp : List Addr), TX (X.blk s' H scope (compEnvC scope cl C X.env) fp) R' kx rk true true Pk fk fun e => e)
    (he : ∀ (s' : Shared) (H : Hp) (C : Addr) (cl : List (Str × Addr)) (fp : List Addr), TX (X.blk s' H scope (compEnvC scope cl C X.env) fp) R' vx s true true Pv fv fun e => e) :
    DC X R kx vx tg iter ifs scope own kk s true
      (fun e => P e ∧ (∀ x ∈ f e, Pt (put e x) ∧ (ft (put e x) = true → Pk (put e x) ∧ Pv (put e x))) ∧ (((f e).filter fun x => ft (put e x)).map fun x => fk (put e x)).Nodup)
      (fun e => ((f e).filter fun x => ft (put e x)).map fun x => (fk (put e x), fv (put e x))) (fun e => e) := by
  obtain ⟨wi, i1, i2⟩ := hi
  obtain ⟨g0, hg1, hg2⟩ := pg_alls (Y := fun c : Shared × Hp × Addr × List (Str × Addr) × List Addr => X.blk c.1 c.2.1 scope (compEnvC scope c.2.2.2.1 c.2.2.1 X.env) c.2.2.2.2) (e := tg)
    (S := fun v σ H Q => ∃ w env x, Good w H ∧ R.rel w H [] 2 σ env ∧ r.rep (fz w H) v x ∧ ∀ σ', R'.rel w H [] 2 σ' (put env x) → wipe σ' (own.map (·.2)) = wipe σ (own.map (·.2)) → (∀ w2 H2 env2, R'.rel w2 H2 [] 2 σ' env2 → R.rel w2 H2 [] 2 σ (drop env2)) → Q σ' H)
    (fun c => by
      obtain ⟨gt, a, b⟩ := hg c.1 c.2.1 c.2.2.1 c.2.2.2.1 c.2.2.2.2
      exact ⟨gt, a, fun v σ H Q ⟨w, env, x, G, q, hr, k⟩ => b w H σ env v x Q G q hr k⟩)
  obtain ⟨t0, ht1, ht2⟩ := pts_alls (Y := fun c : Shared × Hp × Addr × List (Str × Addr) × List Addr => X.blk c.1 c.2.1 scope (compEnvC scope c.2.2.2.1 c.2.2.1 X.env) c.2.2.2.2) (e := ifs)
    (S := fun σ H Q => ∃ w env, Good w H ∧ R'.rel w H [] 2 σ env ∧ Pt env ∧ ∀ H', Post true R' w H w H' σ env → Q (ft env) H')
    (fun c => by
      obtain ⟨gt, a, b⟩ := ht c.1 c.2.1 c.2.2.1 c.2.2.2.1 c.2.2.2.2
      exact ⟨gt, a, fun σ H Q ⟨w, env, G, q, hr, k⟩ => b w H σ env Q G q hr k⟩)
  obtain ⟨k0, hk1, hk2⟩ := pe_alls (Y := fun c : Shared × Hp × Addr × List (Str × Addr) × List Addr => X.blk c.1 c.2.1 scope (compEnvC scope c.2.2.2.1 c.2.2.1 X.env) c.2.2.2.2) (e := kx)
    (S := fun σ H Q => ∃ w env, Good w H ∧ R'.rel w H [] 2 σ env ∧ Pk env ∧ ∀ v w' H', Post true R' w H w' H' σ env → rk.rep (vw true w' H') v (fk env) → Q v H')
    (fun c => by
      obtain ⟨gt, a, b⟩ := hk c.1 c.2.1 c.2.2.1 c.2.2.2.1 c.2.2.2.2
      exact ⟨gt, a, fun σ H Q ⟨w, env, G, q, hr, k⟩ => b w H σ env Q G q hr k⟩)
  obtain ⟨e0, he1, he2⟩ := pe_alls (Y := fun c : Shared × Hp × Addr × List (Str × Addr) × List Addr => X.blk c.1 c.2.1 scope (compEnvC scope c.2.2.2.1 c.2.2.1 X.env) c.2.2.2.2) (e := vx)
    (S := fun σ H Q => ∃ w env, Good w H ∧ R'.rel w H [] 2 σ env ∧ Pv env ∧ ∀ v w' H', Post true R' w H w' H' σ env → s.rep (vw true w' H') v (fv env) → Q v H')
    (fun c => by
      obtain ⟨gt, a, b⟩ := he c.1 c.2.1 c.2.2.1 c.2.2.2.1 c.2.2.2.2
      exact ⟨gt, a, fun σ H Q ⟨w, env, G, q, hr, k⟩ => b w H σ env Q G q hr k⟩)
  refine ⟨wi, g0, t0, k0, e0, i1, fun s H C cl fp => hg1 (s, H, C, cl, fp), fun s H C cl fp => ht1 (s, H, C, cl, fp), fun s H C cl fp => hk1 (s, H, C, cl, fp), fun s H C cl fp => he1 (s, H, C, cl, fp), ?_⟩
  intro w H σ env Q G q hP k
  refine i2 w H σ env _ G q hP.1 fun J w1 H1 G' Y p1 hlim wk hG hY => fun D hD => ?_
  have hwD : w1 D = none := p1.good.new hD
  have hf : ∀ (l : List α) (x : α), ((l ++ [x]).filter fun x => ft (put env x)).map (fun x => (fk (put env x), fv (put env x))) =
      (l.filter fun x => ft (put env x)).map (fun x => (fk (put env x), fv (put env x))) ++ (if ft (put env x) = true then [(fk (put env x), fv (put env x))] else []) := fun l x => by
    rw [List.filter_append, List.map_append]
    cases h : ft (put env x) <;> simp [h]
  have tagD : ∀ {a : Addr} {t : Tag}, w1 a = some t → a ≠ D := fun {a t} ha z => by rw [z, hwD] at ha; cases ha
  refine dc_it wk (fun i Hx => ∃ kvs, Le H1 Hx ∧ (∀ a t, w1 a = some t → Hx a = H1 a) ∧ Hx D = some (.dK kvs) ∧
    DRel kk s (fz (hid D w1) Hx) kvs ((((f env).take i).filter fun x => ft (put env x)).map fun x => (fk (put env x), fv (put env x)))) ?h0 ?hG ?hs ?hd
  case h0 => exact ⟨[], .new hD, fun a t ha => upd_ne (tagD ha), upd_same, .nil⟩
  case hG =>
    rintro i Hx _ ⟨kvs, a1, a2, a3, a4⟩
    have l : Le (fz w1 H1) (fz (hid D w1) Hx) := .trans (.of fun b o hb => by
      obtain ⟨h1, h2⟩ := fz_some hb
      exact fz_of (by rw [hid_ne (ne_of_none h2 hD)]; exact h1) h2) (fz_mono a1)
    refine hG (hid D w1) Hx ?_
    cases lv with
    | true => exact l
    | false => exact a1
  case hs =>
    rintro i v Hx H2 hi ⟨kvs, a1, a2, a3, a4⟩ hy
    have l0 : Le (fz w1 H1) (fz (hid D w1) Hx) := .trans (.of fun b o hb => by
      obtain ⟨h1, h2⟩ := fz_some hb
      exact fz_of (by rw [hid_ne (ne_of_none h2 hD)]; exact h1) h2) (fz_mono a1)
    have gx : Good (hid D w1) Hx := fun a t ha => by
      by_cases e : a = D
      · rw [e, a3]
        exact fun z => nomatch z
      · rw [hid_ne e] at ha
        rw [a2 a t ha]
        exact p1.good a t ha
    have hle : Le (vw lv w1 H1) (vw lv (hid D w1) Hx) := by
      cases lv with
      | true => exact l0
      | false => exact a1
    obtain ⟨⟨l2, k2⟩, x, hx, hr⟩ := hY i v Hx H2 (hid D w1) gx hle hi hy
    have hPx := hP.2.1 x (List.mem_of_getElem? hx)
    have g2 : Good (hid D w1) H2 := fun a t ha => by rw [k2 a t ha]; exact gx a t ha
    have r2 : R.rel (hid D w1) H2 [] 2 (wipe σ (own.map (·.2))) env := R.keep (hm.wipe hv p1.env) (l0.trans (fz_mono l2)) fun a j q _ ha => by
      have e := tagD ha
      have h1 : hid D w1 a = some ([] ++ j :: q) := by rw [hid_ne e]; exact ha
      exact ⟨h1, (k2 a _ h1).trans (a2 a _ ha)⟩
    have hlen : kvs.length < sizeLine := by
      have h1 := Paired.length a4
      rw [List.length_map] at h1
      have h2 := List.length_filter_le (fun x => ft (put env x)) ((f env).take i)
      rw [List.length_take] at h2
      have : i < LIM := Nat.lt_of_lt_of_le hi hlim
      exact Nat.lt_of_lt_of_le (Nat.lt_of_le_of_lt (by omega) this) (by decide)
    refine hg2 v _ H2 _ ⟨hid D w1, env, x, g2, r2, Up.up (lv := lv) _ _ _ _ hr, fun σ' b1 b2 b3 => ⟨by rw [b2, wipe_wipe], ?_⟩⟩
    refine ht2 σ' H2 _ ⟨_, put env x, g2, b1, hPx.1, fun H3 p3 => ?_⟩
    obtain ⟨_, l3, k3⟩ := p3.pur rfl
    have keep3 : ∀ a t, w1 a = some t → H3 a = H1 a := fun a t ha => by
      have h1 : hid D w1 a = some t := by rw [hid_ne (tagD ha)]; exact ha
      exact (k3 a t h1).trans ((k2 a t h1).trans (a2 a t ha))
    have h3D : H3 D = some (.dK kvs) := (k3 D _ hid_same).trans ((k2 D _ hid_same).trans a3)
    have d3 := a4.mono ((fz_mono l2).trans (fz_mono l3) : Le (fz (hid D w1) Hx) (fz (hid D w1) H3))
    cases hft : ft (put env x) with
    | false =>
      rw [if_neg Bool.false_ne_true]
      refine ⟨kvs, (a1.trans l2).trans l3, keep3, h3D, ?_⟩
      rw [take_snoc hx, hf, if_neg (by rw [hft]; exact Bool.false_ne_true), List.append_nil]
      exact d3
    | true =>
      rw [if_pos rfl]
      refine hk2 σ' H3 _ ⟨_, put env x, p3.good, p3.env, (hPx.2 hft).1, fun y w4 H4 p4 hky => ?_⟩
      obtain ⟨e4, l4, k4⟩ := p4.pur rfl
      subst e4
      refine he2 σ' H4 _ ⟨_, put env x, p4.good, p4.env, (hPx.2 hft).2, fun u w5 H5 p5 hu => ?_⟩
      obtain ⟨e5, l5, k5⟩ := p5.pur rfl
      subst e5
      have h5D : H5 D = some (.dK kvs) := (k5 D _ hid_same).trans ((k4 D _ hid_same).trans h3D)
      have l35 : Le H3 H5 := l4.trans l5
      have nk : kk.key (fk (put env x)) ∉ kvs.map (·.1) := fun hmem => by
        rw [drel_keys d3, List.map_map] at hmem
        obtain ⟨y, hy1, hy2⟩ := List.mem_map.mp hmem
        have hy2 : kk.key (fk (put env y)) = kk.key (fk (put env x)) := hy2
        have nd := hP.2.2
        have split : f env = (f env).take i ++ x :: (f env).drop (i + 1) := by
          have h1 : i < (f env).length := hi
          have h2 : (f env)[i] = x := by
            have := List.getElem?_eq_getElem h1
            rw [hx] at this
            exact (Option.some.inj this).symm
          rw [← h2, ← List.drop_eq_getElem_cons h1, List.take_append_drop]
        rw [split, List.filter_append, List.filter_cons, if_pos hft, List.map_append, List.map_cons] at nd
        have := (List.nodup_append.mp nd).2.2 (fk (put env y)) (List.mem_map.mpr ⟨y, hy1, rfl⟩) (fk (put env x)) List.mem_cons_self
        exact this (kk.inj _ _ hy2)
      refine ⟨kvs, kk.key (fk (put env x)), hkk _ _ _ hky, h5D, hlen, putK kvs (kk.key (fk (put env x))) u, ?_, fun a t ha => ?_, upd_same, ?_⟩
      · have hH1D : Le H1 (upd H5 D (.dK (putK kvs (kk.key (fk (put env x))) u))) := fun b o hb => by
          rw [upd_ne (ne_of_none hb hD)]
          exact ((a1.trans l2).trans l3).trans l35 b o hb
        exact hH1D
      · have h1 : hid D w1 a = some t := by rw [hid_ne (tagD ha)]; exact ha
        rw [upd_ne (tagD ha)]
        exact (k5 a t h1).trans ((k4 a t h1).trans (keep3 a t ha))
      · rw [take_snoc hx, hf, if_pos hft, fz_tag hid_same, putK_not nk]
        exact paired_snoc ⟨rfl, hu⟩ (d3.mono (fz_mono l35))
  case hd =>
    rintro Hn ⟨kvs, a1, a2, a3, a4⟩
    rw [List.take_length] at a4
    have eD : fz (hid D w1) Hn = fz w1 (er D Hn) := by
      funext a
      unfold fz er
      by_cases e : a = D
      · rw [e, hid_same, hwD, if_pos rfl]
      · rw [hid_ne e, if_neg e]
    have leE : Le H1 (er D Hn) := fun b o hb => by
      have e := ne_of_none hb hD
      have := a1 b o hb
      unfold er
      rw [if_neg e]
      exact this
    have p2 : Post true R w1 H1 w1 (er D Hn) σ env := .grow p1.good p1.env leE fun a t ha => by
      unfold er
      rw [if_neg (tagD ha)]
      exact a2 a t ha
    have key := k D kvs w1 (er D Hn) (by unfold er; rw [if_pos rfl]) ((p1.trans p2).weak (by simp)) (by rw [← eD]; exact a4) (by rw [List.map_map]; exact hP.2.2) (by
      rw [List.length_map]
      exact Nat.le_trans (List.length_filter_le _ _) hlim)
    rw [er_upd a3] at key
    exact key
theorem dcM {f : E → List α} {kx vx tg iter : Expr} {scope : Scope} {own : List (Str × Nat)} {put : E → α → E'} {drop : E' → E} {Pk Pv : E' → Prop} {kk : Kp κ} {rk : Rp κ} {fk : E' → κ} {fv : E' → β} [Up lv r]
    (hkk : ∀ H v x, rk.rep H v x → v = kV (kk.key x)) (hi : TI X R tg iter r lv true P f fun e => e) {m : List Bool} (hm : Ins R m) (hv : ∀ i ∈ own.map (·.2), m[i]? = some true)
    (hg : ∀ (s : Shared) (H : Hp) (C : Addr) (cl : List (Str × Addr)) (fp : List Addr), TGt (X.blk s H scope (compEnvC scope cl C X.env) fp) R tg r R' put drop (own.map (·.2))) (hd : ∀ e x, drop (put e x) = e)
    (hk : ∀ (s' : Shared) (H : Hp) (C : Addr) (cl : List (Str × Addr)) (fp : List Addr), TX (X.blk s' H scope (compEnvC scope cl C X.env) fp) R' kx rk true true Pk fk fun e => e)
    (he : ∀ (s' : Shared) (H : Hp) (C : Addr) (cl : List (Str × Addr)) (fp : List Addr), TX (X.blk s' H scope (compEnvC scope cl C X.env) fp) R' vx s true true Pv fv fun e => e) :
    DC X R kx vx tg iter [] scope own kk s true (fun e => P e ∧ (∀ x ∈ f e, Pk (put e x) ∧ Pv (put e x)) ∧ ((f e).map fun x => fk (put e x)).Nodup) (fun e => (f e).map fun x => (fk (put e x), fv (put e x))) (fun e => e) := by
  obtain ⟨wi, g0, t0, k0, e0, h1, h3, h4, h5, h6, h2⟩ := dcF (ifs := []) hkk hi hm hv hg hd (fun _ _ _ _ _ => tps_nil) hk he
  have fe : ∀ l : List α, (l.filter fun _ => true) = l := fun l => List.filter_eq_self.mpr fun _ _ => rfl
  refine ⟨wi, g0, t0, k0, e0, h1, h3, h4, h5, h6, fun w H σ env Q G q hp k => h2 w H σ env Q G q ⟨hp.1, fun x hx => ⟨trivial, fun _ => hp.2.1 x hx⟩, by rw [fe]; exact hp.2.2⟩ ?_⟩
  simp only [fe]
  exact k
end
end Lmo
end
section
set_option Elab.async false
set_option linter.all false
set_option maxRecDepth 100000
set_option maxHeartbeats 4000000
namespace Lmo
open PySem L2
/-! ### statements -/
inductive Out (E ρ : Type) where
  | nx (e : E)
  | rt (r : ρ)
abbrev RS (ρ : Type) := Own → Hp → V → ρ → Prop
structure Aft (w : Own) (H : Hp) (w' : Own) (H' : Hp) : Prop where
  good : Good w' H'
  le : Le (fz w H) (fz w' H')
  fk : ∀ a q, w a = some (0 :: q) → w' a = some (0 :: q) ∧ H' a = H a
theorem Aft.refl {w : Own} {H : Hp} (g : Good w H) : Aft w H w H := ⟨g, .refl _, fun _ _ h => ⟨h, rfl⟩⟩
theorem Aft.trans {w w1 w2 : Own} {H H1 H2 : Hp} (a : Aft w H w1 H1) (b : Aft w1 H1 w2 H2) : Aft w H w2 H2 := ⟨b.good, a.le.trans b.le, fun c t h => by
  obtain ⟨h1, h2⟩ := a.fk c t h
  obtain ⟨h3, h4⟩ := b.fk c t h1
  exact ⟨h3, h4.trans h2⟩⟩
theorem Post.aft {E : Type} {R : ER E} {p : Bool} {w w' : Own} {H H' : Hp} {σ : St} {e : E} (h : Post p R w H w' H' σ e) : Aft w H w' H' := ⟨h.good, h.sm, fun a q => h.fk a 0 q (by omega)⟩
/-- a block: what it needs, how it ends -/
structure TS (X : Cx) {E E' : Type} (R : ER E) (ss : List Stmt) (R' : ER E') {ρ : Type} (RR : RS ρ) (P : E → Prop) (f : E → Out E' ρ) : Prop where
  ex : ∃ t, PSs X ss t ∧ ∀ (w : Own) (H : Hp) (σ : St) (env : E) (D : Ends), Good w H → R.rel w H [] 2 σ env → P env →
    (∀ w' H' σ' e', f env = .nx e' → Aft w H w' H' → R'.rel w' H' [] 2 σ' e' → D.nx σ' H') → (∀ v w' H' r, f env = .rt r → Aft w H w' H' → RR w' H' v r → D.rt v H') → t D σ H
/-- one statement -/
structure T1 (X : Cx) {E E' : Type} (R : ER E) (s : Stmt) (R' : ER E') {ρ : Type} (RR : RS ρ) (P : E → Prop) (f : E → Out E' ρ) : Prop where
  ex : ∃ t, PS X s t ∧ ∀ (w : Own) (H : Hp) (σ : St) (env : E) (D : Ends), Good w H → R.rel w H [] 2 σ env → P env →
    (∀ w' H' σ' e', f env = .nx e' → Aft w H w' H' → R'.rel w' H' [] 2 σ' e' → D.nx σ' H') → (∀ v w' H' r, f env = .rt r → Aft w H w' H' → RR w' H' v r → D.rt v H') → t D σ H
/-- one statement that just goes on -/
structure TL1 (X : Cx) {E E' : Type} (R : ER E) (s : Stmt) (R' : ER E') (P : E → Prop) (h : E → E') : Prop where
  ex : ∃ t, PS X s t ∧ ∀ (w : Own) (H : Hp) (σ : St) (env : E) (D : Ends), Good w H → R.rel w H [] 2 σ env → P env →
    (∀ w' H' σ', Aft w H w' H' → R'.rel w' H' [] 2 σ' (h env) → D.nx σ' H') → t D σ H
/-- one behind the other (named, so that nothing is written out twice) -/
def cmp {α β γ : Sort _} (h : α → β) (k : β → γ) (e : α) : γ := k (h e)
def Out.bind {E E' ρ : Type} (o : Out E ρ) (k : E → Out E' ρ) : Out E' ρ := match o with
  | .nx e => k e
  | .rt r => .rt r
section
variable {X : Cx} {E E1 E2 : Type} {R : ER E} {R1 : ER E1} {R2 : ER E2} {ρ : Type} {RR : RS ρ} {P P1 P2 : E → Prop} {pos : Pos} {s : Stmt} {ss : List Stmt}
theorem ts_nil : TS X R [] R RR (fun _ => True) (fun e => .nx e) := ⟨_, pss_nil, fun w H σ env D G q _ k _ => k w H σ env rfl (.refl G) q⟩
theorem ts_seq {h : E → E1} {Pk : E1 → Prop} {fk : E1 → Out E2 ρ} (h1 : TL1 X R s R1 P h) (h2 : TS X R1 ss R2 RR Pk fk) : TS X R (s :: ss) R2 RR (fun e => P e ∧ cmp h Pk e) (cmp h fk) := by
  obtain ⟨t, a, b⟩ := h1
  obtain ⟨u, c, d⟩ := h2
  exact ⟨_, pss_cons a c, fun w H σ env D G q hP k kr => b w H σ env _ G q hP.1 fun w' H' σ' af q' => d w' H' σ' _ D af.good q' hP.2 (fun w2 H2 σ2 e2 z af2 q2 => k w2 H2 σ2 e2 z (af.trans af2) q2) fun v w2 H2 r z af2 hr => kr v w2 H2 r z (af.trans af2) hr⟩
theorem ts_one {f : E → Out E1 ρ} (h : T1 X R s R1 RR P f) : TS X R [s] R1 RR P f := by
  obtain ⟨t, a, b⟩ := h
  exact ⟨_, pss_one a, b⟩
theorem ts_last {h : E → E1} (h1 : TL1 X R s R1 P h) : TS X R [s] R1 RR P (fun e => .nx (h e)) := by
  obtain ⟨t, a, b⟩ := h1
  exact ⟨_, pss_one a, fun w H σ env D G q hP k kr => b w H σ env D G q hP fun w' H' σ' af q' => k w' H' σ' _ rfl af q'⟩
theorem ts_cons {f : E → Out E1 ρ} {Pk : E1 → Prop} {fk : E1 → Out E2 ρ} (h1 : T1 X R s R1 RR P f) (h2 : TS X R1 ss R2 RR Pk fk) : TS X R (s :: ss) R2 RR (fun e => P e ∧ ∀ e1, f e = .nx e1 → Pk e1) (fun e => (f e).bind fk) := by
  obtain ⟨t, a, b⟩ := h1
  obtain ⟨u, c, d⟩ := h2
  refine ⟨_, pss_cons a c, fun w H σ env D G q hP k kr => b w H σ env _ G q hP.1 (fun w' H' σ' e' z af q' => ?_) fun v w2 H2 r z af2 hr => kr v w2 H2 r (by rw [z]; rfl) af2 hr⟩
  refine d w' H' σ' e' D af.good q' (hP.2 e' z) (fun w2 H2 σ2 e2 z2 af2 q2 => k w2 H2 σ2 e2 (by rw [z]; exact z2) (af.trans af2) q2) fun v w2 H2 r z2 af2 hr => kr v w2 H2 r (by rw [z]; exact z2) (af.trans af2) hr
/-- if c: a (which never goes on); the rest -/
theorem ts_ifR {c : Expr} {a : List Stmt} {pc : Bool} {Pc : E → Prop} {fc : E → Bool} {gc : E → E} {Pa Pk : E → Prop} {fa : E → Out Unit ρ} {fk : E → Out E2 ρ} (hc : TQ X R c pc Pc fc gc) (ha : TS X R a en RR Pa fa) (hn : ∀ e e', fa e ≠ .nx e') (hk : TS X R ss R2 RR Pk fk) :
    TS X R (.If c a [] pos :: ss) R2 RR (fun e => Pc e ∧ (fc e = true → Pa (gc e)) ∧ (fc e = false → Pk (gc e))) (fun e => if fc e = true then (match fa (gc e) with | .nx _ => fk (gc e) | .rt r => .rt r) else fk (gc e)) := by
  obtain ⟨t, a1, a2⟩ := hc
  obtain ⟨u, b1, b2⟩ := ha
  obtain ⟨v, c1, c2⟩ := hk
  refine ⟨_, pss_cons (ps_if a1 b1 pss_nil) c1, fun w H σ env D G q hP k kr => a2 w H σ env _ G q hP.1 fun w' H' p => ?_⟩
  cases e : fc env with
  | true =>
    rw [if_pos rfl]
    refine b2 w' H' σ _ _ p.good p.env (hP.2.1 e) (fun w2 H2 σ2 e2 z => absurd z (hn _ _)) fun v w2 H2 r z af2 hr => kr v w2 H2 r ?_ (p.aft.trans af2) hr
    show (if fc env = true then _ else _) = _
    rw [if_pos e, z]
  | false =>
    rw [if_neg Bool.false_ne_true]
    have e' : ¬ fc env = true := by rw [e]; exact Bool.false_ne_true
    refine c2 w' H' σ _ _ p.good p.env (hP.2.2 e) (fun w2 H2 σ2 e2 z af2 q2 => k w2 H2 σ2 e2 ?_ (p.aft.trans af2) q2) fun v w2 H2 r z af2 hr => kr v w2 H2 r ?_ (p.aft.trans af2) hr
    · show (if fc env = true then _ else _) = _
      rw [if_neg e', z]
    · show (if fc env = true then _ else _) = _
      rw [if_neg e', z]
theorem t1_if {c : Expr} {a b : List Stmt} {pc : Bool} {Pc : E → Prop} {fc : E → Bool} {gc : E → E} {Pa Pb : E → Prop} {fa fb : E → Out E1 ρ} (hc : TQ X R c pc Pc fc gc) (ha : TS X R a R1 RR Pa fa) (hb : TS X R b R1 RR Pb fb) :
    T1 X R (.If c a b pos) R1 RR (fun e => Pc e ∧ (fc e = true → Pa (gc e)) ∧ (fc e = false → Pb (gc e))) (fun e => if fc e = true then fa (gc e) else fb (gc e)) := by
  obtain ⟨t, a1, a2⟩ := hc
  obtain ⟨u, b1, b2⟩ := ha
  obtain ⟨v, c1, c2⟩ := hb
  refine ⟨_, ps_if a1 b1 c1, fun w H σ env D G q hP k kr => a2 w H σ env _ G q hP.1 fun w' H' p => ?_⟩
  cases e : fc env with
  | true =>
    rw [if_pos rfl]
    refine b2 w' H' σ _ _ p.good p.env (hP.2.1 e) (fun w2 H2 σ2 e2 z af2 q2 => k w2 H2 σ2 e2 ?_ (p.aft.trans af2) q2) fun v w2 H2 r z af2 hr => kr v w2 H2 r ?_ (p.aft.trans af2) hr
    all_goals
      show (if fc env = true then _ else _) = _
      rw [if_pos e, z]
  | false =>
    rw [if_neg Bool.false_ne_true]
    have e' : ¬ fc env = true := by rw [e]; exact Bool.false_ne_true
    refine c2 w' H' σ _ _ p.good p.env (hP.2.2 e) (fun w2 H2 σ2 e2 z af2 q2 => k w2 H2 σ2 e2 ?_ (p.aft.trans af2) q2) fun v w2 H2 r z af2 hr => kr v w2 H2 r ?_ (p.aft.trans af2) hr
    all_goals
      show (if fc env = true then _ else _) = _
      rw [if_neg e', z]
/-- code that is never come to -/
theorem ts_never {f : E → Out E1 ρ} : TS X R ss R1 RR (fun _ => False) f := ⟨_, pss_never, fun _ _ _ _ _ _ _ h => h.elim⟩
/-- the slots said otherwise, ahead of a block -/
structure GH {E E1 : Type} (R : ER E) (R1 : ER E1) (h : E → E1) : Prop where
  gh : ∀ {w : Own} {H : Hp} {σ : St} {e : E}, Good w H → R.rel w H [] 2 σ e → ∃ w', Aft w H w' H ∧ R1.rel w' H [] 2 σ (h e)
theorem ts_gh {h : E → E1} {Pk : E1 → Prop} {fk : E1 → Out E2 ρ} (g : GH R R1 h) (hk : TS X R1 ss R2 RR Pk fk) : TS X R ss R2 RR (cmp h Pk) (cmp h fk) := by
  obtain ⟨t, a, b⟩ := hk
  refine ⟨t, a, fun w H σ env D G q hP k kr => ?_⟩
  obtain ⟨w', af, q'⟩ := g.gh G q
  exact b w' H σ _ D af.good q' hP (fun w2 H2 σ2 e2 z af2 q2 => k w2 H2 σ2 e2 z (af.trans af2) q2) fun v w2 H2 r z af2 hr => kr v w2 H2 r z (af.trans af2) hr
/-- .. behind a block -/
theorem ts_hg {f : E → Out E1 ρ} {h : E1 → E2} (hk : TS X R ss R1 RR P f) (g : GH R1 R2 h) : TS X R ss R2 RR P (fun e => (f e).bind fun e1 => .nx (h e1)) := by
  obtain ⟨t, a, b⟩ := hk
  refine ⟨t, a, fun w H σ env D G q hP k kr => b w H σ env D G q hP (fun w' H' σ' e' z af q' => ?_) fun v w' H' r z af hr => kr v w' H' r (by rw [z]; rfl) af hr⟩
  obtain ⟨w2, af2, q2⟩ := g.gh af.good q'
  exact k w2 H' σ' _ (by rw [z]; rfl) (af.trans af2) q2
theorem gh_trans {h : E → E1} {k : E1 → E2} (a : GH R R1 h) (b : GH R1 R2 k) : GH R R2 (fun e => k (h e)) := ⟨fun {w H σ e} G q => by
  obtain ⟨w1, af, q1⟩ := a.gh G q
  obtain ⟨w2, af2, q2⟩ := b.gh af.good q1
  exact ⟨w2, af.trans af2, q2⟩⟩
theorem set_self {σ : St} {i : Nat} {o : Option V} (h : σ[i]? = some o) : σ.set i o = σ := by
  obtain ⟨hl, e⟩ := List.getElem?_eq_some_iff.mp h
  rw [← e]
  exact List.set_getElem_self hl
/-- a slot forgotten -/
theorem gh_un {i : Nat} {α : Type} {S : SR α} {get : E → α} {set : E → α → E} {put : E → Unit → E1} (h : Has R i S get set) (hp : Put R i un R1 put) : GH R R1 (fun e => put e ()) := ⟨fun {w H σ e} G q => by
  obtain ⟨o, h1, _⟩ := h.get q
  have := hp.put (o := o) (x := ()) q (.refl _) (fun a j t _ _ ha => ⟨ha, rfl⟩) trivial
  rw [set_self h1] at this
  exact ⟨w, .refl G, this⟩⟩
/-- a list, a dict of one's own may be shared from now on -/
theorem untag {w : Own} {H : Hp} {b : Addr} {t : Tag} (h : w b = some t) : Le (fz w H) (fz (unh b w) H) := .of fun c o hc => by
  obtain ⟨h1, h2⟩ := fz_some hc
  exact fz_of (by unfold unh; split <;> first | rfl | exact h1) h2
theorem gh_frL {i : Nat} {α : Type} {r : Rp α} {get : E → List α} {set : E → List α → E} {put : E → List α → E1} (h : Has R i (ol r) get set) (hp : Put R i (fr (rList r)) R1 put) : GH R R1 (fun e => put e (get e)) := ⟨fun {w H σ e} G q => by
  obtain ⟨o, h1, a, vs, rfl, h3, h4, h5, h6⟩ := h.get q
  have l := untag (H := H) h3
  have hne : ∀ {c : Addr} {t : Tag}, w c = some t → t ≠ [2 + i] → c ≠ a := fun {c t} hc hn z => by
    rw [z] at hc
    have h3' : w a = some ([] ++ [2 + i]) := h3
    rw [h3'] at hc
    exact hn (Option.some.inj hc).symm
  have af : Aft w H (unh a w) H := ⟨fun c t hc => by
    by_cases e : c = a
    · rw [e] at hc; unfold unh at hc; rw [if_pos rfl] at hc; cases hc
    · rw [unh_ne e] at hc; exact G c t hc, l, fun c t hc => ⟨by rw [unh_ne (hne hc (by intro z; have e := (List.cons.inj z).1; omega))]; exact hc, rfl⟩⟩
  have := hp.put (o := some (.ref a)) (x := get e) q l (fun c j t _ hj hc => ⟨by rw [unh_ne (hne hc (by intro z; have e := (List.cons.inj z).1; omega))]; exact hc, rfl⟩) ⟨_, rfl, a, vs, rfl, fz_of (by unfold unh; rw [if_pos rfl]) h4, paired_le l h5, h6⟩
  rw [set_self h1] at this
  exact ⟨_, af, this⟩⟩
theorem gh_frD {i : Nat} {κ β : Type} {kk : Kp κ} {r : Rp β} {get : E → List (κ × β)} {set : E → List (κ × β) → E} {put : E → List (κ × β) → E1} (h : Has R i (od kk r) get set) (hp : Put R i (fr (rDict kk r)) R1 put) : GH R R1 (fun e => put e (get e)) := ⟨fun {w H σ e} G q => by
  obtain ⟨o, h1, a, kvs, rfl, h3, h4, h5, h6, h7⟩ := h.get q
  have l := untag (H := H) h3
  have hne : ∀ {c : Addr} {t : Tag}, w c = some t → t ≠ [2 + i] → c ≠ a := fun {c t} hc hn z => by
    rw [z] at hc
    have h3' : w a = some ([] ++ [2 + i]) := h3
    rw [h3'] at hc
    exact hn (Option.some.inj hc).symm
  have af : Aft w H (unh a w) H := ⟨fun c t hc => by
    by_cases e : c = a
    · rw [e] at hc; unfold unh at hc; rw [if_pos rfl] at hc; cases hc
    · rw [unh_ne e] at hc; exact G c t hc, l, fun c t hc => ⟨by rw [unh_ne (hne hc (by intro z; have e := (List.cons.inj z).1; omega))]; exact hc, rfl⟩⟩
  have := hp.put (o := some (.ref a)) (x := get e) q l (fun c j t _ hj hc => ⟨by rw [unh_ne (hne hc (by intro z; have e := (List.cons.inj z).1; omega))]; exact hc, rfl⟩) ⟨_, rfl, a, _, kvs, rfl, fz_of (by unfold unh; rw [if_pos rfl]) h4, rfl, h5.mono l, h6, h7⟩
  rw [set_self h1] at this
  exact ⟨_, af, this⟩⟩
end
/-! ### return, assignments -/
section
variable {X : Cx} {E E1 E2 : Type} {R : ER E} {R1 : ER E1} {R2 : ER E2} {ρ α β κ : Type} {RR : RS ρ} {P : E → Prop} {g : E → E} {pos xp : Pos} {ss : List Stmt} {e : Expr} {r : Rp α} {lv p : Bool} {f : E → α} {x : Str} {i : Nat}
/-- a frozen answer -/
def rsF (r : Rp α) : RS α := fun w H v x => r.rep (fz w H) v x
def rsN : RS Unit := fun _ _ v _ => v = .non
theorem ts_ret [Up lv r] (h : TX X R e r lv p P f g) : TS X R [.Return (some e) pos] R1 (rsF r) P (fun e => .rt (f e)) := by
  obtain ⟨t, a, b⟩ := h
  exact ⟨_, pss_one (ps_ret a), fun w H σ env D G q hP k kr => b w H σ env _ G q hP fun v w' H' hp hr => kr v w' H' _ rfl hp.aft (Up.up (lv := lv) _ _ _ _ hr)⟩
theorem ts_retN : TS X R [.Return none pos] R1 rsN (fun _ => True) (fun _ => .rt ()) :=
  ⟨_, pss_one ps_retN, fun w H σ env D G q _ k kr => kr _ w H _ rfl (.refl G) rfl⟩
theorem tl_expr (h : TX X R e r lv p P f g) (hs : swapsWith e none pos.line X.env = pure false := by rfl) : TL1 X R (.Expr e pos) R P g := by
  obtain ⟨t, a, b⟩ := h
  exact ⟨_, ps_expr a hs, fun w H σ env D G q hP k => b w H σ env _ G q hP fun v w' H' hp _ => k w' H' σ hp.aft hp.env⟩
theorem put_read {put : E → α → E1} {S : SR α} (h : Put R i S R1 put) {w : Own} {H : Hp} {σ : St} {env : E} {v : V} {y : α} (q : R.rel w H [] 2 σ env) (s : S.rel w H [2 + i] (some v) y) : R1.rel w H [] 2 (σ.set i (some v)) (put env y) :=
  h.put q (.refl _) (fun a j t _ _ ha => ⟨ha, rfl⟩) s
/-- x = e, shared -/
theorem tl_set [Up lv r] {put : E → α → E1} (h : TX X R e r lv p P f g) (hp : Put R i (fr r) R1 put) (hN : X.N.Nodup) (hi : X.N[i]? = some x) (hx : Loc X.env.scope x) (hs : swapsWith e (some (.Name x xp)) pos.line X.env = pure false := by rfl)
    (hf : X.fn x = true ∨ X.env.scope.names.lookup x = some .local := by first | exact .inl rfl | exact .inr rfl) : TL1 X R (.Assign [.Name x xp] e pos) R1 P (fun e => put (g e) (f e)) := by
  obtain ⟨t, a, b⟩ := h
  exact ⟨_, ps_set hN hi hx a hs hf, fun w H σ env D G q hP k => b w H σ env _ G q hP fun v w' H' hpo hr => k w' H' _ hpo.aft (put_read hp hpo.env ⟨v, rfl, Up.up (lv := lv) _ _ _ _ hr⟩)⟩
/-- a new list, a new dict kept as one's own -/
def own1 (b : Addr) (t : Tag) (w : Own) : Own := fun a => if a = b then some t else w a
theorem own1_same {b : Addr} {t : Tag} {w : Own} : own1 b t w b = some t := by unfold own1; rw [if_pos rfl]
theorem own1_ne {a b : Addr} {t : Tag} {w : Own} (h : a ≠ b) : own1 b t w a = w a := by unfold own1; rw [if_neg h]
theorem own_new {w : Own} {H : Hp} {b : Addr} {t : Tag} {o : HO} (G : Good w H) (hb : H b = none) : Aft w H (own1 b t w) (upd H b o) := ⟨fun a u ha => by
    by_cases e : a = b
    · rw [e, upd_same]
      exact fun z => nomatch z
    · rw [own1_ne e] at ha
      rw [upd_ne e]
      exact G a u ha, .of fun c u hc => by
    obtain ⟨h1, h2⟩ := fz_some hc
    have e := ne_of_none h2 hb
    exact fz_of (by rw [own1_ne e]; exact h1) (by rw [upd_ne e]; exact h2), fun a q ha => by
    have e : a ≠ b := fun z => G a _ ha (by rw [z]; exact hb)
    exact ⟨by rw [own1_ne e]; exact ha, upd_ne e⟩⟩
theorem own_put {put : E → α → E1} {S : SR α} (h : Put R i S R1 put) {w : Own} {H : Hp} {σ : St} {env : E} {b : Addr} {y : α} {o : HO} {t : Tag} {v : V} (G : Good w H) (hb : H b = none) (q : R.rel w H [] 2 σ env) (s : S.rel (own1 b t w) (upd H b o) [2 + i] (some v) y) :
    R1.rel (own1 b t w) (upd H b o) [] 2 (σ.set i (some v)) (put env y) :=
  h.put q (own_new G hb).le (fun a j q _ _ ha => by
    have e : a ≠ b := fun z => G a _ ha (by rw [z]; exact hb)
    exact ⟨by rw [own1_ne e]; exact ha, upd_ne e⟩) s
theorem ol_new {w : Own} {H : Hp} {b : Addr} {t : Tag} {vs : List V} {xs : List α} (G : Good w H) (hb : H b = none) (hr : Paired (r.rep (fz w H)) vs xs) (hl : xs.length ≤ LIM) : (ol r).rel (own1 b t w) (upd H b (.lst vs)) t (some (.ref b)) xs :=
  ⟨b, vs, rfl, own1_same, upd_same, paired_le (own_new G hb).le hr, hl⟩
theorem od_new {kk : Kp κ} {s : Rp β} {w : Own} {H : Hp} {b : Addr} {t : Tag} {kvs : List (Key × V)} {xs : List (κ × β)} (G : Good w H) (hb : H b = none) (hr : DRel kk s (fz w H) kvs xs) (hn : (xs.map (·.1)).Nodup) (hl : xs.length ≤ LIM) : (od kk s).rel (own1 b t w) (upd H b (.dK kvs)) t (some (.ref b)) xs :=
  ⟨b, kvs, rfl, own1_same, upd_same, hr.mono (own_new G hb).le, hn, hl⟩
theorem tl_setO {f : E → List α} {put : E → List α → E1} (h : TN X R e r p P f g) (hp : Put R i (ol r) R1 put) (hN : X.N.Nodup) (hi : X.N[i]? = some x) (hx : Loc X.env.scope x) (hs : swapsWith e (some (.Name x xp)) pos.line X.env = pure false := by rfl)
    (hf : X.fn x = true ∨ X.env.scope.names.lookup x = some .local := by first | exact .inl rfl | exact .inr rfl) : TL1 X R (.Assign [.Name x xp] e pos) R1 P (fun e => put (g e) (f e)) := by
  obtain ⟨t, a, b⟩ := h
  exact ⟨_, ps_set hN hi hx a hs hf, fun w H σ env D G q hP k => b w H σ env _ G q hP fun b vs w' H' hb hpo hr hl => k _ _ _ (hpo.aft.trans (own_new hpo.good hb)) (own_put hp hpo.good hb hpo.env (ol_new hpo.good hb hr hl))⟩
theorem tl_setOD {kk : Kp κ} {s : Rp β} {f : E → List (κ × β)} {put : E → List (κ × β) → E1} (h : TM X R e kk s p P f g) (hp : Put R i (od kk s) R1 put) (hN : X.N.Nodup) (hi : X.N[i]? = some x) (hx : Loc X.env.scope x) (hs : swapsWith e (some (.Name x xp)) pos.line X.env = pure false := by rfl)
    (hf : X.fn x = true ∨ X.env.scope.names.lookup x = some .local := by first | exact .inl rfl | exact .inr rfl) : TL1 X R (.Assign [.Name x xp] e pos) R1 P (fun e => put (g e) (f e)) := by
  obtain ⟨t, a, b⟩ := h
  exact ⟨_, ps_set hN hi hx a hs hf, fun w H σ env D G q hP k => b w H σ env _ G q hP fun b vs w' H' hb hpo hr hn hl => k _ _ _ (hpo.aft.trans (own_new hpo.good hb)) (own_put hp hpo.good hb hpo.env (od_new hpo.good hb hr hn hl))⟩
end
end Lmo
end
section
set_option Elab.async false
set_option linter.all false
set_option maxRecDepth 100000
set_option maxHeartbeats 4000000
namespace Lmo
open PySem L2
open PyProof.Rows (envOfC)
/-! ### tags renamed at a call -/
/-- all that the caller owns is foreign to the callee -/
def far (w : Own) : Own := fun a => match w a with
  | some t => some (0 :: t)
  | none => none
def near (w : Own) : Own := fun a => match w a with
  | some (0 :: t) => some t
  | _ => none
theorem far_none {w : Own} {a : Addr} (h : w a = none) : far w a = none := by unfold far; rw [h]
theorem far_some {w : Own} {a : Addr} {t : Tag} (h : w a = some t) : far w a = some (0 :: t) := by unfold far; rw [h]
theorem near_far {w : Own} {a : Addr} {t : Tag} (h : w a = some (0 :: t)) : near w a = some t := by
  unfold near
  simp only [h]
theorem near_none {w : Own} {a : Addr} (h : w a = none) : near w a = none := by unfold near; rw [h]
theorem near_some {w : Own} {a : Addr} {t : Tag} (h : near w a = some t) : w a = some (0 :: t) := by
  unfold near at h
  split at h
  · rename_i t' e
    rw [e, Option.some.inj h]
  · cases h
theorem fz_far {w : Own} {H : Hp} : fz (far w) H = fz w H := by
  funext a
  unfold fz
  cases e : w a with
  | none => rw [far_none e]
  | some t => rw [far_some e]
theorem good_far {w : Own} {H : Hp} (g : Good w H) : Good (far w) H := fun a t h => by
  cases e : w a with
  | none => rw [far_none e] at h; cases h
  | some u => exact g a u e
theorem le_near {w : Own} {H : Hp} : Le (fz w H) (fz (near w) H) := .of fun b o h => by
  obtain ⟨h1, h2⟩ := fz_some h
  exact fz_of (near_none h1) h2
/-- slot i handed in as the callee's first -/
def farI (i : Nat) (w : Own) : Own := fun a => match w a with
  | some (j :: q) => if j = 2 + i then some (2 :: q) else some (0 :: j :: q)
  | some [] => some [0]
  | none => none
def nearI (i : Nat) (w : Own) : Own := fun a => match w a with
  | some (0 :: t) => some t
  | some (2 :: q) => some ((2 + i) :: q)
  | _ => none
theorem fz_farI {i : Nat} {w : Own} {H : Hp} : fz (farI i w) H = fz w H := by
  funext a
  unfold fz farI
  cases e : w a with
  | none => rfl
  | some t =>
    cases t with
    | nil => rfl
    | cons j q =>
      by_cases h : j = 2 + i
      · simp only [h, if_true]
      · simp only [if_neg h]
theorem good_farI {i : Nat} {w : Own} {H : Hp} (g : Good w H) : Good (farI i w) H := fun a t h => by
  cases e : w a with
  | none => unfold farI at h; rw [e] at h; cases h
  | some u => exact g a u e
theorem le_nearI {i : Nat} {w : Own} {H : Hp} : Le (fz w H) (fz (nearI i w) H) := .of fun b o h => by
  obtain ⟨h1, h2⟩ := fz_some h
  exact fz_of (by unfold nearI; rw [h1]) h2
theorem good_near {w : Own} {H : Hp} (g : Good w H) : Good (near w) H := fun a t h => g a _ (near_some h)
theorem good_nearI {i : Nat} {w : Own} {H : Hp} (g : Good w H) : Good (nearI i w) H := fun a t h => by
  cases e : w a with
  | none => unfold nearI at h; rw [e] at h; cases h
  | some u => exact g a u e
/-! ### what a def promises -/
/-- nothing handed in changes -/
def spP {α ρ : Type} (t : Tp α) (RR : RS ρ) (Pre : α → Prop) (fn : α → ρ) : Sp := fun vs H Q _ => ∃ (w : Own) (a : α), Good w H ∧ t.rep (fz w H) vs a ∧ Pre a ∧
  ∀ v w' H', Aft w H w' H' → RR w' H' v (fn a) → Q v H'
/-- the first thing handed in may change -/
def spI {α σ ρ : Type} (S : SR σ) (t : Tp α) (RR : RS ρ) (Pre : σ → α → Prop) (fn : σ → α → ρ × σ) : Sp := fun vs H Q _ => ∃ (w : Own) (s : σ) (a : α) (v0 : V) (us : List V), vs = v0 :: us ∧ Good w H ∧ S.rel w H [2] (some v0) s ∧ t.rep (fz w H) us a ∧ Pre s a ∧
  ∀ v w' H', Aft w H w' H' → RR w' H' v (fn s a).1 → S.rel w' H' [2] (some v0) (fn s a).2 → Q v H'
section
variable {X : Cx} {E : Type} {R : ER E} {pos np : Pos} {α ρ σ' : Type} {t : Tp α} {e : Expr} {es : List Expr} {P : E → Prop} {f : E → α} {g : E → E} {p : Bool} {x : Str} {rr : Rp ρ} {Pre : α → Prop} {fn : α → ρ} {k j : Nat} {fa : Addr} {fd : FuncData} {ps : List Str} {ds : List Value} {dvs : List V}
/-- behind a call that changes nothing of the caller's -/
theorem call_back {w w2 : Own} {H H2 : Hp} {σ : L2.St} {env : E} (G : Good w H) (q : R.rel w H [] 2 σ env) (a : Aft (far w) H w2 H2) : Post true R w H w H2 σ env ∧ Le (fz w2 H2) (fz w H2) := by
  have kp : ∀ b t, w b = some t → H2 b = H b := fun b t hb => (a.fk b t (far_some hb)).2
  refine ⟨.grow G q (fun b o hb => ?_) kp, .of fun b o hb => ?_⟩
  · cases e : w b with
    | some t => exact .inl (by rw [kp b t e]; exact hb)
    | none =>
      rcases a.le b o (by rw [fz_far]; exact fz_of e hb) with h | ⟨ob, kvs, e1, h⟩
      · exact .inl (fz_some h).2
      · exact .inr ⟨ob, kvs, e1, (fz_some h).2⟩
  · obtain ⟨h1, h2⟩ := fz_some hb
    refine fz_of ?_ h2
    cases e : w b with
    | none => rfl
    | some t =>
      have := (a.fk b t (far_some e)).1
      rw [h1] at this
      cases this
theorem tx_call (G : FnOk X.prog X.w X.K X.mg X.base CX0 k fa fd ps (spP t (rsF rr) Pre fn)) (hr : Room j X.A) (hkj : k ≤ j) (hg : Gl X x) (hm : X.mg x = some (.ref fa)) (hk : PySem.W.keepIn X.K (.ref fa) = true) (hb : Binds X.K fd ps []) (ha : TAs X R (e :: es) t true p P f g)
    (hdb : (x == ("__debug__" : Str)) = false := by decide) (he : starEach (e :: es) X.env = (false, eval e X.env) :: starEach es X.env := by rfl) (hpl : (backTo pos (starEach es X.env)).any (·.1) = false := by rfl) :
    TX X R (.Call (.Name x np) (e :: es) [] pos) rr true p (fun e => P e ∧ Pre (f e)) (fun e => fn (f e)) g := by
  obtain ⟨ta, a, b⟩ := ha
  refine ⟨_, pe_call G (hr.mono hkj) hg hm hk hb .nil (pass0 (X := X)) a hdb he hpl, fun w H σ env Q Gd q hP kk => b w H σ env _ Gd q hP.1 fun vs w' H' hp hv => ?_⟩
  rw [List.append_nil]
  refine ⟨far w', f env, good_far hp.good, by rw [fz_far]; exact hv, hP.2, fun v w2 H2 af hres => ?_⟩
  obtain ⟨p2, l⟩ := call_back hp.good hp.env af
  exact kk v w' H2 ((hp.trans p2).weak (by simp)) (rr.mono l hres)
/-! ### a def's body -/
/-- the slots at the entry: the arguments, the rest free -/
structure St0 {α E : Type} (t : Tp α) (n : Nat) (R : ER E) (init : α → E) : Prop where
  st : ∀ {w : Own} {H : Hp} {p : Tag} {k : Nat} {vs : List V} {a : α}, t.rep (fz w H) vs a → vs.length ≤ n ∧ R.rel w H p k (vs.map some ++ List.replicate (n - vs.length) none) (init a)
structure St1 {E : Type} (n : Nat) (R : ER E) (e : E) : Prop where
  st : ∀ (w : Own) (H : Hp) (p : Tag) (k : Nat), R.rel w H p k (List.replicate n none) e
theorem st1_nil : St1 0 en () := ⟨fun _ _ _ _ => rfl⟩
theorem st1_un {R : ER E} {n : Nat} {e : E} (h : St1 n R e) : St1 (n + 1) (ec un R) ((), e) := ⟨fun w H p k => ⟨none, List.replicate n none, rfl, trivial, h.st _ _ _ _⟩⟩
theorem st0_one {r : Rp α} {R : ER E} {n : Nat} {e : E} (h : St1 n R e) : St0 (tp1 r) (n + 1) (ec (fr r) R) (fun a => (a, e)) := ⟨fun {w H p k vs a} ⟨v, h1, h2⟩ => by
  subst h1
  exact ⟨by simp, some v, _, rfl, ⟨v, rfl, h2⟩, h.st _ _ _ _⟩⟩
theorem st0_cons {β : Type} {r : Rp β} {R : ER E} {n : Nat} {init : α → E} (h : St0 t n R init) : St0 (tpc r t) (n + 1) (ec (fr r) R) (fun a => (a.1, init a.2)) := ⟨fun {w H p k vs a} ⟨v, us, h1, h2, h3⟩ => by
  subst h1
  obtain ⟨l, q⟩ := h.st (w := w) (H := H) (p := p) (k := k + 1) h3
  refine ⟨by simpa using l, some v, us.map some ++ List.replicate (n - us.length) none, ?_, ⟨v, rfl, h2⟩, q⟩
  simp [Nat.succ_sub_succ]⟩
theorem st0_nil {R : ER E} {n : Nat} {e : E} (h : St1 n R e) : St0 tp0 n R (fun _ => e) := ⟨fun {w H p k vs a} h1 => by
  have h2 : vs = [] := h1
  subst h2
  exact ⟨Nat.zero_le _, by simpa using h.st w H p k⟩⟩
def Out.get {E ρ : Type} (o : Out E ρ) (k : E → ρ) : ρ := match o with
  | .nx e => k e
  | .rt r => r
/-- a def of the text without defaults -/
abbrev FnD (K : PySem.W.Frag) (x qual : Str) (st : Stmt) (f : Addr) (fd : FuncData) : Prop := FunD K x qual (defArgs st) (defBody st) (defScope st) [] [] f fd
theorem fnd_ok {P : Program} {w : World} {K : PySem.W.Frag} {mg : Str → Option Value} {base : Heap} {x qual : Str} {st : Stmt} {f : Addr} {fd : FuncData} {N ps : List Str} {k : Nat} {sp : Sp} (F : FnD K x qual st f fd) (S : FnScope N ps (defScope st)) (len : ∀ vs H Q E, sp vs H Q E → vs.length = ps.length)
    (hbody : ∀ (cdv : Value) (A : Around) (outer : List Env) (s : Shared) (H : Hp) (vs : List V) (Q : VK) (E : XK), Room k (A.deeper (envOfC qual (defScope st) s.heap.objs.size f cdv)) → sp vs H Q E →
      ∃ t, PSs (cxOf CX0 P w K mg base N qual (defScope st) f cdv A outer s H E).nox (defBody st) t ∧ t { nx := fun _ H' => Q .non H', rt := Q } (start N vs) H) : FnOk P w K mg base CX0 (k + 1) f fd ps sp :=
  F.ok S len fun cdv A outer s H vs Q E hr hs => by
    obtain ⟨t, h, q⟩ := hbody cdv A outer s H vs Q E hr hs
    exact ⟨t, h.nox, q⟩
/-- a def that changes nothing handed in -/
theorem fnP {P : Program} {w0 : World} {K : PySem.W.Frag} {mg : Str → Option Value} {base : Heap} {qual : Str} {st : Stmt} {N : List Str} {E1 : Type} {R1 : ER E1} {RR : RS ρ} {init : α → E} {Pb : E → Prop} {fb : E → Out E1 ρ} {fin : E1 → ρ} {kk : Nat} {nm : Str}
    (F : FnD K nm qual st fa fd) (S : FnScope N ps (defScope st)) (hl : ∀ H vs a, t.rep H vs a → vs.length = ps.length) (s0 : St0 t N.length R init)
    (body : ∀ (cdv : Value) (A : Around) (outer : List Env) (s : Shared) (H : Hp) (Ex : XK), Room kk (A.deeper (envOfC qual (defScope st) s.heap.objs.size fa cdv)) →
      TS (cxOf CX0 P w0 K mg base N qual (defScope st) fa cdv A outer s H Ex).nox R (defBody st) R1 RR Pb fb)
    (hfin : (∀ w H e, RR w H .non (fin e)) ∨ ∀ a e, fb (init a) ≠ .nx e) (hP : ∀ a, Pre a → Pb (init a)) (hfn : ∀ a, Pre a → (fb (init a)).get fin = fn a) :
    FnOk P w0 K mg base CX0 (kk + 1) fa fd ps (spP t RR Pre fn) := by
  refine fnd_ok F S (fun vs H Q Ex h => ?_) fun cdv A outer s H vs Q Ex hr h => ?_
  · obtain ⟨w, a, _, h1, _⟩ := h
    exact hl _ _ _ h1
  · obtain ⟨w, a, G, h1, h2, h3⟩ := h
    obtain ⟨tt, b1, b2⟩ := body cdv A outer s H Ex hr
    refine ⟨tt, b1, ?_⟩
    obtain ⟨_, q⟩ := s0.st (p := []) (k := 2) h1
    refine b2 w H (start N vs) (init a) _ G q (hP a h2) (fun w' H' σ' e' z af q' => ?_) fun v w' H' r z af hr => ?_
    · have hv := hfn a h2
      rw [z] at hv
      rcases hfin with hf | hf
      · exact h3 .non w' H' af (by rw [← hv]; exact hf w' H' e')
      · exact absurd z (hf _ _)
    · have hv := hfn a h2
      rw [z] at hv
      exact h3 v w' H' af (by rw [← hv]; exact hr)
end
end Lmo
end
section
set_option Elab.async false
set_option linter.all false
set_option maxRecDepth 100000
set_option maxHeartbeats 4000000
namespace Lmo
open PySem L2
/-! ### loops -/
def forL {α E ρ : Type} (b : E → α → Out E ρ) : List α → E → Out E ρ
  | [], e => .nx e
  | x :: xs, e => match b e x with
    | .nx e' => forL b xs e'
    | .rt r => .rt r
def forP {α E ρ : Type} (b : E → α → Out E ρ) (P : E → α → Prop) : List α → E → Prop
  | [], _ => True
  | x :: xs, e => P e x ∧ ∀ e', b e x = .nx e' → forP b P xs e'
def whL {E ρ : Type} (c : E → Bool) (gc : E → E) (b : E → Out E ρ) : Nat → E → Out E ρ
  | 0, e => .nx e
  | n + 1, e => if c e = true then (match b (gc e) with
    | .nx e' => whL c gc b n e'
    | .rt r => .rt r) else .nx (gc e)
def whP {E ρ : Type} (c : E → Bool) (gc : E → E) (b : E → Out E ρ) (Pc Pb : E → Prop) : Nat → E → Prop
  | 0, _ => False
  | n + 1, e => Pc e ∧ (c e = true → Pb (gc e) ∧ ∀ e', b (gc e) = .nx e' → whP c gc b Pc Pb n e')
theorem whL_succ {E ρ : Type} {c : E → Bool} {gc : E → E} {b : E → Out E ρ} {n : Nat} {e : E} : whL c gc b (n + 1) e = if c e = true then (match b (gc e) with
    | .nx e' => whL c gc b n e'
    | .rt r => .rt r) else .nx (gc e) := rfl
theorem forL_nx {α E ρ : Type} {b : E → α → Out E ρ} {x : α} {xs : List α} {e e' : E} (h : b e x = .nx e') : forL b (x :: xs) e = forL b xs e' := by
  simp only [forL, h]
theorem forL_rt {α E ρ : Type} {b : E → α → Out E ρ} {x : α} {xs : List α} {e : E} {r : ρ} (h : b e x = .rt r) : forL b (x :: xs) e = .rt r := by
  simp only [forL, h]
/-- d[k] = e, d of one's own -/
def dput {κ β : Type} [DecidableEq κ] : List (κ × β) → κ → β → List (κ × β)
  | [], k, x => [(k, x)]
  | (k', y) :: r, k, x => if k' = k then (k', x) :: r else (k', y) :: dput r k x
theorem dput_keys {κ β : Type} [DecidableEq κ] {k : κ} {x : β} : ∀ {d : List (κ × β)}, (dput d k x).map (·.1) = if k ∈ d.map (·.1) then d.map (·.1) else d.map (·.1) ++ [k]
  | [] => by simp [dput]
  | (k', y) :: r => by
    unfold dput
    by_cases e : k' = k
    · subst e
      simp
    · rw [if_neg e, List.map_cons, dput_keys (d := r)]
      by_cases h : k ∈ r.map (·.1)
      · rw [if_pos h, if_pos (by simp only [List.map_cons]; exact List.mem_cons_of_mem _ h)]
        rfl
      · rw [if_neg h, if_neg (by simp only [List.map_cons, List.mem_cons, not_or]; exact ⟨fun z => e z.symm, h⟩)]
        rfl
theorem dput_nodup {κ β : Type} [DecidableEq κ] {k : κ} {x : β} {d : List (κ × β)} (h : (d.map (·.1)).Nodup) : ((dput d k x).map (·.1)).Nodup := by
  rw [dput_keys]
  by_cases e : k ∈ d.map (·.1)
  · rw [if_pos e]
    exact h
  · rw [if_neg e]
    exact List.nodup_append.mpr ⟨h, by simp, fun a ha b hb z => e (by rw [← (List.mem_singleton.mp hb), ← z]; exact ha)⟩
theorem dput_len {κ β : Type} [DecidableEq κ] {k : κ} {x : β} : ∀ {d : List (κ × β)}, (dput d k x).length ≤ d.length + 1
  | [] => by simp [dput]
  | (k', y) :: r => by
    unfold dput
    by_cases e : k' = k
    · rw [if_pos e]
      simp
    · rw [if_neg e]
      have := dput_len (k := k) (x := x) (d := r)
      simp only [List.length_cons]
      omega
/-- what a dict holds -/
def dget {κ β : Type} [DecidableEq κ] : List (κ × β) → κ → Option β
  | [], _ => none
  | (k', y) :: r, k => if k' = k then some y else dget r k
def ddel {κ β : Type} [DecidableEq κ] (d : List (κ × β)) (k : κ) : List (κ × β) := d.filter fun q => decide (q.1 ≠ k)
section
variable {κ β : Type} [DecidableEq κ] {kk : Kp κ} {s : Rp β} {H : Hp} {k : κ}
theorem key_iff {a b : κ} : kk.key a = kk.key b ↔ a = b := ⟨kk.inj a b, fun h => by rw [h]⟩
theorem drel_get : ∀ {kvs : List (Key × V)} {xs : List (κ × β)}, DRel kk s H kvs xs → (dget xs k = none ∧ valV kvs (kk.key k) = none) ∨ ∃ x v, dget xs k = some x ∧ valV kvs (kk.key k) = some v ∧ s.rep H v x
  | _, _, .nil => .inl ⟨rfl, rfl⟩
  | _, _, .cons (a := p) (b := q) h t => by
    obtain ⟨pk, pv⟩ := p
    obtain ⟨qk, qx⟩ := q
    obtain ⟨h1, h2⟩ := h
    have h1 : pk = kk.key qk := h1
    subst h1
    by_cases e : qk = k
    · subst e
      refine .inr ⟨qx, pv, ?_, valV_pos (p := (kk.key qk, pv)) rfl, h2⟩
      unfold dget
      rw [if_pos rfl]
    · rw [valV_neg (p := (kk.key qk, pv)) (fun z => e (kk.inj _ _ z))]
      unfold dget
      rw [if_neg e]
      exact drel_get t
theorem dget_none {d : List (κ × β)} : dget d k = none ↔ k ∉ d.map (·.1) := by
  induction d with
  | nil => simp [dget]
  | cons q r ih =>
    obtain ⟨k', y⟩ := q
    unfold dget
    by_cases e : k' = k
    · rw [if_pos e, e]
      simp
    · rw [if_neg e, ih]
      simp only [List.map_cons, List.mem_cons, not_or]
      exact ⟨fun h => ⟨fun z => e z.symm, h⟩, fun h => h.2⟩
theorem dput_new {x : β} : ∀ {d : List (κ × β)}, k ∉ d.map (·.1) → dput d k x = d ++ [(k, x)]
  | [], _ => rfl
  | (k', y) :: r, h => by
    unfold dput
    rw [if_neg fun z => h (by rw [← z]; exact List.mem_cons_self), dput_new fun z => h (List.mem_cons_of_mem _ z)]
    rfl
theorem drel_map {v : V} {x : β} (hv : s.rep H v x) {kvs : List (Key × V)} {xs : List (κ × β)} (hn : (xs.map (·.1)).Nodup) (h : DRel kk s H kvs xs) (hk : k ∈ xs.map (·.1)) : DRel kk s H (kvs.map fun kv => if kv.1 = kk.key k then (kv.1, v) else kv) (dput xs k x) := by
  unfold DRel at h
  induction h with
  | nil => simp at hk
  | @cons p q ps qs h t ih =>
    obtain ⟨pk, pv⟩ := p
    obtain ⟨qk, qx⟩ := q
    obtain ⟨h1, h2⟩ := h
    have h1 : pk = kk.key qk := h1
    subst h1
    have hn' := List.nodup_cons.mp hn
    unfold dput
    by_cases e : qk = k
    · subst e
      rw [if_pos rfl, List.map_cons, if_pos rfl]
      refine .cons ⟨rfl, hv⟩ ?_
      have hm : (ps.map fun kv => if kv.1 = kk.key qk then (kv.1, v) else kv) = ps := by
        conv => rhs; rw [← List.map_id ps]
        apply List.map_congr_left
        intro kv hkv
        have hmem : kv.1 ∈ ps.map (·.1) := List.mem_map.mpr ⟨kv, hkv, rfl⟩
        rw [drel_keys t] at hmem
        obtain ⟨z, hz, ez⟩ := List.mem_map.mp hmem
        rw [if_neg fun z' => hn'.1 (List.mem_map.mpr ⟨z, hz, kk.inj _ _ (ez.trans z')⟩)]
        rfl
      rw [hm]
      exact t
    · rw [if_neg e, List.map_cons, if_neg fun z => e (kk.inj _ _ z)]
      refine .cons ⟨rfl, h2⟩ (ih hn'.2 ?_)
      rcases List.mem_cons.mp hk with z | z
      · exact absurd z.symm e
      · exact z
theorem drel_put {v : V} {x : β} (hv : s.rep H v x) {kvs : List (Key × V)} {xs : List (κ × β)} (hn : (xs.map (·.1)).Nodup) (h : DRel kk s H kvs xs) : DRel kk s H (putK kvs (kk.key k) v) (dput xs k x) := by
  by_cases hk : k ∈ xs.map (·.1)
  · have he : (kvs.any fun kv => decide (kv.1 = kk.key k)) = true := by
      obtain ⟨q, hq, e⟩ := List.mem_map.mp hk
      have hm : kk.key k ∈ kvs.map (·.1) := by
        rw [drel_keys h]
        exact List.mem_map.mpr ⟨q, hq, by rw [e]⟩
      obtain ⟨p, hp, e2⟩ := List.mem_map.mp hm
      exact List.any_eq_true.mpr ⟨p, hp, decide_eq_true e2⟩
    unfold putK
    rw [if_pos he]
    exact drel_map hv hn h hk
  · rw [dput_new hk, putK_not fun hm => by
      rw [drel_keys h] at hm
      obtain ⟨q, hq, e⟩ := List.mem_map.mp hm
      exact hk (List.mem_map.mpr ⟨q, hq, kk.inj _ _ e⟩)]
    exact paired_snoc ⟨rfl, hv⟩ h
theorem drel_del {kvs : List (Key × V)} {xs : List (κ × β)} (h : DRel kk s H kvs xs) : DRel kk s H (dropK kvs (kk.key k)) (ddel xs k) := by
  unfold DRel at h
  induction h with
  | nil => exact .nil
  | @cons p q ps qs h t ih =>
    obtain ⟨pk, pv⟩ := p
    obtain ⟨qk, qx⟩ := q
    obtain ⟨h1, h2⟩ := h
    have h1 : pk = kk.key qk := h1
    subst h1
    unfold ddel
    rw [List.filter_cons]
    by_cases e : qk = k
    · subst e
      rw [dropK_pos (p := (kk.key qk, pv)) rfl, if_neg (by simp)]
      exact ih
    · rw [dropK_neg (p := (kk.key qk, pv)) fun z => e (kk.inj _ _ z), if_pos (by simpa using e)]
      exact .cons ⟨rfl, h2⟩ ih
end
section
variable {X : Cx} {E E' E1 : Type} {R : ER E} {R' : ER E'} {R1 : ER E1} {ρ α β κ : Type} {RR : RS ρ} {P : E → Prop} {g : E → E} {pos xp np : Pos} {r : Rp α} {p lv : Bool} {x : Str} {i : Nat} {e : Expr}
theorem t1_for {tg iter : Expr} {body : List Stmt} {f : E → List α} {put : E → α → E'} {drop : E' → E} {vs : List Nat} {Pb : E' → Prop} {fb : E' → Out E ρ} (hi : TI X R tg iter r true p P f g) (hg : TGt X R tg r R' put drop vs) (hb : TS X R' body R RR Pb fb)
    (hp : PassesOwn (model X.prog X.w) X.A X.env X.xe) (hc : X.calm = true) (hs : ∀ x, foldedSetIterable iter X.env x = pure x := by intro _; rfl) :
    T1 X R (.For tg iter body [] pos) R RR (fun e => P e ∧ forP (fun e x => fb (put e x)) (fun e x => Pb (put e x)) (f e) (g e)) (fun e => forL (fun e x => fb (put e x)) (f e) (g e)) := by
  obtain ⟨wi, i1, i2⟩ := hi
  obtain ⟨gt, g1, g2⟩ := hg
  obtain ⟨tb, b1, b2⟩ := hb
  refine ⟨_, ps_for hp hc i1 g1 b1 hs, fun w H σ env D G q hP k kr => i2 w H σ env _ G q hP.1 fun J w1 H1 G' Y p1 hlim wk hG hY => ?_⟩
  refine for_it wk (fun i σ' Hx => ∃ wx ex, Aft w1 H1 wx Hx ∧ R.rel wx Hx [] 2 σ' ex ∧ forL (fun e x => fb (put e x)) ((f env).drop i) ex = forL (fun e x => fb (put e x)) (f env) (g env) ∧
    forP (fun e x => fb (put e x)) (fun e x => Pb (put e x)) ((f env).drop i) ex) ⟨w1, g env, .refl p1.good, p1.env, rfl, hP.2⟩ ?_ ?_ ?_
  · rintro i σ' Hx _ ⟨wx, ex, a1, _⟩
    exact hG wx Hx a1.le
  · rintro i v σ' Hx H2 hi ⟨wx, ex, a1, a2, a3, a4⟩ hy
    obtain ⟨⟨l2, k2⟩, y, hx, hr⟩ := hY i v Hx H2 wx a1.good a1.le hi hy
    have hd : (f env).drop i = y :: (f env).drop (i + 1) := by
      obtain ⟨h1, h2⟩ := List.getElem?_eq_some_iff.mp hx
      rw [← h2]
      exact List.drop_eq_getElem_cons h1
    rw [hd] at a3 a4
    obtain ⟨a4, a5⟩ := a4
    have af : Aft wx Hx wx H2 := ⟨fun a t ha => by rw [k2 a t ha]; exact a1.good a t ha, fz_mono l2, fun a q ha => ⟨ha, k2 a _ ha⟩⟩
    refine g2 wx H2 σ' ex v y _ af.good (R.keep a2 (fz_mono l2) fun a j q _ ha => ⟨ha, k2 a _ ha⟩) hr fun σ2 c1 c2 c3 => ?_
    refine b2 wx H2 σ2 _ _ af.good c1 a4 (fun w3 H3 σ3 e3 z af3 q3 => ?_) fun u w3 H3 r z af3 hres => ?_
    · have z' : (fun e x => fb (put e x)) ex y = .nx e3 := z
      refine ⟨w3, e3, a1.trans (af.trans af3), q3, ?_, a5 e3 z'⟩
      rw [← a3, forL_nx z']
    · have z' : (fun e x => fb (put e x)) ex y = .rt r := z
      refine kr u w3 H3 r ?_ (p1.aft.trans (a1.trans (af.trans af3))) hres
      rw [← a3, forL_rt z']
  · rintro σ' Hx ⟨wx, ex, a1, a2, a3, a4⟩
    rw [List.drop_length] at a3
    exact k wx Hx σ' ex a3.symm (p1.aft.trans a1) a2
theorem t1_while {c : Expr} {body : List Stmt} {pc : Bool} {Pc Pb : E → Prop} {fc : E → Bool} {gc : E → E} {fb : E → Out E ρ} (hc : TQ X R c pc Pc fc gc) (hb : TS X R body R RR Pb fb) (hp : PassesOwn (model X.prog X.w) X.A X.env X.xe) (fuel : E → Nat) :
    T1 X R (.While c body [] pos) R RR (fun e => whP fc gc fb Pc Pb (fuel e) e) (fun e => whL fc gc fb (fuel e) e) := by
  obtain ⟨t, c1, c2⟩ := hc
  obtain ⟨tb, b1, b2⟩ := hb
  refine ⟨_, ps_while hp c1 b1, fun w H σ env D G q hP k kr => ?_⟩
  refine ⟨fun m σ' Hx => ∃ wx ex, Aft w H wx Hx ∧ R.rel wx Hx [] 2 σ' ex ∧ whL fc gc fb m ex = whL fc gc fb (fuel env) env ∧ whP fc gc fb Pc Pb m ex, ⟨fuel env, w, env, .refl G, q, rfl, hP⟩, ?_⟩
  rintro m σ' Hx ⟨wx, ex, a1, a2, a3, a4⟩
  cases m with
  | zero => exact a4.elim
  | succ m =>
    obtain ⟨a4, a5⟩ := a4
    refine c2 wx Hx σ' ex _ a1.good a2 a4 fun w2 H2 p2 => ?_
    rw [whL_succ] at a3
    cases e : fc ex with
    | false =>
      rw [if_neg Bool.false_ne_true]
      rw [if_neg (by rw [e]; exact Bool.false_ne_true)] at a3
      exact k w2 H2 σ' _ a3.symm (a1.trans p2.aft) p2.env
    | true =>
      rw [if_pos rfl]
      rw [if_pos e] at a3
      obtain ⟨a6, a7⟩ := a5 e
      refine ⟨fun σ2 Hy => ∃ wy ey, Aft w H wy Hy ∧ R.rel wy Hy [] 2 σ2 ey ∧ whL fc gc fb m ey = whL fc gc fb (fuel env) env ∧ whP fc gc fb Pc Pb m ey, fun σ2 Hy hw => ⟨m, Nat.lt_succ_self m, hw⟩, ?_⟩
      refine b2 w2 H2 σ' _ _ p2.good p2.env a6 (fun w3 H3 σ3 e3 z af3 q3 => ⟨w3, e3, (a1.trans p2.aft).trans af3, q3, ?_, a7 e3 z⟩) fun u w3 H3 r z af3 hres => kr u w3 H3 r ?_ ((a1.trans p2.aft).trans af3) hres
      · rw [z] at a3
        exact a3
      · rw [z] at a3
        exact a3.symm
/-! ### lists and dicts of one's own changed in place -/
theorem own_le {w : Own} {H : Hp} {b : Addr} {t : Tag} {o : HO} (h : w b = some t) : Le (fz w H) (fz w (upd H b o)) := by
  rw [fz_tag h]
  exact .refl _
theorem own_aft {w : Own} {H : Hp} {b : Addr} {j : Nat} {q : Tag} {o : HO} (G : Good w H) (h : w b = some (j :: q)) (hj : j ≠ 0) : Aft w H w (upd H b o) := ⟨fun a t ha => by
    by_cases e : a = b
    · rw [e, upd_same]
      exact fun z => nomatch z
    · rw [upd_ne e]
      exact G a t ha, own_le h, fun a q ha => ⟨ha, upd_ne fun z => by rw [z, h] at ha; exact hj (List.cons.inj (Option.some.inj ha)).1⟩⟩
theorem tl_append {f : E → α} {get : E → List α} {set : E → List α → E} (hh : Has R i (ol r) get set) (h : TAs X R [e] (tp1 r) lv p P f g) [Up lv r] {ap cp : Pos}
    (hbm : ∀ ta, PA X [e] ta → PE X (.Call (.Attribute (.Name x np) "append" ap) [e] [] cp) (tBM X.K "list" rAppend (tVar i) ta)) (hs : swapsWith (.Call (.Attribute (.Name x np) "append" ap) [e] [] cp) none pos.line X.env = pure false := by rfl) :
    TL1 X R (.Expr (.Call (.Attribute (.Name x np) "append" ap) [e] [] cp) pos) R (fun e => P e ∧ (get (g e)).length < LIM) (fun e => set (g e) (get (g e) ++ [f e])) := by
  obtain ⟨ta, h1, h2⟩ := h
  refine ⟨_, ps_expr (hbm _ h1) hs, fun w H σ env D G q hP k => ?_⟩
  obtain ⟨o, g1, a, vs, rfl, g3, g4, g5, g6⟩ := hh.get q
  refine ⟨_, g1, .inl ⟨rfl, vs, SqL.of g4⟩, h2 w H σ env _ G q hP.1 fun us w' H' hp hv => ?_⟩
  obtain ⟨v, rfl, hv⟩ := hv
  obtain ⟨o', g1', a', vs', e1, g3', g4', g5', g6'⟩ := hh.get hp.env
  rw [g1] at g1'
  cases g1'
  cases e1
  have g3'' : w' a = some ([2 + i] ++ []) := g3'
  have hlen : (get (g env) ++ [f env]).length ≤ LIM := by
    rw [List.length_append, List.length_singleton]
    exact hP.2
  refine ⟨a, vs', v, rfl, rfl, g4', Nat.lt_of_lt_of_le (by rw [Paired.length g5']; exact hP.2) (by decide), k w' _ σ (hp.aft.trans (own_aft hp.good g3'' (by omega))) ?_⟩
  refine hh.set hp.env (own_le g3'') (fun b j t hj hn hb => ⟨hb, upd_ne fun z => ?_⟩) fun o ho => ?_
  · rw [z] at hb
    have h3 := g3''.symm.trans hb
    exact hn (List.cons.inj (Option.some.inj h3)).1.symm
  · rw [g1] at ho
    cases ho
    exact ⟨a, _, rfl, g3', upd_same, paired_snoc (by rw [fz_tag g3'']; exact Up.up (lv := lv) _ _ _ _ hv) (by rw [fz_tag g3'']; exact g5'), hlen⟩
/-- a value put at a place -/
theorem paired_set {δ α : Type} {F : δ → α → Prop} {v : δ} {x : α} (h : F v x) : ∀ {vs : List δ} {xs : List α} (j : Nat), Paired F vs xs → Paired F (vs.set j v) (xs.set j x)
  | _, _, _, .nil => .nil
  | _, _, 0, .cons _ t => .cons h t
  | _, _, j + 1, .cons a t => .cons a (paired_set h j t)
def seti {α : Type} (xs : List α) (i : Int) (x : α) : List α := match ixN xs.length i with
  | some j => xs.set j x
  | none => xs
/-- xs[i] = e, xs of one's own -/
theorem tl_setL {f : E → α} {fi : E → Int} {Pi : E → Prop} {li : Bool} {get : E → List α} {set : E → List α → E} {ie : Expr} (hh : Has R i (ol r) get set) (h : TX X R e r lv p P f g) [Up lv r] (hi : TX X R ie rInt li true Pi fi fun e => e) (hp' : PE X (.Name x np) (tVar i)) {sp : Pos}
    (hs : swapsWithSole [.Subscript (.Name x np) ie sp] e pos.line X.env = pure false := by rfl) (hw : swappedStores [.Subscript (.Name x np) ie sp] e X.env = pure none := by rfl) (h1' : (assignEach [.Subscript (.Name x np) ie sp] X.env).map (·.2) = [assign (.Subscript (.Name x np) ie sp) X.env] := by rfl)
    (ha : ∀ v, assign (.Subscript (.Name x np) ie sp) X.env v = (do
      let ov ← holding [v] (eval (.Name x np) X.env)
      let iv ← holding [v, ov] (eval ie X.env)
      standAt sp
      holding [v, ov, iv] (setItem ov iv v)
      release [v, ov, iv] []) := by intro _; rfl) :
    TL1 X R (.Assign [.Subscript (.Name x np) ie sp] e pos) R (fun e => P e ∧ Pi (g e) ∧ (ixN (get (g e)).length (fi (g e))).isSome = true) (fun e => set (g e) (seti (get (g e)) (fi (g e)) (f e))) := by
  obtain ⟨t, h1, h2⟩ := h
  obtain ⟨u, i1, i2⟩ := hi
  refine ⟨_, ps_asg h1 (pg_sub hp' i1 set_list ha) hs hw h1', fun w H σ env D G q hP k => h2 w H σ env _ G q hP.1 fun v w' H' hp hv => ?_⟩
  obtain ⟨o1, q1, a, vs, rfl, _⟩ := hh.get hp.env
  refine ⟨_, q1, i2 w' H' σ _ _ hp.good hp.env hP.2.1 fun iv w2 H2 p2 hiv => ?_⟩
  obtain ⟨o2, q2, a2, vs2, e1, g3, g4, g5, g6⟩ := hh.get p2.env
  rw [q1] at q2
  cases q2
  cases e1
  have g3' : w2 a = some ([2 + i] ++ []) := g3
  obtain ⟨j, hj⟩ := Option.isSome_iff_exists.mp hP.2.2
  have es : seti (get (g env)) (fi (g env)) (f env) = (get (g env)).set j (f env) := by unfold seti; rw [hj]
  refine ⟨a, vs2, _, j, rfl, hiv, g4, by rw [Paired.length g5]; exact hj, k w2 _ σ ((hp.aft.trans p2.aft).trans (own_aft p2.good g3' (by omega))) ?_⟩
  refine hh.set p2.env (own_le g3') (fun b j t hj hn hb => ⟨hb, upd_ne fun z => ?_⟩) fun o ho => ?_
  · rw [z] at hb
    have h3 := g3'.symm.trans hb
    exact hn (List.cons.inj (Option.some.inj h3)).1.symm
  · rw [q1] at ho
    cases ho
    refine ⟨a, _, rfl, g3, upd_same, ?_, by rw [es, List.length_set]; exact g6⟩
    rw [es, fz_tag g3']
    exact paired_set (r.mono p2.le (Up.up (lv := lv) _ _ _ _ hv)) j g5
end
end Lmo
end
section
set_option Elab.async false
set_option linter.all false
set_option maxRecDepth 100000
set_option maxHeartbeats 4000000
namespace Lmo
open PySem L2
open PyProof.Rows (envOfC)
/-! ### attributes -/
theorem keys_put {f : Str} {v : V} : ∀ {fs : List (Str × V)}, (putF f v fs).map (·.1) = if f ∈ fs.map (·.1) then fs.map (·.1) else fs.map (·.1) ++ [f]
  | [] => by simp [putF]
  | (k, x) :: r => by
    have ih := keys_put (f := f) (v := v) (fs := r)
    rw [show putF f v ((k, x) :: r) = (if k = f then (k, v) :: r else (k, x) :: putF f v r) from rfl]
    by_cases e : k = f
    · rw [if_pos e, if_pos (by rw [List.map_cons, e]; exact List.mem_cons_self)]
      rfl
    · rw [if_neg e, List.map_cons, ih]
      by_cases h : f ∈ r.map (·.1)
      · rw [if_pos h, if_pos (by rw [List.map_cons]; exact List.mem_cons_of_mem _ h)]
        rfl
      · rw [if_neg h, if_neg (by rw [List.map_cons, List.mem_cons]; exact fun z => z.elim (fun z => e z.symm) h)]
        rfl
theorem len_sub : ∀ {xs ys : List Str}, xs.Nodup → (∀ x ∈ xs, x ∈ ys) → xs.length ≤ ys.length
  | [], _, _, _ => Nat.zero_le _
  | x :: xs, ys, h, k => by
    obtain ⟨h1, h2⟩ := List.nodup_cons.mp h
    have hx := k x List.mem_cons_self
    have := len_sub (xs := xs) (ys := ys.erase x) h2 fun y hy => (List.mem_erase_of_ne fun z => h1 (by rw [← z]; exact hy)).mpr (k y (List.mem_cons_of_mem _ hy))
    rw [List.length_erase_of_mem hx] at this
    have := List.length_pos_of_mem hx
    rw [List.length_cons]
    omega
theorem look_key {f : Str} : ∀ {fs : List (Str × V)}, f ∈ fs.map (·.1) → fs.lookup f ≠ none
  | (k, x) :: r, h => by
    rw [List.lookup_cons]
    cases e : f == k with
    | true => simp
    | false =>
      rw [List.map_cons, List.mem_cons] at h
      rcases h with h | h
      · rw [h] at e
        simp at e
      · simpa using look_key h
theorem FS.short {ns : List Str} {fs : List (Str × V)} {σ : List (Option V)} (h : FS ns fs σ) : fs.length ≤ ns.length := by
  have := len_sub h.nd (ys := ns) fun x hx => Decidable.byContradiction fun z => look_key hx (h.out x z)
  simpa using this
theorem FS.new {ns : List Str} : FS ns [] (List.replicate ns.length none) := ⟨by simp, fun j f h => by
    have := (List.getElem?_eq_some_iff.mp h).1
    simp [this], fun _ _ => rfl, by simp⟩
theorem nodup_at : ∀ {ns : List Str} {i j : Nat} {f : Str}, ns.Nodup → ns[i]? = some f → ns[j]? = some f → i = j
  | [], _, _, _, _, h, _ => by simp at h
  | n :: ns, 0, 0, _, _, _, _ => rfl
  | n :: ns, 0, j + 1, f, h, h1, h2 => by
    simp at h1 h2
    subst h1
    exact absurd (List.mem_of_getElem? h2) (List.nodup_cons.mp h).1
  | n :: ns, i + 1, 0, f, h, h1, h2 => by
    simp at h1 h2
    subst h2
    exact absurd (List.mem_of_getElem? h1) (List.nodup_cons.mp h).1
  | n :: ns, i + 1, j + 1, f, h, h1, h2 => by
    exact congrArg (· + 1) (nodup_at (f := f) (List.nodup_cons.mp h).2 (by simpa using h1) (by simpa using h2))
theorem FS.set {ns : List Str} {fs : List (Str × V)} {σ : List (Option V)} (h : FS ns fs σ) (hn : ns.Nodup) {j : Nat} {f : Str} {v : V} (hj : ns[j]? = some f) : FS ns (putF f v fs) (σ.set j (some v)) := ⟨by rw [List.length_set, h.len], fun i g hi => by
    rw [lookup_putF]
    by_cases e : g = f
    · have ij : i = j := by
        obtain ⟨a, b⟩ := List.getElem?_eq_some_iff.mp hi
        obtain ⟨c, d⟩ := List.getElem?_eq_some_iff.mp hj
        exact nodup_at hn hi (by rw [e]; exact hj)
      subst ij
      rw [if_pos e, List.getElem?_set_self]
      rw [h.len]
      exact (List.getElem?_eq_some_iff.mp hi).1
    · rw [if_neg e, List.getElem?_set_ne]
      · exact h.at_ i g hi
      · intro ij
        subst ij
        rw [hi] at hj
        exact e (Option.some.inj hj), fun g hg => by
    rw [lookup_putF, if_neg]
    · exact h.out g hg
    · intro e
      subst e
      exact hg (List.mem_of_getElem? hj), by
    rw [keys_put]
    by_cases e : f ∈ fs.map (·.1)
    · rw [if_pos e]
      exact h.nd
    · rw [if_neg e]
      exact List.nodup_append.mpr ⟨h.nd, by simp, fun a ha b hb z => e (by rw [← List.mem_singleton.mp hb, ← z]; exact ha)⟩⟩
theorem FS.field {ns : List Str} {fs : List (Str × V)} {σ : List (Option V)} (h : FS ns fs σ) {j : Nat} {f : Str} {v : V} (hj : ns[j]? = some f) (hv : σ[j]? = some (some v)) : fs.lookup f = some v := by
  have := h.at_ j f hj
  rw [hv] at this
  exact (Option.some.inj this).symm
/-! ### owned places: a slot, an attribute of an owned instance -/
/-- slots whose relation says that they are taken -/
class Def {α : Type} (S : SR α) : Prop where
  some : ∀ {w : Own} {H : Hp} {p : Tag} {o : Option V} {x : α}, S.rel w H p o x → ∃ v, o = some v
instance {α : Type} {r : Rp α} : Def (fr r) := ⟨fun ⟨v, h, _⟩ => ⟨v, h⟩⟩
instance {α : Type} {r : Rp α} : Def (ol r) := ⟨fun ⟨a, _, h, _⟩ => ⟨_, h⟩⟩
instance {κ β : Type} {k : Kp κ} {r : Rp β} : Def (od k r) := ⟨fun ⟨a, _, h, _⟩ => ⟨_, h⟩⟩
instance {F : Type} {C : Addr} {ns : List Str} {R : ER F} : Def (ob C ns R) := ⟨fun ⟨a, _, _, _, h, _⟩ => ⟨_, h⟩⟩
instance {α : Type} {v : V} {S : SR α} : Def (pin v S) := ⟨fun h => ⟨v, h.1⟩⟩
/-- a place seen for itself -/
structure Foc {E α : Type} (R : ER E) (q : Tag) (S : SR α) (get : E → α) (set : E → α → E) (w : Own) (H : Hp) (σ : St) (e : E) (v : V) : Prop where
  here : S.rel w H q (some v) (get e)
  put : ∀ w' H' x, Le (fz w H) (fz w' H') → (∀ a t, w a = some t → ¬ q <+: t → w' a = some t ∧ H' a = H a) → S.rel w' H' q (some v) x → R.rel w' H' [] 2 σ (set e x)
/-- a reading of an owned place -/
def SL {E : Type} (R : ER E) {α : Type} (S : SR α) (st : Bool) (get : E → α) (set : E → α → E) (q : Tag) (t : TE) (rd : St → Hp → Option V) : Prop := ∀ (w : Own) (H : Hp) (σ : St) (env : E), Good w H → R.rel w H [] 2 σ env → ∃ v, rd σ H = some v ∧ (∀ Q : VK, Q v H → t σ H Q) ∧ Foc R q S get set w H σ env v ∧
    (∀ H', (∀ a t, w a = some t → H' a = H a) → rd σ H' = some v) ∧ (st = true → ∀ H', rd σ H' = some v)
structure TL (X : Cx) {E : Type} (R : ER E) (e : Expr) {α : Type} (S : SR α) (st : Bool) (get : E → α) (set : E → α → E) : Prop where
  ex : ∃ (j : Nat) (q : Tag) (t : TE) (rd : St → Hp → Option V), 2 ≤ j ∧ PE X e t ∧ SL R S st get set (j :: q) t rd
section
variable {X : Cx} {E E1 F : Type} {R : ER E} {R1 : ER E1} {ER0 : ER F} {α β κ : Type} {r : Rp α} {S : SR α} {C : Addr} {ns : List Str} {get : E → α} {set : E → α → E} {i j : Nat} {x f : Str} {np pos : Pos} {e : Expr} {st : Bool}
theorem tl_slot [Def S] (h : Has R i S get set) (hp : PE X (.Name x np) (tVar i)) : TL X R (.Name x np) S true get set := by
  refine ⟨2 + i, [], _, fun σ _ => σ[i]?.join, by omega, hp, fun w H σ env G q => ?_⟩
  obtain ⟨o, h1, h2⟩ := h.get q
  obtain ⟨v, rfl⟩ := Def.some h2
  refine ⟨v, by simp only [h1]; rfl, fun Q k => ⟨v, h1, k⟩, ⟨h2, fun w' H' x l k s => h.set q l (fun a j t hj hn ha => k a _ ha fun z => hn ?_) fun o ho => ?_⟩, fun _ _ => by simp only [h1]; rfl, fun _ _ => by simp only [h1]; rfl⟩
  · have := (List.cons_prefix_cons.mp z).1
    exact this.symm
  · rw [h1] at ho
    cases ho
    exact s
theorem pre_app {q t : Tag} {j : Nat} (h : (q ++ [j]) <+: t) : q <+: t := (List.prefix_append q [j]).trans h
theorem tl_fld {S0 : SR β} [Def S0] {get : E → F} {set : E → F → E} {fg : F → β} {fs : F → β → F} (h : TL X R e (ob C ns ER0) st get set) (hf : Has ER0 j S0 fg fs) (hj : ns[j]? = some f) (c : Cls X.K C) (na : NoAttr X.K C f)
    (hb : attributeBase e f X.env (eval e X.env) = eval e X.env := by rfl) : TL X R (.Attribute e f pos) S0 false (fun e => fg (get e)) (fun e x => set e (fs (get e) x)) := by
  obtain ⟨k, q, t, rd, hk, h1, h2⟩ := h
  refine ⟨k, q ++ [j], _, fun σ H => match rd σ H with
    | some (.ref a) => match H a with
      | some (.ins _ _ fs) => fs.lookup f
      | _ => none
    | _ => none, hk, pe_fld h1 hb, fun w H σ env G qq => ?_⟩
  obtain ⟨v, e1, e2, e3, e4, e5⟩ := h2 w H σ env G qq
  obtain ⟨a, dx, fl, τ, z1, z2, z3, z4, z5⟩ := e3.here
  cases z1
  obtain ⟨o, g1, g2⟩ := hf.get z5
  obtain ⟨u, rfl⟩ := Def.some g2
  have hl := z4.field hj g1
  refine ⟨u, by simp only [e1, z3, hl], fun Q kk => e2 _ ⟨a, C, dx, fl, u, rfl, z3, c, na, hl, kk⟩, ⟨?_, fun w' H' x l k s => ?_⟩, fun H' hH => ?_, fun z => nomatch z⟩
  · rw [show 0 + j = j by omega] at g2
    exact g2
  · obtain ⟨k1, k2⟩ := k a _ z2 fun z => by
      have := List.IsPrefix.length_le z
      simp at this
      omega
    refine e3.put w' H' _ l (fun b t ht hn => k b t ht fun z => hn (pre_app (q := _ :: q) z)) ⟨a, dx, fl, τ, rfl, k1, k2.trans z3, z4, ?_⟩
    refine hf.set z5 l (fun b i t _ hn ht => k b _ ht fun z => hn ?_) fun o ho => ?_
    · have : ([j] : Tag) <+: i :: t := by
        have z' : (_ :: q) ++ [j] <+: (_ :: q) ++ (i :: t) := z
        exact (List.prefix_append_right_inj _).mp z'
      have := (List.cons_prefix_cons.mp this).1
      omega
    · rw [g1] at ho
      cases ho
      rw [show 0 + j = j by omega]
      exact s
  · simp only [e4 H' hH, hH a _ z2, z3, hl]
/-- owned places read -/
theorem tx_at {get : E → α} {set : E → α → E} (h : TL X R e (fr r) st get set) : TX X R e r true true (fun _ => True) get (fun e => e) := by
  obtain ⟨k, q, t, rd, hk, h1, h2⟩ := h
  refine ⟨_, h1, fun w H σ env Q G hr _ kk => ?_⟩
  obtain ⟨v, e1, e2, e3, e4, e5⟩ := h2 w H σ env G hr
  obtain ⟨u, z1, z2⟩ := e3.here
  cases z1
  exact e2 _ (kk v w H (.refl G hr) z2)
theorem tx_atL {get : E → List α} {set : E → List α → E} (h : TL X R e (ol r) st get set) : TX X R e (rList r) false true (fun _ => True) get (fun e => e) := by
  obtain ⟨k, q, t, rd, hk, h1, h2⟩ := h
  refine ⟨_, h1, fun w H σ env Q G hr _ kk => ?_⟩
  obtain ⟨v, e1, e2, e3, e4, e5⟩ := h2 w H σ env G hr
  obtain ⟨a, vs, z1, z2, z3, z4, z5⟩ := e3.here
  cases z1
  exact e2 _ (kk _ w H (.refl G hr) ⟨a, vs, rfl, z3, paired_le fz_le z4, z5⟩)
theorem tx_atD {kk : Kp κ} {s : Rp β} {get : E → List (κ × β)} {set : E → List (κ × β) → E} (h : TL X R e (od kk s) st get set) : TX X R e (rDict kk s) false true (fun _ => True) get (fun e => e) := by
  obtain ⟨k, q, t, rd, hk, h1, h2⟩ := h
  refine ⟨_, h1, fun w H σ env Q G hr _ kk => ?_⟩
  obtain ⟨v, e1, e2, e3, e4, e5⟩ := h2 w H σ env G hr
  obtain ⟨a, kvs, z1, z2, z3, z4, z5⟩ := e3.here
  cases z1
  exact e2 _ (kk _ w H (.refl G hr) ⟨a, _, kvs, rfl, z3, rfl, z4.mono fz_le, z5⟩)
/-- an attribute of a frozen instance -/
theorem tx_fld {t : Tp β} {lv p : Bool} {P : E → Prop} {fe : E → β} {g : E → E} {n : Nat} {fn : β → α} (h : TX X R e (rOb C ns t) lv p P fe g) (ha : At t j n r fn) (hj : ns[j]? = some f) (c : Cls X.K C) (na : NoAttr X.K C f)
    (hb : attributeBase e f X.env (eval e X.env) = eval e X.env := by rfl) : TX X R (.Attribute e f pos) r lv p P (fun e => fn (fe e)) g := by
  obtain ⟨te, h1, h2⟩ := h
  refine ⟨_, pe_fld h1 hb, fun w H σ env Q G hr hP k => h2 w H σ env _ G hr hP fun v w' H' hp hv => ?_⟩
  obtain ⟨a, dx, fl, vs, rfl, z2, z3, z4⟩ := hv
  obtain ⟨hl, u, hu, hrep⟩ := ha.at_ z4
  exact ⟨a, C, dx, fl, u, rfl, vw_le.ins z2, c, na, z3.field hj (by simp [hu]), k u w' H' hp hrep⟩
end
/-! ### values held -/
/-- the value is held under the tag [1, n], n as one likes -/
structure TY (X : Cx) {E : Type} (R : ER E) (e : Expr) {α : Type} (S : SR α) (p : Bool) (P : E → Prop) (f : E → α) (g : E → E) : Prop where
  ex : ∃ t, PE X e t ∧ ∀ (n : Nat) (w : Own) (H : Hp) (σ : St) (env : E) (Q : VK), Good w H → R.rel w H [] 2 σ env → P env →
    (∀ v w' H', Post p R w H w' H' σ (g env) → S.rel w' H' [1, n] (some v) (f env) → Q v H') → t σ H Q
section
variable {X : Cx} {E E1 E2 : Type} {R : ER E} {R1 : ER E1} {R2 : ER E2} {α β κ : Type} {r : Rp α} {S : SR α} {p lv : Bool} {P : E → Prop} {g : E → E} {e : Expr} {i j : Nat} {x : Str} {xp pos : Pos}
theorem ty_fr [Up lv r] {f : E → α} (h : TX X R e r lv p P f g) : TY X R e (fr r) p P f g := by
  obtain ⟨t, h1, h2⟩ := h
  exact ⟨t, h1, fun n w H σ env Q G hr hP k => h2 w H σ env _ G hr hP fun v w' H' hp hv => k v w' H' hp ⟨v, rfl, Up.up (lv := lv) _ _ _ _ hv⟩⟩
theorem post_own {σ : St} {env : E} {w : Own} {H : Hp} {b : Addr} {n : Nat} {q : Tag} {o : HO} (G : Good w H) (hr : R.rel w H [] 2 σ env) (hb : H b = none) : Post false R w H (own1 b (n :: q) w) (upd H b o) σ env :=
  have af := own_new (t := n :: q) (o := o) G hb
  have ne : ∀ {a : Addr} {t : Tag}, w a = some t → a ≠ b := fun {a t} ha z => G a t ha (by rw [z]; exact hb)
  ⟨af.good, af.le, fun a j q _ ha => ⟨by rw [own1_ne (ne ha)]; exact ha, upd_ne (ne ha)⟩, R.keep hr af.le fun a j q _ ha => ⟨by rw [own1_ne (ne ha)]; exact ha, upd_ne (ne ha)⟩, fun z => nomatch z⟩
theorem ty_newL {f : E → List α} (h : TN X R e r p P f g) : TY X R e (ol r) false P f g := by
  obtain ⟨t, h1, h2⟩ := h
  exact ⟨t, h1, fun n w H σ env Q G hr hP k => h2 w H σ env _ G hr hP fun b vs w' H' hb hp hv hl => k _ _ _ ((hp.trans (post_own hp.good hp.env hb)).weak (by simp)) (ol_new hp.good hb hv hl)⟩
theorem ty_newD {kk : Kp κ} {s : Rp β} {f : E → List (κ × β)} (h : TM X R e kk s p P f g) : TY X R e (od kk s) false P f g := by
  obtain ⟨t, h1, h2⟩ := h
  exact ⟨t, h1, fun n w H σ env Q G hr hP k => h2 w H σ env _ G hr hP fun b vs w' H' hb hp hv hn hl => k _ _ _ ((hp.trans (post_own hp.good hp.env hb)).weak (by simp)) (od_new hp.good hb hv hn hl)⟩
/-- tags a ++ .. told as b ++ .. -/
def mv (a b : Tag) (w : Own) : Own := fun c => match w c with
  | some t => if a <+: t then some (b ++ t.drop a.length) else some t
  | none => none
theorem mv_none {a b : Tag} {w : Own} {c : Addr} : mv a b w c = none ↔ w c = none := by
  unfold mv
  cases w c with
  | none => simp
  | some t =>
    by_cases h : a <+: t
    · simp [h]
    · simp [h]
theorem mv_in {a b q : Tag} {w : Own} {c : Addr} (h : w c = some (a ++ q)) : mv a b w c = some (b ++ q) := by
  unfold mv
  rw [h]
  simp
theorem mv_out {a b t : Tag} {w : Own} {c : Addr} (h : w c = some t) (k : ¬ a <+: t) : mv a b w c = some t := by
  unfold mv
  rw [h]
  simp [k]
theorem fz_mv {a b : Tag} {w : Own} {H : Hp} : fz (mv a b w) H = fz w H := by
  funext c
  unfold fz
  cases e : w c with
  | none => rw [mv_none.mpr e]
  | some t =>
    cases e' : mv a b w c with
    | none => rw [mv_none.mp e'] at e; cases e
    | some u => rfl
theorem good_mv {a b : Tag} {w : Own} {H : Hp} (G : Good w H) : Good (mv a b w) H := fun c t h => by
  cases e : w c with
  | none => rw [mv_none.mpr e] at h; cases h
  | some u => exact G c u e
theorem le_mv {a b : Tag} {w : Own} {H : Hp} : Le (fz w H) (fz (mv a b w) H) := by
  rw [fz_mv]
  exact .refl _
theorem aft_mv {a b : Tag} {w : Own} {H : Hp} {j : Nat} (G : Good w H) (h : j ≠ 0) (ha : ∃ q, a = j :: q) : Aft w H (mv a b w) H := ⟨good_mv G, le_mv, fun c q hc => ⟨mv_out hc fun z => by
  obtain ⟨q', rfl⟩ := ha
  exact h (List.cons_prefix_cons.mp z).1, rfl⟩⟩
theorem SR.mv (S : SR α) {a b : Tag} {w : Own} {H : Hp} {o : Option V} {x : α} (h : S.rel w H a o x) : S.rel (mv a b w) H b o x := S.keep h le_mv fun c q hc => ⟨mv_in hc, rfl⟩
theorem pre1 {n j : Nat} {q : Tag} (h : 2 ≤ j) : ¬ ([1, n] : Tag) <+: j :: q := fun z => by
  have := (List.cons_prefix_cons.mp z).1
  omega
theorem put_held {put : E → α → E1} (hp : Put R i S R1 put) {n : Nat} {w : Own} {H : Hp} {σ : St} {env : E} {v : V} {y : α} (q : R.rel w H [] 2 σ env) (s : S.rel w H [1, n] (some v) y) : R1.rel (mv [1, n] [2 + i] w) H [] 2 (σ.set i (some v)) (put env y) :=
  hp.put q le_mv (fun a j t hj hn ha => ⟨mv_out ha (pre1 hj), rfl⟩) (S.mv s)
theorem tl_setY {f : E → α} {put : E → α → E1} (h : TY X R e S p P f g) (hp : Put R i S R1 put) (hN : X.N.Nodup) (hi : X.N[i]? = some x) (hx : Loc X.env.scope x) (hs : swapsWith e (some (.Name x xp)) pos.line X.env = pure false := by rfl)
    (hf : X.fn x = true ∨ X.env.scope.names.lookup x = some .local := by first | exact .inl rfl | exact .inr rfl) : TL1 X R (.Assign [.Name x xp] e pos) R1 P (fun e => put (g e) (f e)) := by
  obtain ⟨t, a, b⟩ := h
  exact ⟨_, ps_set hN hi hx a hs hf, fun w H σ env D G q hP k => b 0 w H σ env _ G q hP fun v w' H' hpo hr => k _ H' _ (hpo.aft.trans (aft_mv hpo.good (by decide) ⟨_, rfl⟩)) (put_held hp hpo.env hr)⟩
/-- two at once, three at once -/
theorem hold_keep {S : SR α} {w w' : Own} {H H' : Hp} {σ : St} {env : E} {n : Nat} {v : V} {y : α} (hp : Post p R w H w' H' σ env) (s : S.rel w H [1, n] (some v) y) : S.rel w' H' [1, n] (some v) y :=
  S.keep s hp.sm fun a q ha => hp.fk a 1 (n :: q) (by decide) ha
theorem mv_other {S : SR α} {a b c : Tag} {w : Own} {H : Hp} {o : Option V} {x : α} (h : S.rel w H c o x) (k : ∀ q, ¬ a <+: c ++ q) : S.rel (mv a b w) H c o x := S.keep h le_mv fun d q hd => ⟨mv_out hd (k q), rfl⟩
theorem tl_par {S2 : SR β} {a b : Expr} {pa pb : Bool} {Pa Pb : E → Prop} {fa : E → α} {fb : E → β} {ga gb : E → E} {put : E → α → E1} {put2 : E1 → β → E2} {y : Str} {px py pt : Pos} {kt k2 pt2} (ha : TY X R a S pa Pa fa ga) (hb : TY X R b S2 pb Pb fb gb) (hp : Put R i S R1 put) (hp2 : Put R1 j S2 R2 put2)
    (hc : X.calm = true) (hN : X.N.Nodup) (hi : X.N[i]? = some x) (hj : X.N[j]? = some y) (hij : i ≠ j) (hx : X.env.scope.names.lookup x = some .local) (hy : X.env.scope.names.lookup y = some .local)
    (hw : swappedStores [.Tuple [.Name x px, .Name y py] kt pt] (.Tuple [a, b] k2 pt2) X.env = pure (some [x, y]))
    (hs : swapsWithSole [.Tuple [.Name x px, .Name y py] kt pt] (.Tuple [a, b] k2 pt2) pos.line X.env = pure false := by rfl)
    (hs1 : starEach [a, b] X.env = (false, eval a X.env) :: starEach [b] X.env := by rfl) (hs2 : starEach [b] X.env = (false, eval b X.env) :: starEach [] X.env := by rfl) :
    TL1 X R (.Assign [.Tuple [.Name x px, .Name y py] kt pt] (.Tuple [a, b] k2 pt2) pos) R2 (fun e => Pa e ∧ Pb (ga e)) (fun e => put2 (put (gb (ga e)) (fa e)) (fb (ga e))) := by
  obtain ⟨ta, a1, a2⟩ := ha
  obtain ⟨tb, b1, b2⟩ := hb
  refine ⟨_, ps_par hc hN hi hj hij hx hy (pa_cons a1 (pa_cons b1 pa_nil hs2) hs1) hw hs, fun w H σ env D G q hP k => a2 0 w H σ env _ G q hP.1 fun v w1 H1 p1 s1 => b2 1 w1 H1 σ _ _ p1.good p1.env hP.2 fun u w2 H2 p2 s2 => ⟨v, u, rfl, ?_⟩⟩
  have s1' : S.rel w2 H2 [1, 0] (some v) (fa env) := S.keep s1 p2.sm fun a q ha => p2.fk a 1 (0 :: q) (by decide) ha
  have r1 := put_held (n := 0) hp p2.env s1'
  have s2' : S2.rel (mv [1, 0] [2 + i] w2) H2 [1, 1] (some u) (fb (ga env)) := mv_other s2 fun q z => by
    have := (List.cons_prefix_cons.mp (List.cons_prefix_cons.mp z).2).1
    omega
  have g1 := good_mv (a := [1, 0]) (b := [2 + i]) p2.good
  exact k _ H2 _ ((p1.aft.trans p2.aft).trans ((aft_mv p2.good (by decide) ⟨_, rfl⟩).trans (aft_mv g1 (by decide) ⟨_, rfl⟩))) (put_held (n := 1) hp2 r1 s2')
end
end Lmo
end
section
set_option Elab.async false
set_option linter.all false
set_option maxRecDepth 100000
set_option maxHeartbeats 4000000
namespace Lmo
open PySem L2
open PyProof.Rows (envOfC)
/-! ### a place handed in as the callee's first -/
def farQ (q : Tag) (w : Own) : Own := fun a => match w a with
  | some t => if q <+: t then some (2 :: t.drop q.length) else some (0 :: t)
  | none => none
def nearQ (q : Tag) (n : Nat) (w : Own) : Own := fun a => match w a with
  | some (0 :: t) => some t
  | some (1 :: t) => some (1 :: n :: t)
  | some (2 :: t) => some (q ++ t)
  | _ => none
theorem farQ_none {q : Tag} {w : Own} {a : Addr} (h : w a = none) : farQ q w a = none := by unfold farQ; rw [h]
theorem farQ_in {q t : Tag} {w : Own} {a : Addr} (h : w a = some (q ++ t)) : farQ q w a = some (2 :: t) := by
  unfold farQ
  rw [h]
  simp
theorem farQ_out {q t : Tag} {w : Own} {a : Addr} (h : w a = some t) (k : ¬ q <+: t) : farQ q w a = some (0 :: t) := by
  unfold farQ
  rw [h]
  simp [k]
theorem fz_farQ {q : Tag} {w : Own} {H : Hp} : fz (farQ q w) H = fz w H := by
  funext a
  unfold fz
  cases e : w a with
  | none => rw [farQ_none e]
  | some t =>
    by_cases k : q <+: t
    · obtain ⟨u, rfl⟩ := k
      rw [farQ_in e]
    · rw [farQ_out e k]
theorem good_farQ {q : Tag} {w : Own} {H : Hp} (g : Good w H) : Good (farQ q w) H := fun a t h => by
  cases e : w a with
  | none => rw [farQ_none e] at h; cases h
  | some u => exact g a u e
theorem near0 {q t : Tag} {n : Nat} {w : Own} {a : Addr} (h : w a = some (0 :: t)) : nearQ q n w a = some t := by simp only [nearQ, h]
theorem near1 {q t : Tag} {n : Nat} {w : Own} {a : Addr} (h : w a = some (1 :: t)) : nearQ q n w a = some (1 :: n :: t) := by simp only [nearQ, h]
theorem near2 {q t : Tag} {n : Nat} {w : Own} {a : Addr} (h : w a = some (2 :: t)) : nearQ q n w a = some (q ++ t) := by simp only [nearQ, h]
theorem nearQ_none {q : Tag} {n : Nat} {w : Own} {a : Addr} (h : w a = none) : nearQ q n w a = none := by simp only [nearQ, h]
theorem le_nearQ {q : Tag} {n : Nat} {w : Own} {H : Hp} : Le (fz w H) (fz (nearQ q n w) H) := .of fun b o h => by
  obtain ⟨h1, h2⟩ := fz_some h
  exact fz_of (nearQ_none h1) h2
theorem good_nearQ {q : Tag} {n : Nat} {w : Own} {H : Hp} (g : Good w H) : Good (nearQ q n w) H := fun a t h => by
  cases e : w a with
  | none => rw [nearQ_none e] at h; cases h
  | some u => exact g a u e
/-- what a def leaves of its first: S, then S' -/
def spM {α σ σ' ρ : Type} (S : SR σ) (S' : SR σ') (t : Tp α) (RR : RS ρ) (Pre : σ → α → Prop) (fn : σ → α → ρ × σ') : Sp := fun vs H Q _ => ∃ (w : Own) (s : σ) (a : α) (v0 : V) (us : List V), vs = v0 :: us ∧ Good w H ∧ S.rel w H [2] (some v0) s ∧ t.rep (fz w H) us a ∧ Pre s a ∧
  ∀ v w' H', Aft w H w' H' → RR w' H' v (fn s a).1 → S'.rel w' H' [2] (some v0) (fn s a).2 → Q v H'
/-- an answer of its own, given away -/
def rsY {α : Type} (S : SR α) : RS α := fun w H v x => S.rel w H [1] (some v) x
section
variable {E : Type} {R : ER E} {w w2 : Own} {H H2 : Hp} {q : Tag} {n : Nat}
theorem back_le (a : Aft (farQ q w) H w2 H2) : Le (fz w H) (fz (nearQ q n w2) H2) := by
  have := a.le
  rw [fz_farQ] at this
  exact this.trans le_nearQ
theorem back_fk (a : Aft (farQ q w) H w2 H2) {b : Addr} {t : Tag} (hb : w b = some t) (k : ¬ q <+: t) : nearQ q n w2 b = some t ∧ H2 b = H b := by
  obtain ⟨h1, h2⟩ := a.fk b t (farQ_out hb k)
  exact ⟨near0 h1, h2⟩
theorem back_S {α : Type} {S : SR α} {v0 : V} {x : α} (h : S.rel w2 H2 [2] (some v0) x) : S.rel (nearQ q n w2) H2 q (some v0) x :=
  S.keep h le_nearQ fun a u ha => ⟨near2 ha, rfl⟩
theorem back_Y {α : Type} {S : SR α} {v : V} {x : α} (h : S.rel w2 H2 [1] (some v) x) : S.rel (nearQ q n w2) H2 [1, n] (some v) x :=
  S.keep h le_nearQ fun a u ha => ⟨near1 ha, rfl⟩
theorem pre2 {j i : Nat} {q t : Tag} (h : 2 ≤ j) (hi : i < 2) : ¬ (j :: q) <+: i :: t := fun z => by
  have := (List.cons_prefix_cons.mp z).1
  omega
/-- the caller behind it -/
theorem back_post {α : Type} {S : SR α} {get : E → α} {set : E → α → E} {σ : St} {env : E} {v0 : V} {x : α} {j : Nat} (hj : 2 ≤ j) (G : Good w H) (fo : Foc R (j :: q) S get set w H σ env v0) (a : Aft (farQ (j :: q) w) H w2 H2) (s : S.rel w2 H2 [2] (some v0) x) :
    Post false R w H (nearQ (j :: q) n w2) H2 σ (set env x) :=
  ⟨good_nearQ a.good, back_le a, fun b i t hi hb => back_fk a hb (pre2 hj hi), fo.put _ _ _ (back_le a) (fun b t hb k => back_fk a hb k) (back_S s), fun z => nomatch z⟩
end
section
variable {X : Cx} {E F : Type} {R : ER E} {pos np apos : Pos} {α ρ κ : Type} {t : Tp α} {e o : Expr} {es : List Expr} {P : E → Prop} {f : E → α} {g : E → E} {p st : Bool} {x m : Str} {rr : Rp ρ} {SY : SR ρ} {fa C : Addr} {fd : FuncData} {ps : List Str} {ns : List Str} {ER0 : ER F} {k j : Nat}
variable {Pre : F → α → Prop} {fn : F → α → ρ × F} {get : E → F} {set : E → F → E} {S : SR F} {RR : RS ρ}
/-- a reading of arguments -/
def SA (R : ER E) (t : Tp α) (lv p : Bool) (P : E → Prop) (f : E → α) (g : E → E) (ta : TA) : Prop := ∀ (w : Own) (H : Hp) (σ : St) (env : E) (Q : List V → Hp → Prop), Good w H → R.rel w H [] 2 σ env → P env → (∀ vs w' H', Post p R w H w' H' σ (g env) → t.rep (vw lv w' H') vs (f env) → Q vs H') → ta σ H Q
theorem sa_nil : SA R tp0 true true (fun _ => True) (fun _ => ()) (fun e => e) tNil := fun w H _ _ Q G q _ k => k _ w H (.refl G q) rfl
/-- an owned place and arguments handed in -/
theorem in_read {te : TE} {ta : TA} {jj : Nat} {q : Tag} {rd : St → Hp → Option V} (hp : p = true ∨ st = true) (hj : 2 ≤ jj) (h2 : SL R S st get set (jj :: q) te rd) (b : SA R t true p P f g ta)
    {n : Nat} {w : Own} {H : Hp} {σ : St} {env : E} {Q : VK} {EX : XK} (G : Good w H) (hr : R.rel w H [] 2 σ env) (hP : P env ∧ Pre (get (g env)) (f env))
    (kk : ∀ v w2 H', Post false R w H (nearQ (jj :: q) n w2) H' σ (set (g env) (fn (get (g env)) (f env)).2) → RR w2 H' v (fn (get (g env)) (f env)).1 → Q v H') :
    ∃ x, (∀ Q : VK, Q x H → te σ H Q) ∧ S.rel w H (jj :: q) (some x) (get env) ∧ ta σ H fun vs H2 => spM S S t RR Pre fn (x :: vs) H2 Q EX := by
  obtain ⟨v, e1, e2, e3, e4, e5⟩ := h2 w H σ env G hr
  refine ⟨v, e2, e3.here, b w H σ env _ G hr hP.1 fun vs w1 H1 p1 hv => ?_⟩
  obtain ⟨v', f1, f2, f3, _⟩ := h2 w1 H1 σ _ p1.good p1.env
  have ev : v' = v := by
    rcases hp with hp | hp
    · obtain ⟨_, _, k3⟩ := p1.pur hp
      have := e4 H1 fun b t hb => k3 b t hb
      rw [f1] at this
      exact Option.some.inj this
    · have := e5 hp H1
      rw [f1] at this
      exact Option.some.inj this
  subst ev
  refine ⟨farQ (jj :: q) w1, get (g env), f env, v', vs, rfl, good_farQ p1.good, ?_, by rw [fz_farQ]; exact hv, hP.2, fun v w2 H2 af hres hs => ?_⟩
  · refine S.keep f3.here (by rw [fz_farQ]; exact .refl _) fun b u hb => ⟨farQ_in hb, rfl⟩
  · exact kk v w2 H2 ((p1.trans (back_post (n := n) hj p1.good f3 af hs)).weak (by simp)) hres
/-- the instance and its method -/
theorem meth_read {te : TE} {ta : TA} {jj : Nat} {q : Tag} {rd : St → Hp → Option V} (hp : p = true ∨ st = true) (hj : 2 ≤ jj) (h2 : SL R (ob C ns ER0) st get set (jj :: q) te rd) (hns : m ∉ ns) (b : SA R t true p P f g ta)
    {n : Nat} {w : Own} {H : Hp} {σ : St} {env : E} {Q : VK} {EX : XK} (G : Good w H) (hr : R.rel w H [] 2 σ env) (hP : P env ∧ Pre (get (g env)) (f env))
    (kk : ∀ v w2 H', Post false R w H (nearQ (jj :: q) n w2) H' σ (set (g env) (fn (get (g env)) (f env)).2) → RR w2 H' v (fn (get (g env)) (f env)).1 → Q v H') :
    tMeth C m (spM (ob C ns ER0) (ob C ns ER0) t RR Pre fn) [] EX te ta σ H Q := by
  obtain ⟨x, h1, h3, h4⟩ := in_read (RR := RR) (EX := EX) hp hj h2 b G hr hP kk
  obtain ⟨a, dx, fl, τ, z1, z2, z3, z4, z5⟩ := h3
  cases z1
  refine h1 _ ⟨a, dx, fl, rfl, z3, z4.out m hns, ?_⟩
  simp only [List.append_nil]
  exact h4
theorem tx_meth (hl : TL X R o (ob C ns ER0) st get set) (G : FnOk X.prog X.w X.K X.mg X.base CX0 k fa fd ps (spM (ob C ns ER0) (ob C ns ER0) t (rsF rr) Pre fn)) (hr : Room j X.A) (hkj : k ≤ j) (c : Cls X.K C) (hm : Meth X.K C m fa) (hns : m ∉ ns) (hb : Binds X.K fd ps []) (ha : TAs X R (e :: es) t true p P f g) (hp : p = true ∨ st = true := by first | exact .inr rfl | exact .inl rfl)
    {pl : Sem Bool} (hst : starEach (e :: es) X.env = (false, eval e X.env) :: starEach es X.env := by rfl) (hpl : (backTo pos (starEach es X.env)).any (·.1) = false := by rfl)
    (ht : eval (.Call (.Attribute o m apos) (e :: es) [] pos) X.env = (do
      let ov ← eval o X.env
      standAt apos.atName
      let (f, first) ← holding [ov] (getMethod ov m pl)
      callWith pos f first (backTo pos (starEach (e :: es) X.env)) (backToKw pos (keywordEach [] X.env))) := by rfl) :
    TX X R (.Call (.Attribute o m apos) (e :: es) [] pos) rr true false (fun e => P e ∧ Pre (get (g e)) (f e)) (fun e => (fn (get (g e)) (f e)).1) (fun e => set (g e) (fn (get (g e)) (f e)).2) := by
  obtain ⟨ta, a, b⟩ := ha
  obtain ⟨jj, q, te, rd, hj, h1, h2⟩ := hl
  exact ⟨_, pe_meth (pl := pl) h1 c hm G (hr.mono hkj) hb .nil (pass0 (X := X)) a hst hpl ht, fun w H σ env Q Gd hR hP kk => meth_read (n := 0) hp hj h2 hns b Gd hR hP fun v w2 H' hpo hres => kk v _ H' hpo (rr.mono le_nearQ hres)⟩
theorem ty_meth (hl : TL X R o (ob C ns ER0) st get set) (G : FnOk X.prog X.w X.K X.mg X.base CX0 k fa fd ps (spM (ob C ns ER0) (ob C ns ER0) t (rsY SY) Pre fn)) (hr : Room j X.A) (hkj : k ≤ j) (c : Cls X.K C) (hm : Meth X.K C m fa) (hns : m ∉ ns) (hb : Binds X.K fd ps []) (ha : TAs X R (e :: es) t true p P f g) (hp : p = true ∨ st = true := by first | exact .inr rfl | exact .inl rfl)
    {pl : Sem Bool} (hst : starEach (e :: es) X.env = (false, eval e X.env) :: starEach es X.env := by rfl) (hpl : (backTo pos (starEach es X.env)).any (·.1) = false := by rfl)
    (ht : eval (.Call (.Attribute o m apos) (e :: es) [] pos) X.env = (do
      let ov ← eval o X.env
      standAt apos.atName
      let (f, first) ← holding [ov] (getMethod ov m pl)
      callWith pos f first (backTo pos (starEach (e :: es) X.env)) (backToKw pos (keywordEach [] X.env))) := by rfl) :
    TY X R (.Call (.Attribute o m apos) (e :: es) [] pos) SY false (fun e => P e ∧ Pre (get (g e)) (f e)) (fun e => (fn (get (g e)) (f e)).1) (fun e => set (g e) (fn (get (g e)) (f e)).2) := by
  obtain ⟨ta, a, b⟩ := ha
  obtain ⟨jj, q, te, rd, hj, h1, h2⟩ := hl
  exact ⟨_, pe_meth (pl := pl) h1 c hm G (hr.mono hkj) hb .nil (pass0 (X := X)) a hst hpl ht, fun n w H σ env Q Gd hR hP kk => meth_read (n := n) hp hj h2 hns b Gd hR hP fun v w2 H' hpo hres => kk v _ H' hpo (back_Y hres)⟩
theorem tx_meth0 {Pre : F → Unit → Prop} {fn : F → Unit → ρ × F} (hl : TL X R o (ob C ns ER0) st get set) (G : FnOk X.prog X.w X.K X.mg X.base CX0 k fa fd ps (spM (ob C ns ER0) (ob C ns ER0) tp0 (rsF rr) Pre fn)) (hr : Room j X.A) (hkj : k ≤ j) (c : Cls X.K C) (hm : Meth X.K C m fa) (hns : m ∉ ns) (hb : Binds X.K fd ps [])
    {pl : Sem Bool} (ht : eval (.Call (.Attribute o m apos) [] [] pos) X.env = (do
      let ov ← eval o X.env
      standAt apos.atName
      let (f, first) ← holding [ov] (getMethod ov m pl)
      callWith pos f first (backTo pos (starEach [] X.env)) (backToKw pos (keywordEach [] X.env))) := by rfl) :
    TX X R (.Call (.Attribute o m apos) [] [] pos) rr true false (fun e => Pre (get e) ()) (fun e => (fn (get e) ()).1) (fun e => set e (fn (get e) ()).2) := by
  obtain ⟨jj, q, te, rd, hj, h1, h2⟩ := hl
  exact ⟨_, pe_meth0 (pl := pl) h1 c hm G (hr.mono hkj) hb .nil (pass0 (X := X)) ht, fun w H σ env Q Gd hR hP kk => meth_read (n := 0) (.inl rfl) hj h2 hns sa_nil Gd hR ⟨trivial, hP⟩ fun v w2 H' hpo hres => kk v _ H' hpo (rr.mono le_nearQ hres)⟩
theorem ty_meth0 {Pre : F → Unit → Prop} {fn : F → Unit → ρ × F} (hl : TL X R o (ob C ns ER0) st get set) (G : FnOk X.prog X.w X.K X.mg X.base CX0 k fa fd ps (spM (ob C ns ER0) (ob C ns ER0) tp0 (rsY SY) Pre fn)) (hr : Room j X.A) (hkj : k ≤ j) (c : Cls X.K C) (hm : Meth X.K C m fa) (hns : m ∉ ns) (hb : Binds X.K fd ps [])
    {pl : Sem Bool} (ht : eval (.Call (.Attribute o m apos) [] [] pos) X.env = (do
      let ov ← eval o X.env
      standAt apos.atName
      let (f, first) ← holding [ov] (getMethod ov m pl)
      callWith pos f first (backTo pos (starEach [] X.env)) (backToKw pos (keywordEach [] X.env))) := by rfl) :
    TY X R (.Call (.Attribute o m apos) [] [] pos) SY false (fun e => Pre (get e) ()) (fun e => (fn (get e) ()).1) (fun e => set e (fn (get e) ()).2) := by
  obtain ⟨jj, q, te, rd, hj, h1, h2⟩ := hl
  exact ⟨_, pe_meth0 (pl := pl) h1 c hm G (hr.mono hkj) hb .nil (pass0 (X := X)) ht, fun n w H σ env Q Gd hR hP kk => meth_read (n := n) (.inl rfl) hj h2 hns sa_nil Gd hR ⟨trivial, hP⟩ fun v w2 H' hpo hres => kk v _ H' hpo (back_Y hres)⟩
/-- f(o, ..), o an owned place -/
theorem in_args {te : TE} {ta : TA} {jj : Nat} {q : Tag} {rd : St → Hp → Option V} (hp : p = true ∨ st = true) (hj : 2 ≤ jj) (h2 : SL R S st get set (jj :: q) te rd) (b : SA R t true p P f g ta)
    {n : Nat} {w : Own} {H : Hp} {σ : St} {env : E} {Q : VK} {EX : XK} (G : Good w H) (hr : R.rel w H [] 2 σ env) (hP : P env ∧ Pre (get (g env)) (f env))
    (kk : ∀ v w2 H', Post false R w H (nearQ (jj :: q) n w2) H' σ (set (g env) (fn (get (g env)) (f env)).2) → RR w2 H' v (fn (get (g env)) (f env)).1 → Q v H') :
    tCall (spM S S t RR Pre fn) [] EX (tCons te ta) σ H Q := by
  obtain ⟨x, h1, h3, h4⟩ := in_read (RR := RR) (EX := EX) hp hj h2 b G hr hP kk
  refine h1 _ ?_
  show ta σ H fun vs H2 => spM S S t RR Pre fn ((x :: vs) ++ []) H2 Q EX
  simp only [List.append_nil]
  exact h4
theorem tx_callM (hl : TL X R o S st get set) (G : FnOk X.prog X.w X.K X.mg X.base CX0 k fa fd ps (spM S S t (rsF rr) Pre fn)) (hr : Room j X.A) (hkj : k ≤ j) (hg : Gl X x) (hm : X.mg x = some (.ref fa)) (hk : PySem.W.keepIn X.K (.ref fa) = true) (hb : Binds X.K fd ps []) (ha : TAs X R es t true p P f g) (hp : p = true ∨ st = true := by first | exact .inr rfl | exact .inl rfl)
    (hdb : (x == ("__debug__" : Str)) = false := by decide) (he : starEach (o :: es) X.env = (false, eval o X.env) :: starEach es X.env := by rfl) (hpl : (backTo pos (starEach es X.env)).any (·.1) = false := by rfl) :
    TX X R (.Call (.Name x np) (o :: es) [] pos) rr true false (fun e => P e ∧ Pre (get (g e)) (f e)) (fun e => (fn (get (g e)) (f e)).1) (fun e => set (g e) (fn (get (g e)) (f e)).2) := by
  obtain ⟨ta, a, b⟩ := ha
  obtain ⟨jj, q, te, rd, hj, h1, h2⟩ := hl
  exact ⟨_, pe_call G (hr.mono hkj) hg hm hk hb .nil (pass0 (X := X)) (pa_cons h1 a he) hdb he hpl, fun w H σ env Q Gd hR hP kk => in_args (n := 0) hp hj h2 b Gd hR hP fun v w2 H' hpo hres => kk v _ H' hpo (rr.mono le_nearQ hres)⟩
theorem ty_callM (hl : TL X R o S st get set) (G : FnOk X.prog X.w X.K X.mg X.base CX0 k fa fd ps (spM S S t (rsY SY) Pre fn)) (hr : Room j X.A) (hkj : k ≤ j) (hg : Gl X x) (hm : X.mg x = some (.ref fa)) (hk : PySem.W.keepIn X.K (.ref fa) = true) (hb : Binds X.K fd ps []) (ha : TAs X R es t true p P f g) (hp : p = true ∨ st = true := by first | exact .inr rfl | exact .inl rfl)
    (hdb : (x == ("__debug__" : Str)) = false := by decide) (he : starEach (o :: es) X.env = (false, eval o X.env) :: starEach es X.env := by rfl) (hpl : (backTo pos (starEach es X.env)).any (·.1) = false := by rfl) :
    TY X R (.Call (.Name x np) (o :: es) [] pos) SY false (fun e => P e ∧ Pre (get (g e)) (f e)) (fun e => (fn (get (g e)) (f e)).1) (fun e => set (g e) (fn (get (g e)) (f e)).2) := by
  obtain ⟨ta, a, b⟩ := ha
  obtain ⟨jj, q, te, rd, hj, h1, h2⟩ := hl
  exact ⟨_, pe_call G (hr.mono hkj) hg hm hk hb .nil (pass0 (X := X)) (pa_cons h1 a he) hdb he hpl, fun n w H σ env Q Gd hR hP kk => in_args (n := n) hp hj h2 b Gd hR hP fun v w2 H' hpo hres => kk v _ H' hpo (back_Y hres)⟩
/-- f(..), its answer its own -/
theorem ty_call {Pre : α → Prop} {fn : α → ρ} (G : FnOk X.prog X.w X.K X.mg X.base CX0 k fa fd ps (spP t (rsY SY) Pre fn)) (hr : Room j X.A) (hkj : k ≤ j) (hg : Gl X x) (hm : X.mg x = some (.ref fa)) (hk : PySem.W.keepIn X.K (.ref fa) = true) (hb : Binds X.K fd ps []) (ha : TAs X R (e :: es) t true p P f g)
    (hdb : (x == ("__debug__" : Str)) = false := by decide) (he : starEach (e :: es) X.env = (false, eval e X.env) :: starEach es X.env := by rfl) (hpl : (backTo pos (starEach es X.env)).any (·.1) = false := by rfl) :
    TY X R (.Call (.Name x np) (e :: es) [] pos) SY false (fun e => P e ∧ Pre (f e)) (fun e => fn (f e)) g := by
  obtain ⟨ta, a, b⟩ := ha
  refine ⟨_, pe_call G (hr.mono hkj) hg hm hk hb .nil (pass0 (X := X)) a hdb he hpl, fun n w H σ env Q Gd q hP kk => b w H σ env _ Gd q hP.1 fun vs w' H' hp hv => ?_⟩
  rw [List.append_nil]
  refine ⟨far w', f env, good_far hp.good, by rw [fz_far]; exact hv, hP.2, fun v w2 H2 af hres => ?_⟩
  have l : Le (fz w' H') (fz (nearQ [2] n w2) H2) := by
    have := af.le
    rw [fz_far] at this
    exact this.trans le_nearQ
  have fk : ∀ b t, w' b = some t → nearQ [2] n w2 b = some t ∧ H2 b = H' b := fun b t hb => by
    obtain ⟨h1, h2⟩ := af.fk b t (far_some hb)
    exact ⟨near0 h1, h2⟩
  have p2 : Post false R w' H' (nearQ [2] n w2) H2 σ (g env) := ⟨good_nearQ af.good, l, fun b i t _ hb => fk b _ hb, R.keep hp.env l fun b i t _ hb => fk b _ hb, fun z => nomatch z⟩
  exact kk v _ H2 ((hp.trans p2).weak (by simp)) (back_Y hres)
/-- C(..) -/
theorem make_read {F' : Type} {S' : SR F'} {ta : TA} {s0 : F} {Pre : F → α → Prop} {fn : F → α → Unit × F'} (s1 : St1 ns.length ER0 s0) (b : SA R t true p P f g ta) {n : Nat} {w : Own} {H : Hp} {σ : St} {env : E} {Q : VK} {EX : XK} (G : Good w H) (hr : R.rel w H [] 2 σ env) (hP : P env ∧ Pre s0 (f env))
    (kk : ∀ v w' H', Post false R w H w' H' σ (g env) → S'.rel w' H' [1, n] (some v) (fn s0 (f env)).2 → Q v H') : tMake C (spM (ob C ns ER0) S' t rsN Pre fn) [] EX ta σ H Q := by
  refine b w H σ env _ G hr hP.1 fun vs w1 H1 p1 hv x dx hx hdx hne => ?_
  have nx : ∀ {a t}, w1 a = some t → a ≠ x := fun {a t} ha z => p1.good a t ha (by rw [z]; exact hx)
  have nd : ∀ {a t}, w1 a = some t → a ≠ dx := fun {a t} ha z => p1.good a t ha (by rw [z]; exact hdx)
  have hH : ∀ {a : Addr} {o : HO}, H1 a = some o → upd (upd H1 dx (.own x)) x (.ins C dx []) a = some o := fun {a o} ha => by
    rw [upd_ne (ne_of_none ha hx), upd_ne (ne_of_none ha hdx)]
    exact ha
  have l0 : Le (fz w1 H1) (fz (own1 x [2] (far w1)) (upd (upd H1 dx (.own x)) x (.ins C dx []))) := .of fun a o ha => by
    obtain ⟨h1, h2⟩ := fz_some ha
    exact fz_of (by rw [own1_ne (ne_of_none h2 hx)]; exact far_none h1) (hH h2)
  rw [List.append_nil]
  refine ⟨own1 x [2] (far w1), s0, f env, .ref x, vs, rfl, fun a u ha => ?_, ⟨x, dx, [], _, rfl, own1_same, upd_same, FS.new, s1.st _ _ _ _⟩, t.mono l0 hv, hP.2, fun v w2 H2 af hres hs => ⟨hres, ?_⟩⟩
  · by_cases e : a = x
    · rw [e, upd_same]
      exact fun z => nomatch z
    · rw [own1_ne e] at ha
      obtain ⟨u', hu⟩ : ∃ u', w1 a = some u' := by
        cases e' : w1 a with
        | none => rw [far_none e'] at ha; cases ha
        | some u' => exact ⟨u', rfl⟩
      rw [upd_ne e, upd_ne (nd hu)]
      exact p1.good a u' hu
  · have fk : ∀ a u, w1 a = some u → nearQ [1, n] 0 w2 a = some u ∧ H2 a = H1 a := fun a u ha => by
      obtain ⟨h1, h2⟩ := af.fk a u (by rw [own1_ne (nx ha)]; exact far_some ha)
      exact ⟨near0 h1, by rw [h2, upd_ne (nx ha), upd_ne (nd ha)]⟩
    have l : Le (fz w1 H1) (fz (nearQ [1, n] 0 w2) H2) := l0.trans (af.le.trans le_nearQ)
    have p2 : Post false R w1 H1 (nearQ [1, n] 0 w2) H2 σ (g env) := ⟨good_nearQ af.good, l, fun b i t _ hb => fk b _ hb, R.keep p1.env l fun b i t _ hb => fk b _ hb, fun z => nomatch z⟩
    exact kk _ _ H2 ((p1.trans p2).weak (by simp)) (back_S hs)
theorem ty_make {F' : Type} {S' : SR F'} {s0 : F} {Pre : F → α → Prop} {fn : F → α → Unit × F'} (s1 : St1 ns.length ER0 s0) (M : Mk X.K C fa) (G : FnOk X.prog X.w X.K X.mg X.base CX0 k fa fd ps (spM (ob C ns ER0) S' t rsN Pre fn)) (hr : Room j X.A) (hkj : k + 1 ≤ j) (hg : Gl X x) (hm : X.mg x = some (.ref C)) (hb : Binds X.K fd ps []) (ha : TAs X R (e :: es) t true p P f g)
    (hdb : (x == ("__debug__" : Str)) = false := by decide) (he : starEach (e :: es) X.env = (false, eval e X.env) :: starEach es X.env := by rfl) (hpl : (backTo pos (starEach es X.env)).any (·.1) = false := by rfl) :
    TY X R (.Call (.Name x np) (e :: es) [] pos) S' false (fun e => P e ∧ Pre s0 (f e)) (fun e => (fn s0 (f e)).2) g := by
  obtain ⟨ta, a, b⟩ := ha
  exact ⟨_, pe_make M G (hr.mono hkj) hg hm hb .nil (pass0 (X := X)) a hdb he hpl, fun n w H σ env Q Gd hR hP kk => make_read s1 b Gd hR hP kk⟩
theorem ty_make0 {F' : Type} {S' : SR F'} {s0 : F} {Pre : F → Unit → Prop} {fn : F → Unit → Unit × F'} (s1 : St1 ns.length ER0 s0) (M : Mk X.K C fa) (G : FnOk X.prog X.w X.K X.mg X.base CX0 k fa fd ps (spM (ob C ns ER0) S' tp0 rsN Pre fn)) (hr : Room j X.A) (hkj : k + 1 ≤ j) (hg : Gl X x) (hm : X.mg x = some (.ref C)) (hb : Binds X.K fd ps [])
    (hdb : (x == ("__debug__" : Str)) = false := by decide) :
    TY X R (.Call (.Name x np) [] [] pos) S' false (fun e => Pre s0 ()) (fun e => (fn s0 ()).2) (fun e => e) := 
  ⟨_, pe_make0 M G (hr.mono hkj) hg hm hb .nil (pass0 (X := X)) hdb, fun n w H σ env Q Gd hR hP kk => make_read s1 sa_nil Gd hR ⟨trivial, hP⟩ kk⟩
end
/-! ### a def's body, its first kept in sight -/
section
variable {E E' F F' : Type} {R : ER E} {v : V} {S : SR F} {S' : SR F'}
theorem has0p : Has (ec (pin v S) R) 0 S (fun e => e.1) (fun e x => (x, e.2)) :=
  ⟨fun {w H p k σ e} h => by
    obtain ⟨o, τ, h1, h2, h3⟩ := h
    exact ⟨o, by rw [h1]; rfl, h2.2⟩, fun {w w' H H' p k σ e x} h l q s => by
    obtain ⟨o, τ, h1, h2, h3⟩ := h
    refine ⟨o, τ, h1, ⟨h2.1, s o (by rw [h1]; rfl)⟩, R.keep h3 l fun a j t hj ha => q a j t (Nat.le_of_succ_le hj) (by omega) ha⟩⟩
/-- slot i changed in place: S, then S' -/
structure Chg {E E' β : Type} (R : ER E) (i : Nat) (S' : SR β) (R' : ER E') (put : E → β → E') : Prop where
  chg : ∀ {w w' : Own} {H H' : Hp} {p : Tag} {k : Nat} {σ : List (Option V)} {e : E} {x : β}, R.rel w H p k σ e → Le (fz w H) (fz w' H') →
    (∀ a j q, k ≤ j → j ≠ k + i → w a = some (p ++ j :: q) → w' a = some (p ++ j :: q) ∧ H' a = H a) → (∀ o, σ[i]? = some o → S'.rel w' H' (p ++ [k + i]) o x) → R'.rel w' H' p k σ (put e x)
theorem chg0p : Chg (ec (pin v S) R) 0 S' (ec (pin v S') R) (fun e x => (x, e.2)) := ⟨fun {w w' H H' p k σ e x} h l q s => by
    obtain ⟨o, τ, h1, h2, h3⟩ := h
    refine ⟨o, τ, h1, ⟨h2.1, s o (by rw [h1]; rfl)⟩, R.keep h3 l fun a j t hj ha => q a j t (Nat.le_of_succ_le hj) (by omega) ha⟩⟩
theorem chg0 : Chg (ec S R) 0 S' (ec S' R) (fun e x => (x, e.2)) := ⟨fun {w w' H H' p k σ e x} h l q s => by
    obtain ⟨o, τ, h1, h2, h3⟩ := h
    refine ⟨o, τ, h1, s o (by rw [h1]; rfl), R.keep h3 l fun a j t hj ha => q a j t (Nat.le_of_succ_le hj) (by omega) ha⟩⟩
theorem chgS {α : Type} {S0 : SR α} {R' : ER E'} {i : Nat} {put : E → F' → E'} (h : Chg R i S' R' put) : Chg (ec S0 R) (i + 1) S' (ec S0 R') (fun e x => (e.1, put e.2 x)) := ⟨fun {w w' H H' p k σ e x} q l f s => by
    obtain ⟨o, τ, h1, h2, h3⟩ := q
    refine ⟨o, τ, h1, S0.keep h2 l fun a t ha => ?_, h.chg h3 l (fun a j t hj hn ha => f a j t (by omega) (by omega) ha) fun u hu => ?_⟩
    · have := f a k t (Nat.le_refl _) (by omega) (by rw [ha]; simp)
      simpa using this
    · have := s u (by rw [h1]; simpa using hu)
      rw [show k + (i + 1) = k + 1 + i by omega] at this
      exact this⟩
end
section
variable {X : Cx} {E E1 F F' G0 : Type} {R : ER E} {R1 : ER E1} {ER0 : ER F} {ER1 : ER F'} {pos np tp : Pos} {α β ρ : Type} {P : E → Prop} {g : E → E} {p lv : Bool} {C : Addr} {ns : List Str} {i j : Nat} {x fl : Str} {e : Expr}
/-- x.f = e -/
theorem tl_fldset {S2 : SR β} {f : E → β} {get : E → F} {set : E → F → E} {put : E → F' → E1} {fput : F → β → F'} (h : TY X R e S2 p P f g) (hh : Has R i (ob C ns ER0) get set) (hc : Chg R i (ob C ns ER1) R1 put) (hf : Put ER0 j S2 ER1 fput) (hn : ns.Nodup) (hz : ns.length < 1000) (hj : ns[j]? = some fl) (c : Cls X.K C) (na : NoAttr X.K C fl) (hp' : PE X (.Name x np) (tVar i))
    (hs : swapsWith e (some (.Attribute (.Name x np) fl tp)) pos.line X.env = pure false := by rfl) : TL1 X R (.Assign [.Attribute (.Name x np) fl tp] e pos) R1 P (fun e => put (g e) (fput (get (g e)) (f e))) := by
  obtain ⟨t, h1, h2⟩ := h
  refine ⟨_, ps_fld hp' h1 hs, fun w H σ env D G q hP k => h2 0 w H σ env _ G q hP fun v w1 H1 p1 s1 => ?_⟩
  obtain ⟨o, g1, a, dx, fs, τ, rfl, z2, z3, z4, z5⟩ := hh.get p1.env
  have z2' : w1 a = some [2 + i] := z2
  have hw : ∀ {b : Addr} {j' : Nat} {u : Tag}, 2 ≤ j' → w1 b = some (j' :: u) → mv [1, 0] [2 + i, j] w1 b = some (j' :: u) := fun h hb => mv_out hb (pre1 h)
  have ha2 : mv [1, 0] [2 + i, j] w1 a = some [2 + i] := hw (by omega) z2'
  have l : Le (fz w1 H1) (fz (mv [1, 0] [2 + i, j] w1) (upd H1 a (.ins C dx (putF fl v fs)))) := by
    rw [fz_tag ha2, fz_mv]
    exact .refl _
  have ne : ∀ {b : Addr} {u : Tag}, w1 b = some u → u ≠ [2 + i] → b ≠ a := fun {b u} hb hu z => by
    rw [z, z2'] at hb
    exact hu (Option.some.inj hb).symm
  refine ⟨_, g1, a, C, dx, fs, rfl, z3, c, na, Nat.lt_of_le_of_lt z4.short hz, k _ _ σ (p1.aft.trans ⟨fun b u hb => ?_, l, fun b u hb => ⟨mv_out hb fun z => ?_, upd_ne (ne hb fun z => ?_)⟩⟩) ?_⟩
  · by_cases eb : b = a
    · rw [eb, upd_same]
      exact fun z => nomatch z
    · rw [upd_ne eb]
      exact good_mv p1.good b u hb
  · have := (List.cons_prefix_cons.mp z).1
    omega
  · have := (List.cons.inj z).1
    omega
  · refine hc.chg p1.env l (fun b j' u hj' hne hb => ⟨hw hj' hb, upd_ne (ne hb fun z => ?_)⟩) fun o ho => ?_
    · exact hne (List.cons.inj z).1
    · rw [g1] at ho
      cases ho
      refine ⟨a, dx, _, _, rfl, ha2, upd_same, z4.set hn hj, hf.put z5 l (fun b j' u _ hne hb => ?_) (S2.keep s1 l fun b u hb => ⟨by
        have := mv_in (a := [1, 0]) (b := [2 + i, j]) hb
        simpa using this, upd_ne (ne hb fun z => ?_)⟩)⟩
      · have hb' : w1 b = some ((2 + i) :: j' :: u) := hb
        exact ⟨hw (by omega) hb', upd_ne (ne hb' fun z => by cases z)⟩
      · have := (List.cons.inj z).1
        omega
end
section
variable {X : Cx} {E E1 F F' : Type} {R : ER E} {R1 : ER E1} {pos : Pos} {α ρ : Type} {P : E → Prop} {g : E → E} {p lv : Bool} {e : Expr} {v0 : V} {S : SR F} {S' : SR F'} {RR : RS ρ}
/-- the answer, and what is left of the first -/
def rsM (v0 : V) (S' : SR F') (RR : RS ρ) : RS (ρ × F') := fun w H v x => RR w H v x.1 ∧ S'.rel w H [2] (some v0) x.2
theorem ts_retM {r : Rp α} {f : E → α} {get : E → F'} {set : E → F' → E} [Up lv r] (h : TX X R e r lv p P f g) (h0 : Has R 0 (pin v0 S') get set) : TS X R [.Return (some e) pos] R1 (rsM v0 S' (rsF r)) P (fun e => .rt (f e, get (g e))) := by
  obtain ⟨t, a, b⟩ := h
  refine ⟨_, pss_one (ps_ret a), fun w H σ env D G q hP k kr => b w H σ env _ G q hP fun v w' H' hp hr => kr v w' H' _ rfl hp.aft ⟨Up.up (lv := lv) _ _ _ _ hr, ?_⟩⟩
  obtain ⟨o, h1, h2, h3⟩ := h0.get hp.env
  rw [← h2]
  exact h3
theorem ts_retMY {S2 : SR α} {f : E → α} {get : E → F'} {set : E → F' → E} (h : TY X R e S2 p P f g) (h0 : Has R 0 (pin v0 S') get set) : TS X R [.Return (some e) pos] R1 (rsM v0 S' (rsY S2)) P (fun e => .rt (f e, get (g e))) := by
  obtain ⟨t, a, b⟩ := h
  refine ⟨_, pss_one (ps_ret a), fun w H σ env D G q hP k kr => b 0 w H σ env _ G q hP fun v w' H' hp hr => kr v (mv [1, 0] [1] w') H' _ rfl (hp.aft.trans (aft_mv hp.good (by decide) ⟨_, rfl⟩)) ⟨S2.mv hr, ?_⟩⟩
  obtain ⟨o, h1, h2, h3⟩ := h0.get hp.env
  rw [← h2]
  exact mv_other h3 fun q z => by
    have := (List.cons_prefix_cons.mp z).1
    omega
theorem ts_retY {S2 : SR α} {f : E → α} (h : TY X R e S2 p P f g) : TS X R [.Return (some e) pos] R1 (rsY S2) P (fun e => .rt (f e)) := by
  obtain ⟨t, a, b⟩ := h
  exact ⟨_, pss_one (ps_ret a), fun w H σ env D G q hP k kr => b 0 w H σ env _ G q hP fun v w' H' hp hr => kr v (mv [1, 0] [1] w') H' _ rfl (hp.aft.trans (aft_mv hp.good (by decide) ⟨_, rfl⟩)) (S2.mv hr)⟩
theorem ts_retNM {get : E → F'} {set : E → F' → E} (h0 : Has R 0 (pin v0 S') get set) : TS X R [.Return none pos] R1 (rsM v0 S' rsN) (fun _ => True) (fun e => .rt ((), get e)) :=
  ⟨_, pss_one ps_retN, fun w H σ env D G q _ k kr => kr _ w H _ rfl (.refl G) ⟨rfl, by
    obtain ⟨o, h1, h2, h3⟩ := h0.get q
    rw [← h2]
    exact h3⟩⟩
end
section
variable {P : Program} {w0 : World} {K : PySem.W.Frag} {mg : Str → Option Value} {base : Heap} {qual : Str} {st : Stmt} {N ps : List Str} {E E1 F F' : Type} {α ρ : Type} {t : Tp α} {S : SR F} {S' : SR F'} {Rt : ER E} {R1 : V → ER E1} {RR : RS ρ} {init : α → E} {Pb : F × E → Prop} {fb : F × E → Out E1 (ρ × F')} {fin : E1 → ρ × F'} {kk : Nat} {nm : Str} {Pre : F → α → Prop} {fn : F → α → ρ × F'} {fa : Addr} {fd : FuncData}
theorem fnM (F0 : FnD K nm qual st fa fd) (Sc : FnScope N ps (defScope st)) (hl : ∀ H vs a, t.rep H vs a → vs.length + 1 = ps.length) (s0 : St0 t (N.length - 1) Rt init) (hN : 1 ≤ N.length)
    (body : ∀ (v0 : V) (cdv : Value) (A : Around) (outer : List Env) (s : Shared) (H : Hp) (Ex : XK), Room kk (A.deeper (envOfC qual (defScope st) s.heap.objs.size fa cdv)) →
      TS (cxOf CX0 P w0 K mg base N qual (defScope st) fa cdv A outer s H Ex).nox (ec (pin v0 S) Rt) (defBody st) (R1 v0) (rsM v0 S' RR) Pb fb)
    (hfin : (∀ v0 w H σ e, (R1 v0).rel w H [] 2 σ e → rsM v0 S' RR w H .non (fin e)) ∨ ∀ s a e, fb (s, init a) ≠ .nx e) (hP : ∀ s a, Pre s a → Pb (s, init a)) (hfn : ∀ s a, Pre s a → (fb (s, init a)).get fin = fn s a) :
    FnOk P w0 K mg base CX0 (kk + 1) fa fd ps (spM S S' t RR Pre fn) := by
  refine fnd_ok F0 Sc (fun vs H Q Ex h => ?_) fun cdv A outer s H vs Q Ex hr h => ?_
  · obtain ⟨w, s, a, v0, us, rfl, _, _, h1, _⟩ := h
    rw [List.length_cons]
    exact hl _ _ _ h1
  · obtain ⟨w, x, a, v0, us, rfl, G, h0, h1, h2, h3⟩ := h
    obtain ⟨tt, b1, b2⟩ := body v0 cdv A outer s H Ex hr
    refine ⟨tt, b1, ?_⟩
    obtain ⟨hlen, q⟩ := s0.st (p := []) (k := 3) h1
    have hR : (ec (pin v0 S) Rt).rel w H [] 2 (L2.start N (v0 :: us)) (x, init a) := by
      refine ⟨some v0, _, ?_, ⟨rfl, h0⟩, q⟩
      unfold L2.start
      simp only [List.map_cons, List.length_cons, List.cons_append]
      rw [show N.length - (us.length + 1) = N.length - 1 - us.length by omega]
    refine b2 w H (L2.start N (v0 :: us)) (x, init a) _ G hR (hP x a h2) (fun w' H' σ' e' z af q' => ?_) fun v w' H' r z af hr => ?_
    · have hv := hfn x a h2
      rw [z] at hv
      rcases hfin with hf | hf
      · obtain ⟨f1, f2⟩ := hf v0 w' H' σ' e' q'
        have hv : fin e' = fn x a := hv
        rw [hv] at f1 f2
        exact h3 .non w' H' af f1 f2
      · exact absurd z (hf _ _ _)
    · have hv := hfn x a h2
      rw [z] at hv
      have hv : r = fn x a := hv
      obtain ⟨f1, f2⟩ := hr
      rw [hv] at f1 f2
      exact h3 v w' H' af f1 f2
theorem fin_none {E : Type} {R : ER E} {v0 : V} {get : E → F'} {set : E → F' → E} (h0 : Has R 0 (pin v0 S') get set) : ∀ w H σ e, R.rel w H [] 2 σ e → rsM v0 S' rsN w H .non ((), get e) := fun w H σ e q => ⟨rfl, by
  obtain ⟨o, h1, h2, h3⟩ := h0.get q
  rw [← h2]
  exact h3⟩
end
end Lmo
end
section
set_option Elab.async false
set_option linter.all false
set_option maxRecDepth 100000
set_option maxHeartbeats 4000000
namespace Lmo
open PySem PySem.Spec PyProof.Rows L2
/-! ### set(xs), xs a list of ints; sorted of it -/
abbrev ob0 (W : World) : Obj := { cls := .type "set", dict := none, data := .set #[] 0 (.fresh 0 0 (!W.params.followText "set-order")) }
section
variable {PR : Program} {W : World} {Ar : Around} {XE : Value → Shared → Prop} {st : Shared}
theorem set_list {lx : Addr} {vs : Array Value} (zs : List Int) {QQ : Value → Shared → Prop} (nohandled : Ar.handled = none) (isl : st.heap.IsList lx vs) (ivs : IntsAre vs.toList zs) (few : zs.length + 1 < scanBound)
    (done : ∀ (hp2 : Heap) (tks cnt : Nat), SetR W hp2 st.heap.objs.size (fun j => decide (j ∈ zs)) cnt → cnt ≤ zs.length → (∀ b o, st.heap.get? b = some o → hp2.get? b = some o) → QQ (.ref st.heap.objs.size) { st with heap := hp2, toks := tks }) :
    wpAny (model PR W) Ar (call (.type "set") [.ref lx]) QQ XE st := by
  have size_eq : vs.size = zs.length := by
    have u := IntsAre.length ivs
    rwa [Array.length_toList] at u
  obtain ⟨cc, rest, mroE⟩ := F.called_set.mro
  have made_ := F.called_set.made
  have sub_ := F.called_set.sub
  refine wpAny_call (codeAny_of_tree ?_)
  show wpAny (model PR W) _ (callAny (.type "set") _) _ _ st
  refine wpAny_pure ⟨Code.quiet_builtin _ (by decide +kernel), codeAny_builtin F.entry_type_call ?_⟩
  rw [Around.under_plain (weight_type_call_type "set" [.ref lx] []) rfl]
  have nt_ := F.called_set.notType
  have cr_ := F.called_set.canCreate
  have tc_ := F.typeCall_set_1 (.ref lx)
  repeat (any_goals (first | wp_step | assumption))
  refine codeAny_mono (code_set_led1 (.ref lx) (E := XE) (Q₁ := fun got st1 => got = .ref st.heap.objs.size ∧ st1 = { st with heap := st.heap.push (ob0 W) }) ⟨rfl, rfl⟩) fun res st1 hres => ?_
  cases res with
  | error ee => exact hres
  | ok flow =>
    cases flow with
    | ret got =>
      obtain ⟨rfl, rfl⟩ := hres
      have at0 : (st.heap.push (ob0 W)).get? st.heap.objs.size = some (ob0 W) := Heap.get?_push_size _ rfl
      have ty0 : Shared.TypeIs { st with heap := st.heap.push (ob0 W) } (.ref st.heap.objs.size) "set" := ⟨_, at0, rfl⟩
      have look_ := F.called_set.init.lookup
      have bind_ := F.called_set.init.bind (.ref st.heap.objs.size)
      repeat (any_goals (first | wp_step | assumption))
      refine codeAny_mono (codeAny_call_builtin (R := wants (fun got2 st2 => got2 = .none ∧ ∃ hp2 tks cnt, st2 = { st with heap := hp2, toks := tks } ∧ SetR W hp2 st.heap.objs.size (fun j => decide (j ∈ zs)) cnt ∧ cnt ≤ zs.length ∧
          (∀ b o, st.heap.get? b = some o → hp2.get? b = some o)) XE) F.called_set.init.plain F.entry_set_init (check_set_init_1 ty0 ?_)) fun res2 st2 hres2 => ?_
      · obtain ⟨⟨c1, d1, da, sl⟩, atl, hcl, nn, hdl⟩ := isl
        simp only at hcl hdl
        subst hcl
        subst hdl
        have atl2 : (st.heap.push (ob0 W)).get? lx = some { cls := .type "list", dict := d1, data := .seq vs nn, slots := sl } := Heap.get?_push_of_some _ atl
        have sub1 := F.sub_list_set
        have sub2 := F.sub_list_frozenset
        have neD : (Value.type "list" == Value.type "dict") = false := by decide
        have isl2 : (st.heap.push (ob0 W)).IsList lx vs := ⟨_, atl2, rfl, nn, rfl⟩
        unfold Builtin.«set.__init__»
        unfold Builtin.Frozenset.updateFrom noKeywords
        generalize eIter : pyIter = iterFn
        wp_walk
        subst eIter
        refine wpAny_pyIter_list isl2 (wpAny_bind (wpAny_runValue ?_))
        have below : lx < st.heap.objs.size := Heap.lt_size atl
        have noh : Ar.in1.in1.in1.handled = none := by simp [nohandled]
        have ne1 : lx ≠ (st.heap.push (ob0 W)).objs.size := by
          rw [Heap.size_push]
          exact Nat.ne_of_lt (Nat.lt_succ_of_lt below)
        have foot : st.heap.objs.size ∉ [(st.heap.push (ob0 W)).objs.size, lx] := by
          rw [Heap.size_push]
          intro hm
          rcases List.mem_cons.mp hm with e | hm
          · exact absurd e (Nat.ne_of_lt (Nat.lt_succ_self _))
          · exact absurd (List.mem_singleton.mp hm).symm (Nat.ne_of_lt below)
        have vals_ : ∀ (i : Nat) (v : Value), vs[i]? = some v → ∃ k t, zs[i]? = some k ∧ v = .int k t := fun i v hv => by
          have lt_ : i < zs.length := by
            rw [← size_eq]
            exact (Array.getElem?_eq_some_iff.mp hv).1
          obtain ⟨t, e⟩ := IntsAre.int_at ivs i v (by rw [Array.getElem?_toList]; exact hv)
          exact ⟨zs[i], t, List.getElem?_eq_getElem lt_, by rw [e, List.getD_eq_getElem?_getD, List.getElem?_eq_getElem lt_]; rfl⟩
        refine set_update_ints ((Walks.list noh _ lx ne1 vs).toS) st.heap.objs.size foot zs size_eq few vals_ (vs.size - 0) 0 _ (by omega) (Nat.zero_le _) ⟨⟨_, Heap.get?_push_size _ rfl, rfl, rfl⟩, (isl2.push _)⟩ ?first ?last
        case first =>
          have at1 : ((st.heap.push (ob0 W)).push { cls := .type "list_iterator", data := .fields #[.ref lx, .int 0 0] }).get? st.heap.objs.size = some (ob0 W) := Heap.get?_push_of_some _ at0
          exact ⟨0, Nat.zero_le _, setR_new_at at1⟩
        case last =>
          rintro ⟨hp2, gg, dd, tks, oss⟩ cnt mvd hcnt hset
          have e1 : gg = st.gens := mvd.gens
          have e2 : dd = st.drawn := mvd.drawn
          have e3 : oss = st.os := mvd.os
          subst e1 e2 e3
          show wpAny _ _ _ _ _ _
          refine wpAny_pure ?_
          show wpAny _ _ (ret Value.none) _ _ _
          refine wpAny_pure ⟨rfl, hp2, tks, cnt, rfl, hset, by omega, fun b o e => ?_⟩
          have b0 : b < st.heap.objs.size := Heap.lt_size e
          refine mvd.heap b o ?_ (Heap.get?_push_of_some _ (Heap.get?_push_of_some _ e))
          rw [Heap.size_push]
          intro hm
          rcases List.mem_cons.mp hm with e | hm
          · exact absurd e (Nat.ne_of_lt b0)
          · exact absurd (List.mem_singleton.mp hm) (Nat.ne_of_lt (Nat.lt_succ_of_lt b0))
      · cases res2 with
        | error ee => exact hres2
        | ok flow2 =>
          cases flow2 with
          | ret got2 =>
            obtain ⟨rfl, hp2, tks, cnt, rfl, k1, k2, k3⟩ := hres2
            repeat (any_goals (first | wp_step | assumption))
            exact done _ _ _ k1 k2 k3
          | _ => exact hres2.elim
    | _ => exact hres.elim
end
section
variable {X : Cx}
/-- set(xs) -/
def rSetL (K : PySem.W.Frag) (W : World) : List V → Hp → VK → Prop := fun vs H Q => ∃ (a : Addr) (zs : List Int), vs = [V.ref a] ∧ SqL K H a (zs.map V.int) ∧ zs.length < 64 ∧ ∀ p c, H p = none → c ≤ zs.length → Q (.ref p) (upd H p (SetO W p (fun j => decide (j ∈ zs)) c))
theorem cr_setL (hc : X.calm = true) : CallR X (.type "set") (rSetL X.K X.w) := by
  intro pins s σ H vs us Q I r h
  obtain ⟨a, zs, rfl, hs, few, q⟩ := h
  obtain ⟨its, rv, hl, _⟩ := I.list hs
  rw [Vals.ref1 r]
  have big : zs.length + 1 < scanBound := by
    unfold scanBound
    omega
  refine set_list zs (I.ok.hd hc) hl.isList (ints_of_vals rv) big fun h' tk c hset hcl hk => ?_
  have J := I.laid (o := SetO X.w s.heap.objs.size (fun j => decide (j ∈ zs)) c) (t' := tk) hk (Nat.le_refl _) (setO_new hset)
  exact ⟨.ref _, _, J, rfl, q _ _ (I.hok.fresh (Nat.le_refl _)) hcl⟩
end
end Lmo
end
section
set_option Elab.async false
set_option linter.all false
set_option maxRecDepth 100000
set_option maxHeartbeats 4000000
namespace Lmo
open PySem L2
open PyProof.Rows (envOfC)
/-! ### dicts read -/
section
variable {X : Cx} {E : Type} {R : ER E} {pos np : Pos} {α β κ : Type} [DecidableEq κ] {kk : Kp κ} {rk : Rp κ} {s : Rp β} {a b : Expr} {la lb pa pb : Bool} {Pa Pb : E → Prop} {ga gb : E → E}
theorem dget_rd {H : Hp} {v : V} {d : List (κ × β)} {k : κ} (h : (rDict kk s).rep H v d) : ∃ c o, v = .ref c ∧ DGet H c (kV (kk.key k)) o ∧ ((dget d k = none ∧ o = none) ∨ ∃ x u, dget d k = some x ∧ o = some u ∧ s.rep H u x) := by
  obtain ⟨c, o, kvs, rfl, h2, h3, h4, _⟩ := h
  refine ⟨c, valV kvs (kk.key k), rfl, .inl ⟨kvs, _, rd_nrm h2 h3, rfl, rfl⟩, ?_⟩
  rcases drel_get (k := k) h4 with ⟨e1, e2⟩ | ⟨x, u, e1, e2, e3⟩
  · exact .inl ⟨e1, e2⟩
  · exact .inr ⟨x, u, e1, e2, e3⟩
theorem dget_up {H H' : Hp} {c : Addr} {y : V} {o : Option V} (l : Le H H') (h : DGet H c y o) (hn : ∀ b, y ≠ .ref b) : DGet H' c y o := by
  rcases h with ⟨kvs, k, r, e1, e2⟩ | ⟨_, _, b, _, e, _⟩
  · refine .inl ⟨kvs, k, ?_, e1, e2⟩
    rcases r with r | ⟨ob, r⟩
    · rcases l c _ r with h1 | ⟨ob, kvs', e, h1⟩
      · exact .inl h1
      · cases e
        exact .inr ⟨ob, h1⟩
    · exact .inr ⟨ob, l.frz r⟩
  · exact absurd e (hn b)
theorem kV_nref {k : Key} : ∀ b, kV k ≠ .ref b := fun b z => by cases k <;> cases z
theorem tx_dget [Inhabited β] {fa : E → List (κ × β)} {fb : E → κ} (hkk : ∀ H v x, rk.rep H v x → v = kV (kk.key x)) (hu : X.A.units + 1 < cLine) (ha : TX X R a (rDict kk s) la pa Pa fa ga) (hb : TX X R b rk lb pb Pb fb gb) (hl : (la || pb) = true := by rfl) (hs : NoSl b := by exact fun _ _ => rfl) :
    TX X R (.Subscript a b pos) s la (pa && pb) (fun e => Pa e ∧ Pb (ga e) ∧ (dget (fa e) (fb (ga e))).isSome = true) (fun e => (dget (fa e) (fb (ga e))).getD default) (fun e => gb (ga e)) := by
  obtain ⟨t, h1, h2⟩ := ha
  obtain ⟨u, k1, k2⟩ := hb
  refine ⟨_, pe_dget hu h1 k1 hs, fun w H σ env Q G q hP k => h2 w H σ env _ G q hP.1 fun v w' H' p hv => ?_⟩
  refine k2 w' H' σ _ _ p.good p.env hP.2.1 fun i w2 H2 p2 hi => ?_
  obtain ⟨c, o, e1, e2, e3⟩ := dget_rd (k := fb (ga env)) ((rDict kk s).mono (p2.vw hl) hv)
  rcases e3 with ⟨e3, _⟩ | ⟨x, z, e3, rfl, e5⟩
  · have := hP.2.2
    rw [e3] at this
    cases this
  · refine ⟨c, z, e1, ?_, k z w2 H2 (p.trans p2) ?_⟩
    · rw [hkk _ _ _ hi]
      exact dget_up vw_le e2 kV_nref
    · rw [e3]
      exact e5
theorem din_read {fa : E → κ} {fb : E → List (κ × β)} {ta tb : TE} {w : Own} {H : Hp} {σ : St} {env : E} {Q : Addr → Option V → Hp → Prop} (hkk : ∀ H v x, rk.rep H v x → v = kV (kk.key x)) 
    (h2 : ∀ (w : Own) (H : Hp) (σ : St) (env : E) (Q : VK), Good w H → R.rel w H [] 2 σ env → Pa env → (∀ v w' H', Post pa R w H w' H' σ (ga env) → rk.rep (vw la w' H') v (fa env) → Q v H') → ta σ H Q)
    (k2 : ∀ (w : Own) (H : Hp) (σ : St) (env : E) (Q : VK), Good w H → R.rel w H [] 2 σ env → Pb env → (∀ v w' H', Post pb R w H w' H' σ (gb env) → (rDict kk s).rep (vw lb w' H') v (fb env) → Q v H') → tb σ H Q)
    (G : Good w H) (q : R.rel w H [] 2 σ env) (hP : Pa env ∧ Pb (ga env))
    (k : ∀ c o w' H', Post (pa && pb) R w H w' H' σ (gb (ga env)) → o.isSome = (dget (fb (ga env)) (fa env)).isSome → Q c o H') : ta σ H fun y H1 => tb σ H1 fun x H2 => ∃ a o, x = .ref a ∧ DGet H2 a y o ∧ Q a o H2 := by
  refine h2 w H σ env _ G q hP.1 fun v w' H' p hv => k2 w' H' σ _ _ p.good p.env hP.2 fun u w2 H2 p2 hu => ?_
  obtain ⟨c, o, e1, e2, e3⟩ := dget_rd (k := fa env) hu
  refine ⟨c, o, e1, ?_, k c o w2 H2 (p.trans p2) ?_⟩
  · rw [hkk _ _ _ hv]
    exact dget_up vw_le e2 kV_nref
  · rcases e3 with ⟨e3, e4⟩ | ⟨x, z, e3, e4, e5⟩ <;> rw [e3, e4] <;> rfl
theorem tq_din {fa : E → κ} {fb : E → List (κ × β)} (hkk : ∀ H v x, rk.rep H v x → v = kV (kk.key x)) (hu : X.A.units + 1 < cLine) (ha : TX X R a rk la pa Pa fa ga) (hb : TX X R b (rDict kk s) lb pb Pb fb gb) (hm : behindInMarks .In b = false := by rfl) :
    TQ X R (.Compare a [.In] [b] pos) (pa && pb) (fun e => Pa e ∧ Pb (ga e)) (fun e => (dget (fb (ga e)) (fa e)).isSome) (fun e => gb (ga e)) := by
  obtain ⟨t, h1, h2⟩ := ha
  obtain ⟨u, k1, k2⟩ := hb
  exact ⟨_, pt_cmp (pc_din hu h1 k1) hm, fun w H σ env Q G q hP k => din_read hkk h2 k2 G q hP fun c o w' H' p e => ⟨_, rfl, by rw [e]; exact k w' H' p⟩⟩
theorem tq_dnin {fa : E → κ} {fb : E → List (κ × β)} (hkk : ∀ H v x, rk.rep H v x → v = kV (kk.key x)) (hu : X.A.units + 1 < cLine) (ha : TX X R a rk la pa Pa fa ga) (hb : TX X R b (rDict kk s) lb pb Pb fb gb) (hm : behindInMarks .NotIn b = false := by rfl) :
    TQ X R (.Compare a [.NotIn] [b] pos) (pa && pb) (fun e => Pa e ∧ Pb (ga e)) (fun e => !(dget (fb (ga e)) (fa e)).isSome) (fun e => gb (ga e)) := by
  obtain ⟨t, h1, h2⟩ := ha
  obtain ⟨u, k1, k2⟩ := hb
  exact ⟨_, pt_cmp (pc_dnotin hu h1 k1) hm, fun w H σ env Q G q hP k => din_read hkk h2 k2 G q hP fun c o w' H' p e => ⟨_, rfl, by rw [e]; exact k w' H' p⟩⟩
theorem tx_din {fa : E → κ} {fb : E → List (κ × β)} (hkk : ∀ H v x, rk.rep H v x → v = kV (kk.key x)) (hu : X.A.units + 1 < cLine) (ha : TX X R a rk la pa Pa fa ga) (hb : TX X R b (rDict kk s) lb pb Pb fb gb) (hm : behindInMarks .In b = false := by rfl) :
    TX X R (.Compare a [.In] [b] pos) rBool true (pa && pb) (fun e => Pa e ∧ Pb (ga e)) (fun e => (dget (fb (ga e)) (fa e)).isSome) (fun e => gb (ga e)) := by
  obtain ⟨t, h1, h2⟩ := ha
  obtain ⟨u, k1, k2⟩ := hb
  exact ⟨_, pe_cmp (pc_din hu h1 k1) hm, fun w H σ env Q G q hP k => din_read (Q := fun _ o H => Q (.bl o.isSome) H) hkk h2 k2 G q hP fun c o w' H' p e => k _ w' H' p (by rw [e]; rfl)⟩
end
/-! ### places changed in place -/
section
variable {X : Cx} {E : Type} {R : ER E} {pos np tp : Pos} {α β κ : Type} [DecidableEq κ] {kk : Kp κ} {rk : Rp κ} {s : Rp β} {r : Rp α} {e i o : Expr} {lv li p st : Bool} {P Pi : E → Prop} {g : E → E}
/-- read again behind something pure -/
theorem SL.again {S : SR α} {get : E → α} {set : E → α → E} {q : Tag} {t : TE} {rd : St → Hp → Option V} (h2 : SL R S st get set q t rd) {w w1 : Own} {H H1 : Hp} {σ : St} {env1 : E} {v : V} (p1 : Post p R w H w1 H1 σ env1) (hp : p = true ∨ st = true)
    (e4 : ∀ H', (∀ a t, w a = some t → H' a = H a) → rd σ H' = some v) (e5 : st = true → ∀ H', rd σ H' = some v) : Foc R q S get set w1 H1 σ env1 v := by
  obtain ⟨v', f1, f2, f3, _⟩ := h2 w1 H1 σ _ p1.good p1.env
  have ev : v' = v := by
    rcases hp with hp | hp
    · obtain ⟨_, _, k3⟩ := p1.pur hp
      have := e4 H1 fun b t hb => k3 b t hb
      rw [f1] at this
      exact Option.some.inj this
    · have := e5 hp H1
      rw [f1] at this
      exact Option.some.inj this
  rw [ev] at f3
  exact f3
theorem foc_upd {S : SR α} {get : E → α} {set : E → α → E} {j : Nat} {q : Tag} {w : Own} {H : Hp} {σ : St} {env : E} {a : Addr} {x : α} {u : HO} (hj : 2 ≤ j) (G : Good w H) (f : Foc R (j :: q) S get set w H σ env (.ref a)) (ha : w a = some (j :: q)) (hs : S.rel w (upd H a u) (j :: q) (some (.ref a)) x) :
    Aft w H w (upd H a u) ∧ R.rel w (upd H a u) [] 2 σ (set env x) :=
  ⟨own_aft G ha (by omega), f.put w _ x (own_le ha) (fun b t hb hn => ⟨hb, upd_ne fun z => hn (by rw [z, ha] at hb; rw [← Option.some.inj hb]; exact List.prefix_refl _)⟩) hs⟩
/-- d[k] = e -/
theorem tl_dput {f : E → β} {fi : E → κ} {get : E → List (κ × β)} {set : E → List (κ × β) → E} (hl : TL X R o (od kk s) st get set) (hkk : ∀ H v x, rk.rep H v x → v = kV (kk.key x)) (hu : X.A.units + 1 < cLine) (hv : TX X R e s lv p P f g) [Up lv s] (hi : TX X R i rk li true Pi fi fun e => e)
    (hs : swapsWith e (some (.Subscript o i tp)) pos.line X.env = pure false := by rfl) :
    TL1 X R (.Assign [.Subscript o i tp] e pos) R (fun e => P e ∧ Pi (g e) ∧ (get (g e)).length < LIM) (fun e => set (g e) (dput (get (g e)) (fi (g e)) (f e))) := by
  obtain ⟨t, h1, h2⟩ := hv
  obtain ⟨ti, i1, i2⟩ := hi
  obtain ⟨jj, q, te, rd, hj, o1, o2⟩ := hl
  refine ⟨_, ps_dput hu o1 i1 h1 hs, fun w H σ env D G qq hP k => h2 w H σ env _ G qq hP.1 fun v w1 H1 p1 hv => ?_⟩
  obtain ⟨v0, e1, e2, e3, e4, e5⟩ := o2 w1 H1 σ _ p1.good p1.env
  refine e2 _ (i2 w1 H1 σ _ _ p1.good p1.env hP.2.1 fun iv w2 H2 p2 hiv => ?_)
  have f2 := o2.again p2 (.inl rfl) e4 e5
  obtain ⟨c, kvs, z1, z2, z3, z4, z5, z6⟩ := f2.here
  cases z1
  have hlen : kvs.length < LIM := by
    rw [Paired.length z4]
    exact hP.2.2
  obtain ⟨a1, a2⟩ := foc_upd (u := .dK (putK kvs (kk.key (fi (g env))) v)) (x := dput (get (g env)) (fi (g env)) (f env)) hj p2.good f2 z2 ⟨c, _, rfl, z2, upd_same, by
    rw [fz_tag z2]
    exact drel_put (s.mono p2.sm (Up.up (lv := lv) _ _ _ _ hv)) z5 z4, dput_nodup z5, Nat.le_trans dput_len hP.2.2⟩
  exact ⟨c, _, rfl, .inl ⟨kvs, _, z3, hkk _ _ _ hiv, Nat.lt_of_lt_of_le hlen (by decide), rfl⟩, k w2 _ σ (p1.aft.trans (p2.aft.trans a1)) a2⟩
/-- del d[k] -/
theorem tl_ddel {fi : E → κ} {get : E → List (κ × β)} {set : E → List (κ × β) → E} (hl : TL X R o (od kk s) st get set) (hkk : ∀ H v x, rk.rep H v x → v = kV (kk.key x)) (hi : TX X R i rk li true Pi fi fun e => e) :
    TL1 X R (.Delete [.Subscript o i tp] pos) R (fun e => Pi e ∧ (dget (get e) (fi e)).isSome = true) (fun e => set e (ddel (get e) (fi e))) := by
  obtain ⟨ti, i1, i2⟩ := hi
  obtain ⟨jj, q, te, rd, hj, o1, o2⟩ := hl
  refine ⟨_, ps_ddel o1 i1, fun w H σ env D G qq hP k => ?_⟩
  obtain ⟨v0, e1, e2, e3, e4, e5⟩ := o2 w H σ _ G qq
  refine e2 _ (i2 w H σ _ _ G qq hP.1 fun iv w2 H2 p2 hiv => ?_)
  have f2 := o2.again p2 (.inl rfl) e4 e5
  obtain ⟨c, kvs, z1, z2, z3, z4, z5, z6⟩ := f2.here
  cases z1
  have hsome : (valV kvs (kk.key (fi env))).isSome = true := by
    rcases drel_get (k := fi env) z4 with ⟨q1, q2⟩ | ⟨x, u, q1, q2, _⟩
    · have := hP.2
      rw [q1] at this
      cases this
    · rw [q2]
      rfl
  obtain ⟨a1, a2⟩ := foc_upd (u := .dK (dropK kvs (kk.key (fi env)))) (x := ddel (get env) (fi env)) hj p2.good f2 z2 ⟨c, _, rfl, z2, upd_same, by
    rw [fz_tag z2]
    exact drel_del z4, (List.filter_sublist.map _).nodup z5, Nat.le_trans (List.length_filter_le _ _) z6⟩
  exact ⟨c, kvs, _, rfl, z3, hkk _ _ _ hiv, hsome, k w2 _ σ (p2.aft.trans a1) a2⟩
/-- xs.append(e) -/
theorem tl_appendT {f : E → α} {get : E → List α} {set : E → List α → E} (hl : TL X R o (ol r) st get set) (h : TAs X R [e] (tp1 r) lv p P f g) [Up lv r] (hp : p = true ∨ st = true) {ap cp : Pos}
    (hbm : ∀ to ta, PE X o to → PA X [e] ta → PE X (.Call (.Attribute o "append" ap) [e] [] cp) (tBM X.K "list" rAppend to ta)) (hs : swapsWith (.Call (.Attribute o "append" ap) [e] [] cp) none pos.line X.env = pure false := by rfl) :
    TL1 X R (.Expr (.Call (.Attribute o "append" ap) [e] [] cp) pos) R (fun e => P e ∧ (get (g e)).length < LIM) (fun e => set (g e) (get (g e) ++ [f e])) := by
  obtain ⟨ta, h1, h2⟩ := h
  obtain ⟨jj, q, te, rd, hj, o1, o2⟩ := hl
  refine ⟨_, ps_expr (hbm _ _ o1 h1) hs, fun w H σ env D G qq hP k => ?_⟩
  obtain ⟨v0, e1, e2, e3, e4, e5⟩ := o2 w H σ _ G qq
  obtain ⟨a, vs, z0, _, g4, _, _⟩ := e3.here
  cases z0
  refine e2 _ ⟨.inl ⟨rfl, vs, SqL.of g4⟩, h2 w H σ env _ G qq hP.1 fun us w' H' p2 hv => ?_⟩
  obtain ⟨v, rfl, hv⟩ := hv
  have f2 := o2.again p2 hp e4 e5
  obtain ⟨c, vs', z1, z2, z3, z4, z5⟩ := f2.here
  cases z1
  have hlen : (get (g env) ++ [f env]).length ≤ LIM := by
    rw [List.length_append, List.length_singleton]
    exact hP.2
  obtain ⟨a1, a2⟩ := foc_upd (u := .lst (vs' ++ [v])) (x := get (g env) ++ [f env]) hj p2.good f2 z2 ⟨a, _, rfl, z2, upd_same, by
    rw [fz_tag z2]
    exact paired_snoc (Up.up (lv := lv) _ _ _ _ hv) z4, hlen⟩
  exact ⟨a, vs', v, rfl, rfl, z3, Nat.lt_of_lt_of_le (by rw [Paired.length z4]; exact hP.2) (by decide), k w' _ σ (p2.aft.trans a1) a2⟩
end
/-! ### x += e -/
section
variable {X : Cx} {E E1 : Type} {R : ER E} {R1 : ER E1} {pos xp : Pos} {e : Expr} {lv p : Bool} {P : E → Prop} {g : E → E} {i : Nat} {x : Str}
theorem tl_aug {op : Operator} {h : Int → Int → Int} {f : E → Int} {get : E → Int} {set : E → Int → E} {put : E → Int → E1} (ho : PIp X op (ipI h)) (hv : TX X R e rInt lv p P f g) (hh : Has R i (fr rInt) get set) (hp : Put R i (fr rInt) R1 put) (hN : X.N.Nodup) (hi : X.N[i]? = some x) (hx : Loc X.env.scope x)
    (hf : X.fn x = true ∨ X.env.scope.names.lookup x = some .local := by first | exact .inl rfl | exact .inr rfl) : TL1 X R (.AugAssign (.Name x xp) op e pos) R1 P (fun e => put (g e) (h (get e) (f e))) := by
  obtain ⟨t, h1, h2⟩ := hv
  refine ⟨_, ps_aug hN hi hx h1 ho hf, fun w H σ env D G q hP k => ?_⟩
  obtain ⟨o, g1, v, rfl, g3⟩ := hh.get q
  refine ⟨v, g1, h2 w H σ env _ G q hP fun u w' H' hpo hu => ?_⟩
  exact ⟨get env, f env, g3, hu, k w' H' _ hpo.aft (put_read hp hpo.env ⟨_, rfl, rfl⟩)⟩
end
/-! ### xs + ys -/
theorem paired_app {δ α : Type} {F : δ → α → Prop} : ∀ {vs us : List δ} {xs ys : List α}, Paired F vs xs → Paired F us ys → Paired F (vs ++ us) (xs ++ ys)
  | _, _, _, _, .nil, h => h
  | _, _, _, _, .cons a t, h => .cons a (paired_app t h)
section
variable {X : Cx} {E : Type} {R : ER E} {pos np : Pos} {α β : Type} {r : Rp α} {a b : Expr} {la lb pa pb : Bool} {Pa Pb : E → Prop} {ga gb : E → E}
theorem tn_cat {fa fb : E → List α} [Up la r] [Up lb r] (ha : TX X R a (rList r) la pa Pa fa ga) (hb : TX X R b (rList r) lb pb Pb fb gb) (hl : (la || pb) = true := by rfl) :
    TN X R (.BinOp a .Add b pos) r (pa && pb) (fun e => Pa e ∧ Pb (ga e) ∧ (fa e).length + (fb (ga e)).length ≤ LIM) (fun e => fa e ++ fb (ga e)) (fun e => gb (ga e)) := by
  obtain ⟨t, h1, h2⟩ := ha
  obtain ⟨u, k1, k2⟩ := hb
  refine ⟨_, pe_op op_cat h1 k1, fun w H σ env Q G q hP k => h2 w H σ env _ G q hP.1 fun v w' H' p hv => k2 w' H' σ _ _ p.good p.env hP.2.1 fun x w2 H2 p2 hx => ?_⟩
  obtain ⟨c, vs, e1, e2, e3, e4⟩ := (rList r).mono (p2.vw hl) hv
  obtain ⟨d, us, d1, d2, d3, d4⟩ := hx
  have l1 := Paired.length e3
  have l2 := Paired.length d3
  refine ⟨c, d, vs, us, e1, d1, vw_le.lst e2, vw_le.lst d2, by rw [l1, l2]; exact lim_size hP.2.2, fun b hb => k b _ w2 H2 hb (p.trans p2) ?_ (by rw [List.length_append]; exact hP.2.2)⟩
  exact paired_app (paired_mono (fun _ _ z => Up.up (lv := la) _ _ _ _ z) e3) (paired_mono (fun _ _ z => Up.up (lv := lb) _ _ _ _ z) d3)
end
end Lmo
end
section
set_option Elab.async false
set_option linter.all false
set_option maxRecDepth 100000
set_option maxHeartbeats 4000000
namespace Lmo
open PySem L2
open PyProof.Rows (envOfC)
/-! ### powers -/
theorem op_powX {X : Cx} : OpR X (binaryOp .Pow) (rI CPowX fun i j => .int (i ^ j.toNat)) := opI fun _ _ _ _ _ _ _ hc q => PyProof.Rows.pow_int hc.1 (by have := hc.2; omega) q
theorem o_pow {X : Cx} : OpF X (binaryOp .Pow) rInt rInt rInt CPowX fun i j => i ^ j.toNat := of_I op_powX fun _ _ _ => rfl
/-! ### sorted(set(xs)) -/
theorem strict_uniq : ∀ {xs ys : List Int}, (∀ x, x ∈ xs ↔ x ∈ ys) → xs.Pairwise (· < ·) → ys.Pairwise (· < ·) → xs = ys
  | [], [], _, _, _ => rfl
  | [], y :: ys, h, _, _ => absurd ((h y).mpr List.mem_cons_self) (by simp)
  | x :: xs, [], h, _, _ => absurd ((h x).mp List.mem_cons_self) (by simp)
  | x :: xs, y :: ys, h, h1, h2 => by
    obtain ⟨a1, a2⟩ := List.pairwise_cons.mp h1
    obtain ⟨b1, b2⟩ := List.pairwise_cons.mp h2
    have e : x = y := by
      rcases List.mem_cons.mp ((h x).mp List.mem_cons_self) with e | hx
      · exact e
      · rcases List.mem_cons.mp ((h y).mpr List.mem_cons_self) with e | hy
        · exact e.symm
        · have := a1 y hy
          have := b1 x hx
          omega
    subst e
    rw [strict_uniq (fun z => ?_) a2 b2]
    have := h z
    rw [List.mem_cons, List.mem_cons] at this
    constructor
    · intro hz
      rcases this.mp (.inr hz) with e | k
      · have := a1 z hz
        omega
      · exact k
    · intro hz
      rcases this.mpr (.inr hz) with e | k
      · have := b1 z hz
        omega
      · exact k
/-- without doubles, in order -/
def uniq (xs : List Int) : List Int := (srt xs).foldr (fun x r => if r.head? = some x then r else x :: r) []
theorem uniq_go : ∀ (xs : List Int), xs.Pairwise (· ≤ ·) → (xs.foldr (fun x r => if r.head? = some x then r else x :: r) []).Pairwise (· < ·) ∧ ∀ y, y ∈ xs.foldr (fun x r => if r.head? = some x then r else x :: r) [] ↔ y ∈ xs
  | [], _ => ⟨List.Pairwise.nil, fun _ => Iff.rfl⟩
  | x :: xs, h => by
    obtain ⟨a1, a2⟩ := List.pairwise_cons.mp h
    obtain ⟨i1, i2⟩ := uniq_go xs a2
    rw [List.foldr_cons]
    generalize xs.foldr (fun x r => if r.head? = some x then r else x :: r) [] = r at i1 i2 ⊢
    by_cases e : r.head? = some x
    · rw [if_pos e]
      refine ⟨i1, fun y => ?_⟩
      rw [List.mem_cons, i2]
      constructor
      · exact .inr
      · rintro (rfl | h)
        · exact (i2 y).mp (List.mem_of_mem_head? (by rw [e]; rfl))
        · exact h
    · rw [if_neg e]
      refine ⟨List.pairwise_cons.mpr ⟨fun y hy => ?_, i1⟩, fun y => by rw [List.mem_cons, List.mem_cons, i2]⟩
      have h1 := a1 y ((i2 y).mp hy)
      rcases Int.lt_or_eq_of_le h1 with h2 | h2
      · exact h2
      · exfalso
        cases r with
        | nil => cases hy
        | cons z zs =>
          obtain ⟨b1, _⟩ := List.pairwise_cons.mp i1
          have hz := a1 z ((i2 z).mp List.mem_cons_self)
          rcases List.mem_cons.mp hy with e2 | hy
          · exact e (by rw [h2, e2]; rfl)
          · have := b1 y hy
            omega
theorem uniq_lt (xs : List Int) : (uniq xs).Pairwise (· < ·) := (uniq_go _ (srt_pair xs)).1
theorem mem_uniq {xs : List Int} {y : Int} : y ∈ uniq xs ↔ y ∈ xs := by
  unfold uniq
  rw [(uniq_go _ (srt_pair xs)).2, (srt_perm xs).mem_iff]
theorem nodup_le : ∀ {xs ys : List Int}, xs.Nodup → (∀ x ∈ xs, x ∈ ys) → xs.length ≤ ys.length
  | [], _, _, _ => Nat.zero_le _
  | x :: xs, ys, h, k => by
    obtain ⟨h1, h2⟩ := List.nodup_cons.mp h
    have hx := k x List.mem_cons_self
    have := nodup_le (xs := xs) (ys := ys.erase x) h2 fun y hy => (List.mem_erase_of_ne fun z => h1 (by rw [← z]; exact hy)).mpr (k y (List.mem_cons_of_mem _ hy))
    rw [List.length_erase_of_mem hx] at this
    have := List.length_pos_of_mem hx
    rw [List.length_cons]
    omega
theorem lt_nodup {xs : List Int} (h : xs.Pairwise (· < ·)) : xs.Nodup := h.imp fun h e => by omega
theorem uniq_len (xs : List Int) : (uniq xs).length ≤ xs.length := nodup_le (lt_nodup (uniq_lt xs)) fun _ h => mem_uniq.mp h
section
variable {X : Cx} {E : Type} {R : ER E} {pos np cp sp : Pos} {e : Expr} {lv p : Bool} {P : E → Prop} {g : E → E}
theorem tn_sortSet {f : E → List Int} (hc : X.calm = true) (ha : TAs X R [e] (tp1 (rList rInt)) lv p P f g) (hg : Gl X "sorted") (hm : X.mg "sorted" = none) (hg2 : Gl X "set") (hm2 : X.mg "set" = none) (hv : bootBuiltins "sorted" = some (.builtin "sorted") := by first | rfl | decide +kernel) (hv2 : bootBuiltins "set" = some (.type "set") := by first | rfl | decide +kernel)
    (he : starEach [e] X.env = (false, eval e X.env) :: starEach [] X.env := by rfl) (he2 : starEach [.Call (.Name "set" sp) [e] [] cp] X.env = (false, eval (.Call (.Name "set" sp) [e] [] cp) X.env) :: starEach [] X.env := by rfl) :
    TN X R (.Call (.Name "sorted" np) [.Call (.Name "set" sp) [e] [] cp] [] pos) rInt p (fun e => P e ∧ (f e).length < 64) (fun e => uniq (f e)) g := by
  obtain ⟨ta, h1, h2⟩ := ha
  refine ⟨_, pe_callB (cr_sortedSet hc) hg hm hv (pa_cons (pe_callTy (cr_setL hc) hg2 hm2 hv2 h1 (by decide) (by decide) he rfl) pa_nil he2) (by decide) (by decide) he2 rfl, fun w H σ env Q G q hP k => h2 w H σ env _ G q hP.1 fun vs w' H' hp hr => ?_⟩
  obtain ⟨v, rfl, a, us, rfl, z2, z3, z4⟩ := hr
  rw [paired_int z3] at z2
  refine ⟨a, f env, rfl, SqL.of (vw_le.lst z2), hP.2, fun b c hb hcl => ⟨b, _, c, rfl, upd_same, by have := hP.2; omega, fun ns d hs hm hl hd => ?_⟩⟩
  have en : ns = uniq (f env) := strict_uniq (fun z => by rw [hm, mem_uniq]; simp) hs (uniq_lt _)
  subst en
  have hdb : d ≠ b := fun z => by rw [z, upd_same] at hd; cases hd
  have p2 : Post true R w' H' w' (upd H' b (SetO X.w b (fun j => decide (j ∈ f env)) c)) σ (g env) := .new hp.good hp.env hb
  exact k d _ w' _ hd ((hp.trans p2).weak (by simp)) (paired_ints _) (Nat.le_trans (uniq_len _) (by rw [show LIM = 1000000 from rfl]; omega))
end
/-! ### sorted(d), list(d), dict(..) -/
section
variable {X : Cx} {κ β : Type} [DecidableEq κ] {kk : Kp κ} {s : Rp β}
theorem drel_keysI {H : Hp} {kvs : List (Key × V)} {d : List (Int × β)} (h : DRel kInt s H kvs d) : kvs.map (·.1) = (d.map (·.1)).map Sum.inl := by
  rw [drel_keys h, List.map_map]
  rfl
theorem c_sortD (hc : X.calm = true) : CalN X (.builtin "sorted") (tp1 (rDict kInt s)) rInt (fun d => d.length < 64) fun d => srt (d.map (·.1)) := ⟨_, call_sortedDI hc, fun K H vs d Q l h c => by
  obtain ⟨v, rfl, a, o, kvs, rfl, h2, h3, h4, h5, h6⟩ := h
  refine ⟨by rw [(srt_perm _).length_eq, List.length_map]; exact h6, fun k => ?_⟩
  obtain ⟨o', e1, e2⟩ := l.get h2
  refine ⟨a, kvs, d.map (·.1), rfl, rd_nrm e1 (e2.trans h3), drel_keysI h4, by rw [List.length_map]; exact c, fun ys b hp hs hb => ?_⟩
  rw [sorted_uniq (hp.trans (srt_perm _).symm) hs (srt_pair _)]
  exact k b _ hb (paired_ints _)⟩
theorem paired_keys {H : Hp} {rk : Rp κ} (hk : ∀ x, rk.rep H (kV (kk.key x)) x) : ∀ {kvs : List (Key × V)} {d : List (κ × β)}, DRel kk s H kvs d → Paired (rk.rep H) (kvs.map fun kv => kV kv.1) (d.map (·.1))
  | _, _, .nil => .nil
  | _, _, .cons (a := a) (b := b) h t => .cons (by
    show rk.rep H (kV a.1) b.1
    rw [h.1]
    exact hk _) (paired_keys hk t)
theorem c_listD {rk : Rp κ} (hc : X.calm = true) (hk : ∀ H x, rk.rep H (kV (kk.key x)) x) : CalN X (.type "list") (tp1 (rDict kk s)) rk (fun _ => True) fun d => d.map (·.1) := ⟨_, call_listD hc, fun K H vs d Q l h _ => by
  obtain ⟨v, rfl, a, o, kvs, rfl, h2, h3, h4, h5, h6⟩ := h
  refine ⟨by rw [List.length_map]; exact h6, fun k => ?_⟩
  obtain ⟨o', e1, e2⟩ := l.get h2
  exact ⟨a, kvs, rfl, rd_nrm e1 (e2.trans h3), fun b hb => k b _ hb (paired_keys (hk K) h4)⟩⟩
def dmerge (d : List (κ × β)) (l : List (κ × β)) : List (κ × β) := l.foldl (fun d q => dput d q.1 q.2) d
theorem dmerge_nodup : ∀ {l d : List (κ × β)}, (d.map (·.1)).Nodup → ((dmerge d l).map (·.1)).Nodup
  | [], _, h => h
  | q :: l, d, h => dmerge_nodup (l := l) (d := dput d q.1 q.2) (dput_nodup h)
theorem dmerge_len : ∀ {l d : List (κ × β)}, (dmerge d l).length ≤ d.length + l.length
  | [], d => Nat.le_refl _
  | q :: l, d => by
    have h1 := dmerge_len (l := l) (d := dput d q.1 q.2)
    have h2 := dput_len (k := q.1) (x := q.2) (d := d)
    show (dmerge (dput d q.1 q.2) l).length ≤ d.length + (l.length + 1)
    omega
theorem drel_merge {H : Hp} : ∀ {more : List (Key × V)} {l : List (κ × β)} {kvs : List (Key × V)} {d : List (κ × β)}, DRel kk s H more l → (d.map (·.1)).Nodup → DRel kk s H kvs d → DRel kk s H (mergeK kvs more) (dmerge d l)
  | _, _, _, _, .nil, _, h => h
  | (k, v) :: more, q :: l, kvs, d, .cons a t, hn, h => by
    obtain ⟨a1, a2⟩ := a
    have a1 : k = kk.key q.1 := a1
    show DRel kk s H (mergeK (putK kvs k v) more) (dmerge (dput d q.1 q.2) l)
    rw [a1]
    exact drel_merge t (dput_nodup hn) (drel_put a2 hn h)
variable {E : Type} {R : ER E} {pos np : Pos} {e : Expr} {es : List Expr} {lv p : Bool} {P : E → Prop} {g : E → E}
theorem paired_mono2 {α γ : Type} {F G : α → γ → Prop} (h : ∀ a c, F a c → G a c) : ∀ {xs : List α} {ys : List γ}, Paired F xs ys → Paired G xs ys
  | _, _, .nil => .nil
  | _, _, .cons a t => .cons (h _ _ a) (paired_mono2 h t)
theorem pairs_split {H : Hp} {rk : Rp κ} (hk : ∀ H v x, rk.rep H v x → v = kV (kk.key x)) : ∀ {vs : List V} {l : List (κ × β)}, Paired ((rPair rk s).rep H) vs l → ∃ (as : List Addr) (kvs : List (Key × V)), vs = as.map V.ref ∧ Paired (fun a (kv : Key × V) => H a = some (.tup [kV kv.1, kv.2])) as kvs ∧ DRel kk s H kvs l
  | _, _, .nil => ⟨[], [], rfl, .nil, .nil⟩
  | _, _, .cons (b := q) h t => by
    obtain ⟨a, vs, rfl, h2, v, us, rfl, h3, u, rfl, h4⟩ := h
    obtain ⟨as, kvs, rfl, k2, k3⟩ := pairs_split hk t
    exact ⟨a :: as, (kk.key q.1, u) :: kvs, rfl, .cons (by rw [← hk _ _ _ h3]; exact h2) k2, .cons ⟨rfl, h4⟩ k3⟩
theorem up_drel [Up lv s] {w : Own} {H : Hp} : ∀ {kvs : List (Key × V)} {d : List (κ × β)}, DRel kk s (vw lv w H) kvs d → DRel kk s (fz w H) kvs d
  | _, _, .nil => .nil
  | _, _, .cons h t => .cons ⟨h.1, Up.up (lv := lv) _ _ _ _ h.2⟩ (up_drel t)
/-- dict(xs) of pairs -/
theorem tm_dictP {f : E → List (κ × β)} {rk : Rp κ} (hk : ∀ H v x, rk.rep H v x → v = kV (kk.key x)) [Up lv s] (hc : X.calm = true) (hg : Gl X "dict") (hm : X.mg "dict" = none) (ha : TAs X R [e] (tp1 (rList (rPair rk s))) lv p P f g) (hv : bootBuiltins "dict" = some (.type "dict") := by first | rfl | decide +kernel)
    (he : starEach [e] X.env = (false, eval e X.env) :: starEach [] X.env := by rfl) : TM X R (.Call (.Name "dict" np) [e] [] pos) kk s p P (fun e => dmerge [] (f e)) g := by
  obtain ⟨ta, h1, h2⟩ := ha
  refine ⟨_, pe_callTy (call_dictP hc) hg hm hv h1 (by decide) (by decide) he rfl, fun w H σ env Q G q hP k => h2 w H σ env _ G q hP fun vs w' H' hp hr => ?_⟩
  obtain ⟨v, rfl, a, us, rfl, z2, z3, z4⟩ := hr
  obtain ⟨as, kvs, rfl, k2, k3⟩ := pairs_split hk z3
  refine ⟨a, as, kvs, rfl, SqL.of (vw_le.lst z2), paired_mono2 (fun a kv h => SqT.of (vw_le.tup h)) k2, fun b hb => k b _ w' H' hb hp (drel_merge (up_drel (lv := lv) k3) List.nodup_nil .nil) (dmerge_nodup List.nodup_nil) ?_⟩
  exact Nat.le_trans dmerge_len (by rw [List.length_nil, Nat.zero_add]; exact z4)
/-- dict(d): a copy -/
theorem tm_dictD {f : E → List (κ × β)} [Up lv s] (hg : Gl X "dict") (hm : X.mg "dict" = none) (ha : TAs X R [e] (tp1 (rDict kk s)) lv p P f g) (hv : bootBuiltins "dict" = some (.type "dict") := by first | rfl | decide +kernel)
    (he : starEach [e] X.env = (false, eval e X.env) :: starEach [] X.env := by rfl) : TM X R (.Call (.Name "dict" np) [e] [] pos) kk s p P f g := by
  obtain ⟨ta, h1, h2⟩ := ha
  refine ⟨_, pe_callTy call_dictD hg hm hv h1 (by decide) (by decide) he rfl, fun w H σ env Q G q hP k => h2 w H σ env _ G q hP fun vs w' H' hp hr => ?_⟩
  obtain ⟨v, rfl, a, o, kvs, rfl, z2, z3, z4, z5, z6⟩ := hr
  obtain ⟨o', e1, e2⟩ := vw_le.get z2
  exact ⟨a, kvs, rfl, rd_nrm e1 (e2.trans z3), fun b hb => k b _ w' H' hb hp (up_drel (lv := lv) z4) z5 z6⟩
end
end Lmo
end
section
set_option Elab.async false
set_option linter.all false
set_option maxRecDepth 100000
set_option maxHeartbeats 4000000
namespace Lmo
open PySem PySem.Spec PyProof.Rows L2
/-! ### what a dict holds, as a list; its sum -/
section
variable {X : Cx} {e : Expr} {td : TE} {np ap cp pos : Pos}
def tIL (te : TE) : TE := fun σ H Q => te σ H fun x H1 => ∃ (d : Addr) (kvs : List (Key × V)), x = .ref d ∧ Rd H1 d (.dK kvs) ∧
  ∀ (H' : Hp) (b : Addr) (ts : List Addr), (∀ c o, H1 c = some o → H' c = some o) → H1 b = none → (∀ t ∈ ts, H1 t = none) → b ∉ ts → H' b = some (.lst (ts.map V.ref)) → Paired (fun (t : Addr) (q : Key × V) => H' t = some (.tup [kV q.1, q.2])) ts kvs → Q (.ref b) H'
def tVL (te : TE) : TE := fun σ H Q => te σ H fun x H1 => ∃ (d : Addr) (kvs : List (Key × V)), x = .ref d ∧ Rd H1 d (.dK kvs) ∧ ∀ b, H1 b = none → Q (.ref b) (upd H1 b (.lst (kvs.map (·.2))))
def tVS (te : TE) : TE := fun σ H Q => te σ H fun x H1 => ∃ (d : Addr) (kvs : List (Key × V)), x = .ref d ∧ Rd H1 d (.dK kvs) ∧ ∃ zs : List Int, kvs.map (·.2) = zs.map V.int ∧ Q (.int zs.sum) H1
/-- f(e.items()), f a type's or a built-in's call with one argument: to the view -/
theorem view_items {pins : List (Addr × Obj)} {s : Shared} {σ : L2.St} {H : Hp} {QQ : Value → Shared → Prop} {Qd : Addr → List (Key × V) → Hp → Prop} (he : PE X e td) (I : Inv X pins σ H s) (hb : attributeBase e "items" X.env (eval e X.env) = eval e X.env) (hl : (ap.endLine == cp.line) = true)
    (hq : td σ H fun x H1 => ∃ (d : Addr) (kvs : List (Key × V)), x = .ref d ∧ Rd H1 d (.dK kvs) ∧ Qd d kvs H1)
    (k : ∀ (s1 : Shared) (H1 : Hp) (d : Addr) (kvs : List (Key × V)) (vs : List (Key × Value)) (ep : Nat), Inv X pins σ H1 s1 → kvs.length ≤ sizeLine → KV kvs vs → s1.heap.DictAt (mixKind X.prog X.w) d vs ep → Qd d kvs H1 →
      Inv X pins σ H1 { s1 with heap := s1.heap.push { cls := .type "dict_items", data := .fields #[.ref d] } } → QQ (.ref s1.heap.objs.size) { s1 with heap := s1.heap.push { cls := .type "dict_items", data := .fields #[.ref d] } }) :
    wpAny (model X.prog X.w) X.A (eval (.Call (.Attribute e "items" ap) [] [] cp) X.env) QQ X.xe s := by
  refine wpAny_Call_method (T := "dict") (id := "dict.items") hb rfl hl F.plainAttrs_dict F.slot_dict_items F.type_dict_items (thn (he.run pins s σ H _ I hq) fun u s1 ⟨x, H1, I1, rx, d, kvs, hx, hd, qd⟩ => ?_)
  subst hx
  obtain rfl : u = Value.ref d := rx
  obtain ⟨lim, lo, vs, rel, dd⟩ := dk_rd I1.hok hd
  obtain ⟨ep, hat⟩ := dd.dictAt
  refine ⟨dd.typeIs, dd.mapOf.noDict, ?_⟩
  show wpAny (model X.prog X.w) X.A (callWith cp (.builtin "dict.items") [.ref d] [] []) QQ X.xe s1
  exact method_meetsIn F.slot_dict_items F.entry_dict_items rfl (PySem.evalArgs_none ⟨rfl, dd.typeIs, F.args_dict_items_1 _, _, meets_dict_items (mixKind X.prog X.w) d lo, ⟨vs, dd⟩, k s1 H1 d kvs vs ep I1 lim rel hat qd (I1.kept (t' := s1.toks) fun b ob q => Heap.get?_push_of_some _ q)⟩)
theorem view_values {pins : List (Addr × Obj)} {s : Shared} {σ : L2.St} {H : Hp} {QQ : Value → Shared → Prop} {Qd : Addr → List (Key × V) → Hp → Prop} (he : PE X e td) (I : Inv X pins σ H s) (hb : attributeBase e "values" X.env (eval e X.env) = eval e X.env) (hl : (ap.endLine == cp.line) = true)
    (hq : td σ H fun x H1 => ∃ (d : Addr) (kvs : List (Key × V)), x = .ref d ∧ Rd H1 d (.dK kvs) ∧ Qd d kvs H1)
    (k : ∀ (s1 : Shared) (H1 : Hp) (d : Addr) (kvs : List (Key × V)) (vs : List (Key × Value)) (ep : Nat), Inv X pins σ H1 s1 → kvs.length ≤ sizeLine → KV kvs vs → s1.heap.DictAt (mixKind X.prog X.w) d vs ep → Qd d kvs H1 →
      Inv X pins σ H1 { s1 with heap := s1.heap.push { cls := .type "dict_values", data := .fields #[.ref d] } } → QQ (.ref s1.heap.objs.size) { s1 with heap := s1.heap.push { cls := .type "dict_values", data := .fields #[.ref d] } }) :
    wpAny (model X.prog X.w) X.A (eval (.Call (.Attribute e "values" ap) [] [] cp) X.env) QQ X.xe s := by
  refine wpAny_Call_method (T := "dict") (id := "dict.values") hb rfl hl F.plainAttrs_dict F.slot_dict_values F.type_dict_values (thn (he.run pins s σ H _ I hq) fun u s1 ⟨x, H1, I1, rx, d, kvs, hx, hd, qd⟩ => ?_)
  subst hx
  obtain rfl : u = Value.ref d := rx
  obtain ⟨lim, lo, vs, rel, dd⟩ := dk_rd I1.hok hd
  obtain ⟨ep, hat⟩ := dd.dictAt
  refine ⟨dd.typeIs, dd.mapOf.noDict, ?_⟩
  show wpAny (model X.prog X.w) X.A (callWith cp (.builtin "dict.values") [.ref d] [] []) QQ X.xe s1
  exact method_meetsIn F.slot_dict_values F.entry_dict_values rfl (PySem.evalArgs_none ⟨rfl, dd.typeIs, F.args_dict_values_1 _, _, meets_dict_values (mixKind X.prog X.w) d lo, ⟨vs, dd⟩, k s1 H1 d kvs vs ep I1 lim rel hat qd (I1.kept (t' := s1.toks) fun b ob q => Heap.get?_push_of_some _ q)⟩)
theorem pe_il (hc : X.calm = true) (he : PE X e td) (hg : Gl X "list") (hm : X.mg "list" = none) (hv : bootBuiltins "list" = some (.type "list")) (hb : attributeBase e "items" X.env (eval e X.env) = eval e X.env) (hl : (ap.endLine == cp.line) = true)
    (hs : starEach [.Call (.Attribute e "items" ap) [] [] cp] X.env = (false, eval (.Call (.Attribute e "items" ap) [] [] cp) X.env) :: starEach [] X.env) : PE X (.Call (.Name "list" np) [.Call (.Attribute e "items" ap) [] [] cp] [] pos) (tIL td) := by
  refine ⟨fun pins s σ H Q I hq => wpAny_Call_Name_kw (ld_blt I hg hm hv (callWith_type1 ?_ hs rfl))⟩
  rw [hs]
  show wpAny (model X.prog X.w) X.A (spliced ((false, eval (.Call (.Attribute e "items" ap) [] [] cp) X.env) :: backTo pos (starEach [] X.env))) _ _ s
  refine Calls.spliced_cons (view_items he I hb hl hq fun s1 H1 d kvs vs ep I1 lim rel hat qd I2 => Calls.spliced_nil ?_)
  have hlen : kvs.length = vs.length := Paired.length rel
  refine PySem.W.kdx_call (knd := mixKind X.prog X.w) (kvs := vs) (ep := ep) (I1.ok.hd hc) ⟨_, Heap.get?_push_size _ rfl, rfl, rfl⟩ (hat.push _) (by omega) fun h' tk acc c as k1 k2 k3 k4 k5 => ?_
  obtain ⟨H', j1, j2, j3, j4, j5, j6, J⟩ := LiI.items_laid (tk := tk) I2 lim rel k1 k2 k3 k4 k5
  exact ⟨.ref _, H', J, rfl, qd H' _ as j1 j2 j3 j4 j5 j6⟩
theorem paired_at2 {δ γ : Type} {F : δ → γ → Prop} : ∀ {xs : List δ} {ys : List γ} {i : Nat} {y : γ}, Paired F xs ys → ys[i]? = some y → ∃ x, xs[i]? = some x ∧ F x y
  | _, _, _, _, .nil, h => by simp at h
  | _, _, 0, y, .cons a t, h => by
    simp at h
    subst h
    exact ⟨_, rfl, a⟩
  | _, _, i + 1, y, .cons a t, h => by
    obtain ⟨x, h1, h2⟩ := paired_at2 (i := i) (y := y) t (by simpa using h)
    exact ⟨x, by simpa using h1, h2⟩
theorem vals_of : ∀ {kvs : List (Key × V)} {vs : List (Key × Value)}, KV kvs vs → ∀ {us : List Value}, us.length = vs.length → (∀ (j : Nat) (v : Value), us[j]? = some v → ∃ k, vs[j]? = some (k, v)) → Vals (kvs.map (·.2)) us
  | _, _, .nil, [], _, _ => .nil
  | _, _, .nil, _ :: _, h, _ => by simp at h
  | _, _, .cons h t, [], hl, _ => by simp at hl
  | _, _, .cons (b := q) h t, u :: us, hl, hu => by
    obtain ⟨k, e⟩ := hu 0 u rfl
    have e' : q = (k, u) := by simpa using e
    refine .cons ?_ (vals_of t (by simpa using hl) fun j v hv => ?_)
    · have := h.2
      rw [e'] at this
      exact this
    · obtain ⟨k, e⟩ := hu (j + 1) v (by simpa using hv)
      exact ⟨k, by simpa using e⟩
theorem pe_vl (hc : X.calm = true) (he : PE X e td) (hg : Gl X "list") (hm : X.mg "list" = none) (hv : bootBuiltins "list" = some (.type "list")) (hb : attributeBase e "values" X.env (eval e X.env) = eval e X.env) (hl : (ap.endLine == cp.line) = true)
    (hs : starEach [.Call (.Attribute e "values" ap) [] [] cp] X.env = (false, eval (.Call (.Attribute e "values" ap) [] [] cp) X.env) :: starEach [] X.env) : PE X (.Call (.Name "list" np) [.Call (.Attribute e "values" ap) [] [] cp] [] pos) (tVL td) := by
  refine ⟨fun pins s σ H Q I hq => wpAny_Call_Name_kw (ld_blt I hg hm hv (callWith_type1 ?_ hs rfl))⟩
  rw [hs]
  show wpAny (model X.prog X.w) X.A (spliced ((false, eval (.Call (.Attribute e "values" ap) [] [] cp) X.env) :: backTo pos (starEach [] X.env))) _ _ s
  refine Calls.spliced_cons (view_values he I hb hl hq fun s1 H1 d kvs vs ep I1 lim rel hat qd I2 => Calls.spliced_nil ?_)
  have hlen : kvs.length = vs.length := Paired.length rel
  refine PySem.W.kdl_call (PySem.W.kdl_values (knd := mixKind X.prog X.w) (kvs := vs) (ep := ep)) (I1.ok.hd hc) ⟨⟨_, Heap.get?_push_size _ rfl, rfl, rfl⟩, hat.push _⟩ (by omega) fun h' tk acc c k1 k2 k3 => ?_
  have hvs : Vals (kvs.map (·.2)) acc.toList := vals_of rel (by rw [Array.length_toList]; exact k3.1) fun j v hv => k3.2 j v (by rw [← Array.getElem?_toList]; exact hv)
  have J := I2.laid (o := .lst (kvs.map (·.2))) (t' := tk) k1 (Nat.le_refl _) ⟨by rw [List.length_map]; exact lim, acc.toList, c, hvs, by rw [Array.toArray_toList]; exact k2⟩
  exact ⟨.ref _, _, J, rfl, qd _ (I2.hok.fresh (Nat.le_refl _))⟩
theorem pre_sum {zs : List Int} : ∀ {n : Nat}, n ≤ zs.length → preSum (fun i => zs.getD i 0) n = (zs.take n).sum
  | 0, _ => by simp [preSum]
  | n + 1, h => by
    have ih := pre_sum (zs := zs) (n := n) (by omega)
    rw [List.take_succ, List.sum_append, ← ih]
    show preSum _ n + zs.getD n 0 = _
    rw [List.getD_eq_getElem?_getD]
    have : zs[n]? = some zs[n] := List.getElem?_eq_getElem (by omega)
    rw [this]
    simp
theorem pe_vs (hc : X.calm = true) (he : PE X e td) (hg : Gl X "sum") (hm : X.mg "sum" = none) (hv : bootBuiltins "sum" = some (.builtin "sum")) (hb : attributeBase e "values" X.env (eval e X.env) = eval e X.env) (hl : (ap.endLine == cp.line) = true)
    (hs : starEach [.Call (.Attribute e "values" ap) [] [] cp] X.env = (false, eval (.Call (.Attribute e "values" ap) [] [] cp) X.env) :: starEach [] X.env) : PE X (.Call (.Name "sum" np) [.Call (.Attribute e "values" ap) [] [] cp] [] pos) (tVS td) := by
  refine ⟨fun pins s σ H Q I hq => wpAny_Call_Name_kw (ld_blt I hg hm hv (callWith_builtin1 ?_ hs rfl))⟩
  rw [hs]
  show wpAny (model X.prog X.w) X.A (spliced ((false, eval (.Call (.Attribute e "values" ap) [] [] cp) X.env) :: backTo pos (starEach [] X.env))) _ _ s
  refine Calls.spliced_cons (view_values (Qd := fun d kvs H1 => ∃ zs : List Int, kvs.map (·.2) = zs.map V.int ∧ Q (.int zs.sum) H1) he I hb hl hq fun s1 H1 d kvs vs ep I1 lim rel hat ⟨zs, hz, qd⟩ I2 => Calls.spliced_nil ?_)
  have hlen : kvs.length = vs.length := Paired.length rel
  have hzl : zs.length = vs.length := by
    have := congrArg List.length hz
    rw [List.length_map, List.length_map] at this
    omega
  have K := PySem.W.kdl_values (prog := X.prog) (w := X.w) (knd := mixKind X.prog X.w) (kvs := vs) (ep := ep) (r := s1.heap.objs.size) (d := d)
  have hok : (s1.heap.push { cls := .type "dict_values", data := .fields #[.ref d] }).IsValuesView s1.heap.objs.size d ∧ (s1.heap.push { cls := .type "dict_values", data := .fields #[.ref d] }).DictAt (mixKind X.prog X.w) d vs ep := ⟨⟨_, Heap.get?_push_size _ rfl, rfl, rfl⟩, hat.push _⟩
  refine call_sum_walkAnyS ?_
  generalize hs2 : ({ s1 with heap := s1.heap.push { cls := .type "dict_values", data := .fields #[.ref d] } } : Shared) = s2 at I2 ⊢
  have hok2 : s2.heap.IsValuesView s1.heap.objs.size d ∧ s2.heap.DictAt (mixKind X.prog X.w) d vs ep := by rw [← hs2]; exact hok
  obtain ⟨oI, St, hit, W, st⟩ := K.iter X.A.in1 s2 (I1.ok.hd hc) hok2
  have sz : d < s2.heap.objs.size := (K.there _ hok2).2
  refine hit _ _ ⟨s2.heap.objs.size, _, _, _, vs.length, _, _, fun i => zs.getD i 0, rfl, W.toS, st, fun b hb => ?_, fun i v ⟨k, hx⟩ => ?_, fun s' t' mv => ?_⟩
  · show b < (s2.heap.push oI).objs.size
    rw [Heap.size_push]
    rcases List.mem_cons.mp hb with e | hb
    · rw [e]
      exact Nat.lt_succ_self _
    · rw [List.mem_singleton.mp hb]
      exact Nat.lt_succ_of_lt sz
  · obtain ⟨q, hq1, hq2⟩ := paired_at2 rel hx
    have e1 : (kvs.map (·.2))[i]? = some q.2 := by simp [hq1]
    rw [hz, List.getElem?_map] at e1
    obtain ⟨z, hz1, hz2⟩ := Option.map_eq_some_iff.mp e1
    have hr : RelV q.2 v := hq2.2
    rw [← hz2] at hr
    obtain ⟨t, ht⟩ := hr
    refine ⟨t, ?_⟩
    show v = Value.int (zs.getD i 0) t
    rw [ht, List.getD_eq_getElem?_getD, hz1]
    rfl
  · have keeps : ∀ b o, s2.heap.get? b = some o → s'.heap.get? b = some o := fun b o e =>
      mv.heap b o (fun hI => absurd (Heap.lt_size e) (by rw [List.mem_singleton.mp hI]; exact Nat.lt_irrefl _)) (Heap.get?_push_of_some _ e)
    have J := I2.kept (t' := s'.toks) keeps
    obtain ⟨h', gg, dd, tk, oo⟩ := s'
    have e1 : gg = s2.gens := mv.gens
    have e2 : dd = s2.drawn := mv.drawn
    have e3 : oo = s2.os := mv.os
    subst e1 e2 e3
    refine ⟨.int zs.sum, H1, J, ⟨t', ?_⟩, qd⟩
    rw [pre_sum (by omega), List.take_of_length_le (by omega)]
end
end Lmo
end
section
set_option Elab.async false
set_option linter.all false
set_option maxRecDepth 100000
set_option maxHeartbeats 4000000
namespace Lmo
open PySem PySem.Spec PyProof.Rows L2
/-! ### list(d.items()), list(d.values()), sum(d.values()) -/
section
variable {X : Cx} {E : Type} {R : ER E} {np ap cp pos : Pos} {κ β : Type} {kk : Kp κ} {rk : Rp κ} {s : Rp β} {e : Expr} {lv p : Bool} {P : E → Prop} {g : E → E}
theorem up_drel' [Up lv s] {w : Own} {H : Hp} : ∀ {kvs : List (Key × V)} {d : List (κ × β)}, DRel kk s (vw lv w H) kvs d → DRel kk s (fz w H) kvs d
  | _, _, .nil => .nil
  | _, _, .cons h t => .cons ⟨h.1, Up.up (lv := lv) _ _ _ _ h.2⟩ (up_drel' t)
theorem up_rd {w : Own} {H : Hp} {v : V} {d : List (κ × β)} (h : (rDict kk s).rep (vw lv w H) v d) : ∃ a kvs, v = .ref a ∧ Rd H a (.dK kvs) ∧ DRel kk s (vw lv w H) kvs d ∧ (d.map (·.1)).Nodup ∧ d.length ≤ LIM := by
  obtain ⟨a, o, kvs, e1, h2, h3, h4, h5, h6⟩ := h
  obtain ⟨o', z1, z2⟩ := vw_le.get h2
  exact ⟨a, kvs, e1, rd_nrm z1 (z2.trans h3), h4, h5, h6⟩
theorem items_pairs (hk : ∀ H x, rk.rep H (kV (kk.key x)) x) {K : Hp} : ∀ {ts : List Addr} {kvs : List (Key × V)} {d : List (κ × β)}, Paired (fun (t : Addr) (q : Key × V) => K t = some (.tup [kV q.1, q.2])) ts kvs → DRel kk s K kvs d → Paired ((rPair rk s).rep K) (ts.map V.ref) d
  | _, _, _, .nil, .nil => .nil
  | _, _, _, .cons h t, .cons (b := q) a b => .cons ⟨_, _, rfl, h, _, [_], rfl, by rw [a.1]; exact hk _ _, _, rfl, a.2⟩ (items_pairs hk t b)
theorem paired_with {δ γ : Type} {F G : δ → γ → Prop} : ∀ {xs : List δ} {ys : List γ}, (∀ x ∈ xs, ∀ y, F x y → G x y) → Paired F xs ys → Paired G xs ys
  | _, _, _, .nil => .nil
  | _, _, h, .cons a t => .cons (h _ List.mem_cons_self _ a) (paired_with (fun x hx => h x (List.mem_cons_of_mem _ hx)) t)
theorem tn_listItems {f : E → List (κ × β)} (hk : ∀ H x, rk.rep H (kV (kk.key x)) x) [Up lv s] (hc : X.calm = true) (h : TX X R e (rDict kk s) lv p P f g) (hg : Gl X "list") (hm : X.mg "list" = none) (hv : bootBuiltins "list" = some (.type "list") := by first | rfl | decide +kernel)
    (hb : attributeBase e "items" X.env (eval e X.env) = eval e X.env := by rfl) (hl : (ap.endLine == cp.line) = true := by rfl) (hs : starEach [.Call (.Attribute e "items" ap) [] [] cp] X.env = (false, eval (.Call (.Attribute e "items" ap) [] [] cp) X.env) :: starEach [] X.env := by rfl) :
    TN X R (.Call (.Name "list" np) [.Call (.Attribute e "items" ap) [] [] cp] [] pos) (rPair rk s) p P f g := by
  obtain ⟨t, h1, h2⟩ := h
  refine ⟨_, pe_il hc h1 hg hm hv hb hl hs, fun w H σ env Q G q hP k => h2 w H σ env _ G q hP fun v w' H' hp hr => ?_⟩
  obtain ⟨a, kvs, rfl, z2, z3, z4, z5⟩ := up_rd hr
  refine ⟨a, kvs, rfl, z2, fun H2 b ts j1 j2 j3 j4 j5 j6 => ?_⟩
  have hwb : w' b = none := hp.good.new j2
  have e0 : upd (er b H2) b (.lst (ts.map V.ref)) = H2 := er_upd j5
  have l : Le H' (er b H2) := .of fun c o hc => by
    unfold er
    rw [if_neg (ne_of_none hc j2)]
    exact j1 c o hc
  have ow : ∀ c t, w' c = some t → er b H2 c = H' c := fun c t hc => by
    have hne : c ≠ b := fun z => by rw [z, hwb] at hc; cases hc
    unfold er
    rw [if_neg hne]
    cases e : H' c with
    | none => exact absurd e (hp.good c t hc)
    | some o => exact j1 c o e
  have p2 : Post true R w' H' w' (er b H2) σ (g env) := .grow hp.good hp.env l ow
  have key := k b (ts.map V.ref) w' (er b H2) (by unfold er; rw [if_pos rfl]) ((hp.trans p2).weak (by simp)) ?_ z5
  · rw [e0] at key
    exact key
  · refine items_pairs hk (paired_with (fun t ht q hq => ?_) j6) ((up_drel' (lv := lv) z3).mono p2.sm)
    have hne : t ≠ b := fun z => j4 (by rw [← z]; exact ht)
    exact fz_of (hp.good.new (j3 t ht)) (by unfold er; rw [if_neg hne]; exact hq)
theorem drel_vals {K : Hp} : ∀ {kvs : List (Key × V)} {d : List (κ × β)}, DRel kk s K kvs d → Paired (s.rep K) (kvs.map (·.2)) (d.map (·.2))
  | _, _, .nil => .nil
  | _, _, .cons h t => .cons h.2 (drel_vals t)
theorem tn_listVals {f : E → List (κ × β)} [Up lv s] (hc : X.calm = true) (h : TX X R e (rDict kk s) lv p P f g) (hg : Gl X "list") (hm : X.mg "list" = none) (hv : bootBuiltins "list" = some (.type "list") := by first | rfl | decide +kernel)
    (hb : attributeBase e "values" X.env (eval e X.env) = eval e X.env := by rfl) (hl : (ap.endLine == cp.line) = true := by rfl) (hs : starEach [.Call (.Attribute e "values" ap) [] [] cp] X.env = (false, eval (.Call (.Attribute e "values" ap) [] [] cp) X.env) :: starEach [] X.env := by rfl) :
    TN X R (.Call (.Name "list" np) [.Call (.Attribute e "values" ap) [] [] cp] [] pos) s p P (fun e => (f e).map (·.2)) g := by
  obtain ⟨t, h1, h2⟩ := h
  refine ⟨_, pe_vl hc h1 hg hm hv hb hl hs, fun w H σ env Q G q hP k => h2 w H σ env _ G q hP fun v w' H' hp hr => ?_⟩
  obtain ⟨a, kvs, rfl, z2, z3, z4, z5⟩ := up_rd hr
  exact ⟨a, kvs, rfl, z2, fun b hb => k b _ w' H' hb hp (drel_vals (up_drel' (lv := lv) z3)) (by rw [List.length_map]; exact z5)⟩
theorem tx_sumVals {f : E → List (κ × Int)} (hc : X.calm = true) (h : TX X R e (rDict kk rInt) lv p P f g) (hg : Gl X "sum") (hm : X.mg "sum" = none) (hv : bootBuiltins "sum" = some (.builtin "sum") := by first | rfl | decide +kernel)
    (hb : attributeBase e "values" X.env (eval e X.env) = eval e X.env := by rfl) (hl : (ap.endLine == cp.line) = true := by rfl) (hs : starEach [.Call (.Attribute e "values" ap) [] [] cp] X.env = (false, eval (.Call (.Attribute e "values" ap) [] [] cp) X.env) :: starEach [] X.env := by rfl) :
    TX X R (.Call (.Name "sum" np) [.Call (.Attribute e "values" ap) [] [] cp] [] pos) rInt true p P (fun e => ((f e).map (·.2)).sum) g := by
  obtain ⟨t, h1, h2⟩ := h
  refine ⟨_, pe_vs hc h1 hg hm hv hb hl hs, fun w H σ env Q G q hP k => h2 w H σ env _ G q hP fun v w' H' hp hr => ?_⟩
  obtain ⟨a, kvs, rfl, z2, z3, z4, z5⟩ := up_rd hr
  exact ⟨a, kvs, rfl, z2, (f env).map (·.2), paired_int (drel_vals z3), k (.int ((f env).map fun q : κ × Int => q.2).sum) w' H' hp rfl⟩
end
/-! ### items, stars among them -/
structure TLs (X : Cx) {E : Type} (R : ER E) (es : List Expr) {α : Type} (r : Rp α) (p : Bool) (P : E → Prop) (f : E → List α) (g : E → E) : Prop where
  ex : ∃ ta, PA X es ta ∧ ∀ (w : Own) (H : Hp) (σ : L2.St) (env : E) (Q : List V → Hp → Prop), Good w H → R.rel w H [] 2 σ env → P env →
    (∀ vs w' H', Post p R w H w' H' σ (g env) → Paired (r.rep (fz w' H')) vs (f env) → Q vs H') → ta σ H Q
section
variable {X : Cx} {E : Type} {R : ER E} {pos sp : Pos} {α : Type} {r : Rp α} {a : Expr} {es : List Expr} {la pa pb : Bool} {Pa Pb : E → Prop} {ga gb : E → E}
theorem tls_nil : TLs X R [] r true (fun _ => True) (fun _ => []) (fun e => e) := ⟨_, pa_nil, fun w H _ _ Q G q _ k => k _ w H (.refl G q) .nil⟩
theorem tls_cons {fa : E → α} {fb : E → List α} [Up la r] (ha : TX X R a r la pa Pa fa ga) (hb : TLs X R es r pb Pb fb gb) (hs : starEach (a :: es) X.env = (false, eval a X.env) :: starEach es X.env := by rfl) :
    TLs X R (a :: es) r (pa && pb) (fun e => Pa e ∧ Pb (ga e)) (fun e => fa e :: fb (ga e)) (fun e => gb (ga e)) := by
  obtain ⟨t, h1, h2⟩ := ha
  obtain ⟨u, k1, k2⟩ := hb
  exact ⟨_, pa_cons h1 k1 hs, fun w H σ env Q G q hP k => h2 w H σ env _ G q hP.1 fun v w' H' p hr => k2 w' H' σ _ _ p.good p.env hP.2 fun vs w2 H2 p2 hr2 => k _ w2 H2 (p.trans p2) (.cons (r.mono p2.sm (Up.up (lv := la) _ _ _ _ hr)) hr2)⟩
theorem tls_star {fa fb : E → List α} [Up la r] (ha : TX X R a (rList r) la pa Pa fa ga) (hb : TLs X R es r pb Pb fb gb) (hs : starEach (.Starred a sp :: es) X.env = (true, eval a X.env) :: starEach es X.env := by rfl) :
    TLs X R (.Starred a sp :: es) r (pa && pb) (fun e => Pa e ∧ Pb (ga e)) (fun e => fa e ++ fb (ga e)) (fun e => gb (ga e)) := by
  obtain ⟨t, h1, h2⟩ := ha
  obtain ⟨u, k1, k2⟩ := hb
  refine ⟨_, StX.pa_star h1 k1 hs, fun w H σ env Q G q hP k => h2 w H σ env _ G q hP.1 fun v w' H' p hr => ?_⟩
  obtain ⟨c, vs, rfl, z2, z3, z4⟩ := hr
  refine ⟨c, vs, rfl, .inr (SqL.of (vw_le.lst z2)), k2 w' H' σ _ _ p.good p.env hP.2 fun us w2 H2 p2 hr2 => k _ w2 H2 (p.trans p2) (paired_app ?_ hr2)⟩
  exact paired_le p2.sm (paired_mono (fun _ _ z => Up.up (lv := la) _ _ _ _ z) z3)
theorem tn_listS (h : TLs X R es r pa Pa f ga) : TN X R (.List es pos) r pa (fun e => Pa e ∧ (f e).length ≤ LIM) f ga := by
  obtain ⟨t, h1, h2⟩ := h
  refine ⟨_, pe_lst h1, fun w H σ env Q G q hP k => h2 w H σ env _ G q hP.1 fun vs w' H' hp hv => ⟨?_, fun b hb => k b vs w' H' hb hp hv hP.2⟩⟩
  rw [Paired.length hv]
  exact lim_size hP.2
end
/-! ### equality -/
class Dt {α : Type} [DecidableEq α] (r : Rp α) where
  toD : α → PyData
  dep : Nat
  dp : ∀ (K : PySem.W.Frag) (H : Hp) (v : V) (x : α), r.rep H v x → Dp K H v (toD x)
  lay : ∀ x, (toD x).canLay0 = true
  hdep : ∀ x, (toD x).depth ≤ dep
  eqv : ∀ x y, PyData.eqv (toD x) (toD y) = decide (x = y)
class DtT {α : Type} [DecidableEq α] (t : Tp α) where
  toDs : α → List PyData
  dep : Nat
  dp : ∀ (K : PySem.W.Frag) (H : Hp) (vs : List V) (x : α), t.rep H vs x → DpAll K H vs (toDs x)
  lay : ∀ x, PyData.canLayAll0 (toDs x) = true
  hdep : ∀ x, PyData.depthAll (toDs x) ≤ dep
  eqv : ∀ x y, PyData.eqvAll (toDs x) (toDs y) = decide (x = y)
instance : Dt rInt := ⟨fun x => .int x, 0, fun K H v x h => by rw [show v = _ from h]; exact .int x, fun x => by simp [PyData.canLay0], fun x => by simp [PyData.depth], fun x y => by
  simp only [PyData.eqv]
  exact Bool.beq_eq_decide_eq x y⟩
instance : Dt rBool := ⟨fun x => .bool x, 0, fun K H v x h => by rw [show v = _ from h]; exact .bl x, fun x => by simp [PyData.canLay0], fun x => by simp [PyData.depth], fun x y => by cases x <;> cases y <;> simp [PyData.eqv]⟩
instance : Dt (rOpt rInt) := ⟨fun x => match x with | none => .none | some i => .int i, 0, fun K H v x h => by
  cases x with
  | none => rw [show v = _ from h]; exact .non
  | some i => rw [show v = _ from h.1]; exact .int i, fun x => by cases x <;> simp [PyData.canLay0], fun x => by cases x <;> simp [PyData.depth], fun x y => by
  cases x <;> cases y <;> simp only [PyData.eqv, Option.some.injEq, reduceCtorEq, decide_true, decide_false]
  exact Bool.beq_eq_decide_eq _ _⟩
instance {α : Type} [DecidableEq α] {r : Rp α} [i : Dt r] : Dt (rList r) := ⟨fun xs => .list (xs.map i.toD), i.dep + 1, fun K H v xs h => by
    obtain ⟨a, vs, rfl, h2, h3, h4⟩ := h
    refine .lst (SqL.of h2) ?_
    clear h2 h4
    induction h3 with
    | nil => exact .nil
    | cons a _ ih => exact .cons (i.dp K H _ _ a) ih, fun xs => by
    simp only [PyData.canLay0]
    induction xs with
    | nil => simp [PyData.canLayAll0]
    | cons x xs ih => simp [PyData.canLayAll0, i.lay x, ih], fun xs => by
    simp only [PyData.depth]
    induction xs with
    | nil => simp [PyData.depthAll]
    | cons x xs ih =>
      have := i.hdep x
      simp only [List.map_cons, PyData.depthAll]
      omega, fun xs ys => by
    simp only [PyData.eqv]
    induction xs generalizing ys with
    | nil => cases ys <;> simp [PyData.eqvAll]
    | cons x xs ih =>
      cases ys with
      | nil => simp [PyData.eqvAll]
      | cons y ys =>
        simp only [List.map_cons, PyData.eqvAll, i.eqv, ih, List.cons.injEq]
        by_cases h1 : x = y <;> by_cases h2 : xs = ys <;> simp [h1, h2]⟩
instance {α : Type} [DecidableEq α] {r : Rp α} [i : Dt r] : DtT (tp1 r) := ⟨fun x => [i.toD x], i.dep, fun K H vs x ⟨v, e, h⟩ => by rw [e]; exact .cons (i.dp K H _ _ h) .nil, fun x => by simp [PyData.canLayAll0, i.lay x], fun x => by
    have := i.hdep x
    simp only [PyData.depthAll]
    omega, fun x y => by simp [PyData.eqvAll, i.eqv]⟩
instance {α β : Type} [DecidableEq α] [DecidableEq β] {r : Rp α} {t : Tp β} [i : Dt r] [j : DtT t] : DtT (tpc r t) := ⟨fun x => i.toD x.1 :: j.toDs x.2, max i.dep j.dep, fun K H vs x ⟨v, us, e, h1, h2⟩ => by rw [e]; exact .cons (i.dp K H _ _ h1) (j.dp K H _ _ h2), fun x => by simp [PyData.canLayAll0, i.lay, j.lay], fun x => by
    have h1 := i.hdep x.1
    have h2 := j.hdep x.2
    simp only [PyData.depthAll]
    omega, fun x y => by
    obtain ⟨x1, x2⟩ := x
    obtain ⟨y1, y2⟩ := y
    simp only [PyData.eqvAll, i.eqv, j.eqv, Prod.mk.injEq]
    by_cases h1 : x1 = y1 <;> by_cases h2 : x2 = y2 <;> simp [h1, h2]⟩
instance {α : Type} [DecidableEq α] {t : Tp α} [j : DtT t] : Dt (rTup t) := ⟨fun x => .tuple (j.toDs x), j.dep + 1, fun K H v x h => by
    obtain ⟨a, vs, rfl, h2, h3⟩ := h
    exact .tup (SqT.of h2) (j.dp K H _ _ h3), fun x => by simp only [PyData.canLay0]; exact j.lay x, fun x => by
    have := j.hdep x
    simp only [PyData.depth]
    omega, fun x y => by simp only [PyData.eqv]; exact j.eqv x y⟩
theorem dt_shaped {α : Type} [DecidableEq α] {r : Rp α} (i : Dt r) (hd : i.dep ≤ 64) (x : α) : SeqAt.shaped (i.toD x) = true := by
  show ((i.toD x).canLay0 && decide ((i.toD x).depth ≤ 64)) = true
  rw [i.lay x, decide_eq_true (Nat.le_trans (i.hdep x) hd)]
  rfl
section
variable {X : Cx} {α : Type} [DecidableEq α] {r : Rp α}
theorem o_eqD [i : Dt r] (hu : X.A.units + 64 < cLine) (hd : i.dep ≤ 64 := by decide) : OpF X (compareOp .Eq) r r rBool (fun _ _ => True) fun x y => decide (x = y) := ⟨_, op_eqD hu, fun H v u x y Q h1 h2 _ k => by
  refine ⟨_, _, i.dp _ H _ _ h1, i.dp _ H _ _ h2, dt_shaped i hd x, dt_shaped i hd y, ?_⟩
  rw [i.eqv]
  exact k _ rfl⟩
theorem o_neD [i : Dt r] (hu : X.A.units + 64 < cLine) (hd : i.dep ≤ 64 := by decide) : OpF X (compareOp .NotEq) r r rBool (fun _ _ => True) fun x y => !decide (x = y) := ⟨_, op_neD hu, fun H v u x y Q h1 h2 _ k => by
  refine ⟨_, _, i.dp _ H _ _ h1, i.dp _ H _ _ h2, dt_shaped i hd x, dt_shaped i hd y, ?_⟩
  rw [i.eqv]
  exact k _ rfl⟩
end
end Lmo
end
section
set_option Elab.async false
set_option linter.all false
set_option maxRecDepth 100000
set_option maxHeartbeats 4000000
namespace Lmo
open PySem PySem.Spec PyProof.Rows L2
/-! ### min(xs, default=None) -/
section
variable {X : Cx}
def lminO (xs : List Int) : Option Int := match xs with
  | [] => none
  | x :: xs => some (lmin (x :: xs))
theorem lminO_eq {xs : List Int} : lminO xs = if xs = [] then none else some (lmin xs) := by cases xs <;> rfl
def rMinN (K : PySem.W.Frag) : List V → List V → Hp → VK → Prop := fun vs zs H Q => ∃ (a : Addr) (ns : List Int), vs = [V.ref a] ∧ zs = [V.non] ∧ SqL K H a (ns.map V.int) ∧ Q (match lminO ns with | none => .non | some m => .int m) H
theorem reads_ints {h : Heap} : ∀ {us : List Value} {ns : List Int}, IntsAre us ns → ∃ as, ReadsAll h us (ns.map PyData.int) as
  | _, _, .nil => ⟨_, ReadsAll.nil⟩
  | _, _, .cons n t r => by
    obtain ⟨as, q⟩ := reads_ints r
    exact ⟨_, ReadsAll.cons (Reads.int n t) q⟩
theorem depth_ints : ∀ ns : List Int, PyData.depthAll (ns.map PyData.int) = 0
  | [] => by simp [PyData.depthAll]
  | n :: ns => by simp [PyData.depthAll, PyData.depth, depth_ints ns]
theorem alike_ints (ns : List Int) : PySem.W.AlikeAll (ns.map PyData.int) := ⟨fun x hx y hy => by
    obtain ⟨a, _, rfl⟩ := List.mem_map.mp hx
    obtain ⟨b, _, rfl⟩ := List.mem_map.mp hy
    rfl, fun x hx => by
    obtain ⟨a, _, rfl⟩ := List.mem_map.mp hx
    exact fun z => nomatch z⟩
theorem cr_minN (hc : X.calm = true) (hu : X.A.units + 1 < cLine) : CallRK X (.builtin "min") [Str.ofString "default"] (rMinN X.K) := by
  intro pins s σ H vs zs us ws Q I r rz h
  obtain ⟨a, ns, rfl, rfl, hs, q⟩ := h
  obtain ⟨its, rv, hl, _⟩ := I.list hs
  rw [Vals.ref1 r]
  obtain ⟨w1, rfl, e1⟩ := vals1 rz
  obtain rfl : w1 = Value.none := e1
  obtain ⟨as, hr⟩ := reads_ints (h := s.heap) (ints_of_vals rv)
  show wpAny _ _ (call (.builtin "min") [.ref a] [(Str.ofString "default", .none)]) _ _ _
  refine PySem.W.min_list_default (vs := its.toArray) (xs := ns.map PyData.int) (I.ok.hd hc) hl.isList (by simpa using hr) (alike_ints ns) (by rw [depth_ints]; exact hu) (fun hn h' tk hk => ?_) fun y ys i v h' tk bs hy _ hrd hk => ?_
  · have : ns = [] := List.map_eq_nil_iff.mp hn
    subst this
    exact ⟨.non, H, I.kept (t' := tk) hk, rfl, q⟩
  · cases ns with
    | nil => cases hy
    | cons n ms =>
      rw [List.map_cons] at hy
      injection hy with h1 h2
      subst h1 h2
      rw [PySem.W.minD_ints] at hrd
      cases hrd
      exact ⟨.int (lmin (n :: ms)), H, I.kept (t' := tk) hk, ⟨_, rfl⟩, q⟩
variable {E : Type} {R : ER E} {np pos kp cp : Pos} {e : Expr} {lv p : Bool} {P : E → Prop} {g : E → E} {f : E → List Int} {j : Nat}
theorem tx_minN (hc : X.calm = true) (hu : X.A.units + 1 < cLine) (ha : TAs X R [e] (tp1 (rList rInt)) lv p P f g) (hg : Gl X "min") (hm : X.mg "min" = none) (hv : bootBuiltins "min" = some (.builtin "min") := by first | rfl | decide +kernel)
    (he : backTo pos (starEach [e] X.env) = (false, eval e X.env) :: backTo pos (starEach [] X.env) := by rfl) (hpl : (backTo pos (starEach [e] X.env)).any (·.1) = false := by rfl)
    (hall : (backToKw pos (keywordEach [⟨some "default", .Constant .none j cp, kp⟩] X.env)).all (·.1.isSome) = true := by rfl) (hnone : (backToKw pos (keywordEach [⟨some "default", .Constant .none j cp, kp⟩] X.env)).any (·.1.isNone) = false := by rfl) (hks : (backToKw pos (keywordEach [⟨some "default", .Constant .none j cp, kp⟩] X.env)).filterMap (·.1) = [Str.ofString "default"] := by rfl) :
    TX X R (.Call (.Name "min" np) [e] [⟨some "default", .Constant .none j cp, kp⟩] pos) (rOpt rInt) true p P (fun e => lminO (f e)) g := by
  obtain ⟨ta, h1, h2⟩ := ha
  refine ⟨_, pe_callBK (cr_minN hc hu) hg hm hv h1 (pk_cons pe_non pk_nil) (by decide) (by decide) he hpl hall hnone hks, fun w H σ env Q G q hP k => h2 w H σ env _ G q hP fun vs w' H' hp hr => ?_⟩
  obtain ⟨v, rfl, a, us, rfl, z2, z3, z4⟩ := hr
  rw [paired_int z3] at z2
  refine ⟨a, f env, rfl, rfl, SqL.of (vw_le.lst z2), ?_⟩
  cases e : lminO (f env) with
  | none => exact k .non w' H' hp (by rw [e]; rfl)
  | some m => exact k (.int m) w' H' hp (by rw [e]; exact ⟨rfl, fun z => nomatch z⟩)
end
/-! ### assignments -/
section
variable {X : Cx} {E E1 E2 E3 : Type} {R : ER E} {R1 : ER E1} {R2 : ER E2} {R3 : ER E3} {α β γ κ : Type} {r : Rp α} {S : SR α} {p lv : Bool} {P : E → Prop} {g : E → E} {e : Expr} {i j l : Nat} {x y z : Str} {xp pos px py pz pt : Pos}
/-- a, b = e -/
theorem tl_unpack {tg : Expr} {f : E → α} {put : E → α → E1} {drop : E1 → E} {vs : List Nat} [Up lv r] (h : TX X R e r lv p P f g) (hg : TGt X R tg r R1 put drop vs) (hs : swapsWithSole [tg] e pos.line X.env = pure false := by rfl) (hw : swappedStores [tg] e X.env = pure none := by rfl)
    (h1' : (assignEach [tg] X.env).map (·.2) = [assign tg X.env] := by rfl) : TL1 X R (.Assign [tg] e pos) R1 P (fun e => put (g e) (f e)) := by
  obtain ⟨t, a, b⟩ := h
  obtain ⟨gt, c, d⟩ := hg
  exact ⟨_, ps_asg a c hs hw h1', fun w H σ env D G q hP k => b w H σ env _ G q hP fun v w' H' hp hr => d w' H' σ _ v _ _ hp.good hp.env (Up.up (lv := lv) _ _ _ _ hr) fun σ' q' _ _ => k w' H' σ' hp.aft q'⟩
theorem tl_par3 {S2 : SR β} {S3 : SR γ} {a b c : Expr} {pa pb pc : Bool} {Pa Pb Pc : E → Prop} {fa : E → α} {fb : E → β} {fc : E → γ} {ga gb gc : E → E} {put : E → α → E1} {put2 : E1 → β → E2} {put3 : E2 → γ → E3} {kt k2 pt2}
    (ha : TY X R a S pa Pa fa ga) (hb : TY X R b S2 pb Pb fb gb) (hcc : TY X R c S3 pc Pc fc gc) (hp : Put R i S R1 put) (hp2 : Put R1 j S2 R2 put2) (hp3 : Put R2 l S3 R3 put3)
    (hc : X.calm = true) (hN : X.N.Nodup) (hi : X.N[i]? = some x) (hj : X.N[j]? = some y) (hl : X.N[l]? = some z) (hij : i ≠ j) (hil : i ≠ l) (hjl : j ≠ l) (hx : X.env.scope.names.lookup x = some .local) (hy : X.env.scope.names.lookup y = some .local) (hz : X.env.scope.names.lookup z = some .local)
    (hw : swappedStores [.Tuple [.Name x px, .Name y py, .Name z pz] kt pt] (.Tuple [a, b, c] k2 pt2) X.env = pure (some [x, y, z]))
    (hs : swapsWithSole [.Tuple [.Name x px, .Name y py, .Name z pz] kt pt] (.Tuple [a, b, c] k2 pt2) pos.line X.env = pure false := by rfl)
    (hs0 : starEach [a, b, c] X.env = (false, eval a X.env) :: starEach [b, c] X.env := by rfl) (hs1 : starEach [b, c] X.env = (false, eval b X.env) :: starEach [c] X.env := by rfl) (hs2 : starEach [c] X.env = (false, eval c X.env) :: starEach [] X.env := by rfl) :
    TL1 X R (.Assign [.Tuple [.Name x px, .Name y py, .Name z pz] kt pt] (.Tuple [a, b, c] k2 pt2) pos) R3 (fun e => Pa e ∧ Pb (ga e) ∧ Pc (gb (ga e))) (fun e => put3 (put2 (put (gc (gb (ga e))) (fa e)) (fb (ga e))) (fc (gb (ga e)))) := by
  obtain ⟨ta, a1, a2⟩ := ha
  obtain ⟨tb, b1, b2⟩ := hb
  obtain ⟨tc, c1, c2⟩ := hcc
  refine ⟨_, ps_par3 hc hN hi hj hl hij hil hjl hx hy hz (pa_cons a1 (pa_cons b1 (pa_cons c1 pa_nil hs2) hs1) hs0) hw hs, fun w H σ env D G q hP k => a2 0 w H σ env _ G q hP.1 fun v w1 H1 p1 s1 => b2 1 w1 H1 σ _ _ p1.good p1.env hP.2.1 fun u w2 H2 p2 s2 => c2 2 w2 H2 σ _ _ p2.good p2.env hP.2.2 fun v3 w3 H3 p3 s3 => ⟨v, u, v3, rfl, ?_⟩⟩
  have s0' : S.rel w2 H2 [1, 0] (some v) (fa env) := S.keep s1 p2.sm fun a q ha => p2.fk a 1 (0 :: q) (by decide) ha
  have s1' : S.rel w3 H3 [1, 0] (some v) (fa env) := S.keep s0' p3.sm fun a q ha => p3.fk a 1 (0 :: q) (by decide) ha
  have s2' : S2.rel w3 H3 [1, 1] (some u) (fb (ga env)) := S2.keep s2 p3.sm fun a q ha => p3.fk a 1 (1 :: q) (by decide) ha
  have r1 := put_held (n := 0) hp p3.env s1'
  have ne : ∀ {m n : Nat} {q : Tag}, m ≠ n → ¬ ([1, m] : Tag) <+: [1, n] ++ q := fun h z => h (List.cons_prefix_cons.mp (List.cons_prefix_cons.mp z).2).1
  have s2'' : S2.rel (mv [1, 0] [2 + i] w3) H3 [1, 1] (some u) (fb (ga env)) := mv_other s2' fun q => ne (by decide)
  have s3' : S3.rel (mv [1, 0] [2 + i] w3) H3 [1, 2] (some v3) (fc (gb (ga env))) := mv_other s3 fun q => ne (by decide)
  have r2 := put_held (n := 1) hp2 r1 s2''
  have s3'' : S3.rel (mv [1, 1] [2 + j] (mv [1, 0] [2 + i] w3)) H3 [1, 2] (some v3) (fc (gb (ga env))) := mv_other s3' fun q => ne (by decide)
  have g1 := good_mv (a := [1, 0]) (b := [2 + i]) p3.good
  have g2 := good_mv (a := [1, 1]) (b := [2 + j]) g1
  exact k _ H3 _ (((p1.aft.trans p2.aft).trans p3.aft).trans (((aft_mv p3.good (by decide) ⟨_, rfl⟩).trans (aft_mv g1 (by decide) ⟨_, rfl⟩)).trans (aft_mv g2 (by decide) ⟨_, rfl⟩))) (put_held (n := 2) hp3 r2 s3'')
/-- x = [.. for ..] on one line -/
theorem tl_setLc {s : Rp β} {elt tg iter : Expr} {ifs : List Expr} {scope : Scope} {own : List (Str × Nat)} {f : E → List β} {put : E → List β → E1} {spos : Pos} (h : LC X R elt tg iter ifs scope own s p P f g) (hp : Put R i (ol s) R1 put) (hc : X.calm = true) (hN : X.N.Nodup) (hi : X.N[i]? = some x) (hxl : X.env.scope.names.lookup x = some .local)
    (hk : X.env.scope.kind = .function) (hln : (xp.line == pos.line) = true) (hno : (scope.names.any fun (n, k) => n == x && (k == .local || k == .cell)) = false) (ok : blkC X.N X.env.scope scope own = true)
    (hs : ∀ x, foldedSetIterable iter X.env x = pure x := by intro _; rfl) : TL1 X R (.Assign [.Name x xp] (.ListComp elt [⟨tg, iter, ifs, 0⟩] scope pos) spos) R1 P (fun e => put (g e) (f e)) := by
  obtain ⟨wi, g0, t0, e0, h1, h2, h3, h4, h5⟩ := h
  exact ⟨_, ps_setLc hc hN hi hxl (sw_true hk hxl hln hno) h1 (blkOk_by ok) h2 h3 h4 hs, fun w H σ env D G q hP k => h5 w H σ env _ G q hP fun b vs w' H' hb hpo hr hl => k _ _ _ (hpo.aft.trans (own_new hpo.good hb)) (own_put hp hpo.good hb hpo.env (ol_new hpo.good hb hr hl))⟩
/-- .. shared -/
theorem tl_setLcF {s : Rp β} {elt tg iter : Expr} {ifs : List Expr} {scope : Scope} {own : List (Str × Nat)} {f : E → List β} {put : E → List β → E1} {spos : Pos} (h : LC X R elt tg iter ifs scope own s p P f g) (hp : Put R i (fr (rList s)) R1 put) (hc : X.calm = true) (hN : X.N.Nodup) (hi : X.N[i]? = some x) (hxl : X.env.scope.names.lookup x = some .local)
    (hk : X.env.scope.kind = .function) (hln : (xp.line == pos.line) = true) (hno : (scope.names.any fun (n, k) => n == x && (k == .local || k == .cell)) = false) (ok : blkC X.N X.env.scope scope own = true)
    (hs : ∀ x, foldedSetIterable iter X.env x = pure x := by intro _; rfl) : TL1 X R (.Assign [.Name x xp] (.ListComp elt [⟨tg, iter, ifs, 0⟩] scope pos) spos) R1 P (fun e => put (g e) (f e)) := by
  obtain ⟨wi, g0, t0, e0, h1, h2, h3, h4, h5⟩ := h
  refine ⟨_, ps_setLc hc hN hi hxl (sw_true hk hxl hln hno) h1 (blkOk_by ok) h2 h3 h4 hs, fun w H σ env D G q hP k => h5 w H σ env _ G q hP fun b vs w' H' hb hpo hr hl => ?_⟩
  have p2 : Post true R w' H' w' (upd H' b (.lst vs)) σ (g env) := .new hpo.good hpo.env hb
  exact k w' _ _ (hpo.aft.trans p2.aft) (put_read hp p2.env ⟨_, rfl, b, vs, rfl, fz_of (hpo.good.new hb) upd_same, paired_le p2.le hr, hl⟩)
end
/-! ### C(..).m() -/
/-- the value in the callee's world still -/
structure TH (X : Cx) {E : Type} (R : ER E) (e : Expr) {α : Type} (S : SR α) (p : Bool) (P : E → Prop) (f : E → α) (g : E → E) : Prop where
  ex : ∃ t, PE X e t ∧ ∀ (w : Own) (H : Hp) (σ : L2.St) (env : E) (Q : VK), Good w H → R.rel w H [] 2 σ env → P env →
    (∀ v w1 H1 w2 H2, Post p R w H w1 H1 σ (g env) → Aft (far w1) H1 w2 H2 → S.rel w2 H2 [2] (some v) (f env) → Q v H2) → t σ H Q
section
variable {X : Cx} {E F : Type} {R : ER E} {pos np apos : Pos} {α ρ : Type} {t : Tp α} {e o : Expr} {es : List Expr} {P : E → Prop} {f : E → α} {g : E → E} {p : Bool} {x m : Str} {rr : Rp ρ} {fa C : Addr} {fd : FuncData} {ps ns : List Str} {ER0 : ER F} {k j : Nat} {S : SR F}
theorem make_readH {F' : Type} {S' : SR F'} {ta : TA} {s0 : F} {Pre : F → α → Prop} {fn : F → α → Unit × F'} (s1 : St1 ns.length ER0 s0) (b : SA R t true p P f g ta) {w : Own} {H : Hp} {σ : L2.St} {env : E} {Q : VK} {EX : XK} (G : Good w H) (hr : R.rel w H [] 2 σ env) (hP : P env ∧ Pre s0 (f env))
    (kk : ∀ v w1 H1 w2 H2, Post p R w H w1 H1 σ (g env) → Aft (far w1) H1 w2 H2 → S'.rel w2 H2 [2] (some v) (fn s0 (f env)).2 → Q v H2) : tMake C (spM (ob C ns ER0) S' t rsN Pre fn) [] EX ta σ H Q := by
  refine b w H σ env _ G hr hP.1 fun vs w1 H1 p1 hv x dx hx hdx hne => ?_
  have nx : ∀ {a t}, w1 a = some t → a ≠ x := fun {a t} ha z => p1.good a t ha (by rw [z]; exact hx)
  have nd : ∀ {a t}, w1 a = some t → a ≠ dx := fun {a t} ha z => p1.good a t ha (by rw [z]; exact hdx)
  have hH : ∀ {a : Addr} {o : HO}, H1 a = some o → upd (upd H1 dx (.own x)) x (.ins C dx []) a = some o := fun {a o} ha => by
    rw [upd_ne (ne_of_none ha hx), upd_ne (ne_of_none ha hdx)]
    exact ha
  have l0 : Le (fz w1 H1) (fz (own1 x [2] (far w1)) (upd (upd H1 dx (.own x)) x (.ins C dx []))) := .of fun a o ha => by
    obtain ⟨h1, h2⟩ := fz_some ha
    exact fz_of (by rw [own1_ne (ne_of_none h2 hx)]; exact far_none h1) (hH h2)
  have gd : Good (own1 x [2] (far w1)) (upd (upd H1 dx (.own x)) x (.ins C dx [])) := fun a u ha => by
    by_cases e : a = x
    · rw [e, upd_same]
      exact fun z => nomatch z
    · rw [own1_ne e] at ha
      obtain ⟨u', hu⟩ : ∃ u', w1 a = some u' := by
        cases e' : w1 a with
        | none => rw [far_none e'] at ha; cases ha
        | some u' => exact ⟨u', rfl⟩
      rw [upd_ne e, upd_ne (nd hu)]
      exact p1.good a u' hu
  have af0 : Aft (far w1) H1 (own1 x [2] (far w1)) (upd (upd H1 dx (.own x)) x (.ins C dx [])) := ⟨gd, by rw [fz_far]; exact l0, fun a u ha => by
    have hwa : ∃ u', w1 a = some u' := by
      cases e' : w1 a with
      | none => rw [far_none e'] at ha; cases ha
      | some u' => exact ⟨u', rfl⟩
    obtain ⟨u', hu⟩ := hwa
    exact ⟨by rw [own1_ne (nx hu)]; exact ha, by rw [upd_ne (nx hu), upd_ne (nd hu)]⟩⟩
  rw [List.append_nil]
  exact ⟨own1 x [2] (far w1), s0, f env, .ref x, vs, rfl, gd, ⟨x, dx, [], _, rfl, own1_same, upd_same, FS.new, s1.st _ _ _ _⟩, t.mono l0 hv, hP.2, fun v w2 H2 af hres hs => ⟨hres, kk _ w1 H1 w2 H2 p1 (af0.trans af) hs⟩⟩
theorem th_make {F' : Type} {S' : SR F'} {s0 : F} {Pre : F → α → Prop} {fn : F → α → Unit × F'} (s1 : St1 ns.length ER0 s0) (M : Mk X.K C fa) (G : FnOk X.prog X.w X.K X.mg X.base CX0 k fa fd ps (spM (ob C ns ER0) S' t rsN Pre fn)) (hr : Room j X.A) (hkj : k + 1 ≤ j) (hg : Gl X x) (hm : X.mg x = some (.ref C)) (hb : Binds X.K fd ps []) (ha : TAs X R (e :: es) t true p P f g)
    (hdb : (x == ("__debug__" : Str)) = false := by decide) (he : starEach (e :: es) X.env = (false, eval e X.env) :: starEach es X.env := by rfl) (hpl : (backTo pos (starEach es X.env)).any (·.1) = false := by rfl) :
    TH X R (.Call (.Name x np) (e :: es) [] pos) S' p (fun e => P e ∧ Pre s0 (f e)) (fun e => (fn s0 (f e)).2) g := by
  obtain ⟨ta, a, b⟩ := ha
  exact ⟨_, pe_make M G (hr.mono hkj) hg hm hb .nil (L2.pass0 (X := X)) a hdb he hpl, fun w H σ env Q Gd hR hP kk => make_readH s1 b Gd hR hP kk⟩
theorem tx_methH {h : E → F} {Pre : F → Unit → Prop} {fn : F → Unit → ρ × F} (hl : TH X R o (ob C ns ER0) p P h g) (G : FnOk X.prog X.w X.K X.mg X.base CX0 k fa fd ps (spM (ob C ns ER0) (ob C ns ER0) tp0 (rsF rr) Pre fn)) (hr : Room j X.A) (hkj : k ≤ j) (c : Cls X.K C) (hm : Meth X.K C m fa) (hns : m ∉ ns) (hb : Binds X.K fd ps [])
    {pl : Sem Bool} (ht : eval (.Call (.Attribute o m apos) [] [] pos) X.env = (do
      let ov ← eval o X.env
      standAt apos.atName
      let (f, first) ← holding [ov] (getMethod ov m pl)
      callWith pos f first (backTo pos (starEach [] X.env)) (backToKw pos (keywordEach [] X.env))) := by rfl) :
    TX X R (.Call (.Attribute o m apos) [] [] pos) rr true p (fun e => P e ∧ Pre (h e) ()) (fun e => (fn (h e) ()).1) g := by
  obtain ⟨te, h1, h2⟩ := hl
  refine ⟨_, pe_meth0 (pl := pl) h1 c hm G (hr.mono hkj) hb .nil (L2.pass0 (X := X)) ht, fun w H σ env Q Gd hR hP kk => h2 w H σ env _ Gd hR hP.1 fun v w1 H1 w2 H2 p1 af s => ?_⟩
  obtain ⟨a, dx, fl, τ, z1, z2, z3, z4, z5⟩ := id s
  cases z1
  refine ⟨a, dx, fl, rfl, z3, z4.out m hns, ?_⟩
  refine ⟨w2, h env, (), .ref a, [], rfl, af.good, s, rfl, hP.2, fun u w3 H3 af3 hres _ => ?_⟩
  obtain ⟨p2, l⟩ := call_back p1.good p1.env (af.trans af3)
  exact kk u w1 H3 ((p1.trans p2).weak (by simp)) (rr.mono l hres)
end
end Lmo
end
section
set_option Elab.async false
set_option linter.all false
set_option maxRecDepth 100000
set_option maxHeartbeats 4000000
namespace Lmo
open PySem PySem.Spec PyProof.Rows L2
theorem kk_int : ∀ (H : Hp) (v : V) (x : Int), rInt.rep H v x → v = kV (kInt.key x) := fun _ _ _ h => h
theorem kk_str : ∀ (H : Hp) (v : V) (x : Str), rStr.rep H v x → v = kV (kStr.key x) := fun _ _ _ h => h
theorem hk_int : ∀ (H : Hp) (x : Int), rInt.rep H (kV (kInt.key x)) x := fun _ _ => rfl
theorem hk_str : ∀ (H : Hp) (x : Str), rStr.rep H (kV (kStr.key x)) x := fun _ _ => rfl
/-- anything at all -/
def rAny : Rp Unit := ⟨fun _ _ _ => True, fun _ _ => trivial⟩
theorem tp_len0 : ∀ (H : Hp) (vs : List V) (x : Unit), tp0.rep H vs x → vs.length = 0 := fun H vs x h => by
  have e : vs = [] := h
  rw [e]
  rfl
theorem sortD_len {κ β : Type} (d : List (Int × β)) (h : d.length < 64) : (srt (d.map (·.1))).length ≤ LIM := by
  rw [(srt_perm _).length_eq, List.length_map, show LIM = 1000000 from rfl]
  omega
section
variable {X : Cx} {E F : Type} {R : ER E} {pos np apos : Pos} {α β ρ : Type} {t : Tp α} {t2 : Tp β} {e o : Expr} {es : List Expr} {P Po : E → Prop} {f : E → α} {fo : E → β} {g go : E → E} {p po st lv : Bool} {x m : Str} {rr : Rp ρ} {fa C : Addr} {fd : FuncData} {ps ns : List Str} {ER0 : ER F} {k j : Nat} {get : E → F} {set : E → F → E}
/-- a method that does not look at its instance -/
theorem tx_methA {Pre : Unit × α → Prop} {fn : Unit × α → ρ} (hl : TL X R o (ob C ns ER0) st get set) (G : FnOk X.prog X.w X.K X.mg X.base CX0 k fa fd ps (spP (tpc rAny t) (rsF rr) Pre fn)) (hr : Room j X.A) (hkj : k ≤ j) (c : Cls X.K C) (hm : Meth X.K C m fa) (hns : m ∉ ns) (hb : Binds X.K fd ps []) (ha : TAs X R (e :: es) t true p P f g)
    {pl : Sem Bool} (hst : starEach (e :: es) X.env = (false, eval e X.env) :: starEach es X.env := by rfl) (hpl : (backTo pos (starEach es X.env)).any (·.1) = false := by rfl)
    (ht : eval (.Call (.Attribute o m apos) (e :: es) [] pos) X.env = (do
      let ov ← eval o X.env
      standAt apos.atName
      let (f, first) ← holding [ov] (getMethod ov m pl)
      callWith pos f first (backTo pos (starEach (e :: es) X.env)) (backToKw pos (keywordEach [] X.env))) := by rfl) :
    TX X R (.Call (.Attribute o m apos) (e :: es) [] pos) rr true p (fun e => P e ∧ Pre ((), f e)) (fun e => fn ((), f e)) g := by
  obtain ⟨ta, a, b⟩ := ha
  obtain ⟨jj, q, te, rd, hj, h1, h2⟩ := hl
  refine ⟨_, pe_meth (pl := pl) h1 c hm G (hr.mono hkj) hb .nil (L2.pass0 (X := X)) a hst hpl ht, fun w H σ env Q Gd hR hP kk => ?_⟩
  obtain ⟨v, e1, e2, e3, e4, e5⟩ := h2 w H σ env Gd hR
  obtain ⟨ad, dx, fl, τ, z1, z2, z3, z4, z5⟩ := e3.here
  cases z1
  refine e2 _ ⟨ad, dx, fl, rfl, z3, z4.out m hns, b w H σ env _ Gd hR hP.1 fun vs w' H' hp hv => ?_⟩
  rw [List.append_nil]
  refine ⟨far w', ((), f env), good_far hp.good, ⟨_, vs, rfl, trivial, by rw [fz_far]; exact hv⟩, hP.2, fun v w2 H2 af hres => ?_⟩
  obtain ⟨p2, l⟩ := call_back hp.good hp.env af
  exact kk v w' H2 ((hp.trans p2).weak (by simp)) (rr.mono l hres)
/-- a method of an instance that does not change any more -/
theorem tx_methF {Pre : β × α → Prop} {fn : β × α → ρ} (hl : TX X R o (rOb C ns t2) true po Po fo go) (G : FnOk X.prog X.w X.K X.mg X.base CX0 k fa fd ps (spP (tpc (rOb C ns t2) t) (rsF rr) Pre fn)) (hr : Room j X.A) (hkj : k ≤ j) (c : Cls X.K C) (hm : Meth X.K C m fa) (hns : m ∉ ns) (hb : Binds X.K fd ps []) (ha : TAs X R (e :: es) t true p P f g)
    {pl : Sem Bool} (hst : starEach (e :: es) X.env = (false, eval e X.env) :: starEach es X.env := by rfl) (hpl : (backTo pos (starEach es X.env)).any (·.1) = false := by rfl)
    (ht : eval (.Call (.Attribute o m apos) (e :: es) [] pos) X.env = (do
      let ov ← eval o X.env
      standAt apos.atName
      let (f, first) ← holding [ov] (getMethod ov m pl)
      callWith pos f first (backTo pos (starEach (e :: es) X.env)) (backToKw pos (keywordEach [] X.env))) := by rfl) :
    TX X R (.Call (.Attribute o m apos) (e :: es) [] pos) rr true (po && p) (fun e => Po e ∧ P (go e) ∧ Pre (fo e, f (go e))) (fun e => fn (fo e, f (go e))) (fun e => g (go e)) := by
  obtain ⟨ta, a, b⟩ := ha
  obtain ⟨te, h1, h2⟩ := hl
  refine ⟨_, pe_meth (pl := pl) h1 c hm G (hr.mono hkj) hb .nil (L2.pass0 (X := X)) a hst hpl ht, fun w H σ env Q Gd hR hP kk => h2 w H σ env _ Gd hR hP.1 fun v w1 H1 p1 hv1 => ?_⟩
  obtain ⟨ad, dx, fl, us, rfl, z3, z4, z5⟩ := id hv1
  refine ⟨ad, dx, fl, rfl, vw_le.ins z3, z4.out m hns, b w1 H1 σ _ _ p1.good p1.env hP.2.1 fun vs w' H' hp hv => ?_⟩
  rw [List.append_nil]
  refine ⟨far w', (fo env, f (go env)), good_far hp.good, ⟨_, vs, rfl, by rw [fz_far]; exact (rOb C ns t2).mono hp.sm hv1, by rw [fz_far]; exact hv⟩, hP.2.2, fun v w2 H2 af hres => ?_⟩
  obtain ⟨p2, l⟩ := call_back hp.good hp.env af
  exact kk v w' H2 (((p1.trans hp).trans p2).weak (by simp)) (rr.mono l hres)
end
section
variable {X : Cx} {E : Type} {R : ER E} {pos : Pos} {α β κ : Type} [DecidableEq κ] {kk : Kp κ} {rk : Rp κ} {s : Rp β} {r : Rp α} {o i : Expr} {li p st : Bool} {Pi : E → Prop} {g : E → E}
/-- an item of a list of one's own: it may be shared -/
theorem tx_ixAt [Inhabited α] {fi : E → Int} {get : E → List α} {set : E → List α → E} (hl : TL X R o (ol r) st get set) (hi : TX X R i rInt li p Pi fi g) (hp : p = true ∨ st = true) (hs : PlainIx i := by exact fun _ _ => rfl) :
    TX X R (.Subscript o i pos) r true p (fun e => Pi e ∧ (at? (get (g e)) (fi e)).isSome = true) (fun e => geti (get (g e)) (fi e)) g := by
  obtain ⟨ti, i1, i2⟩ := hi
  obtain ⟨jj, q, te, rd, hj, o1, o2⟩ := hl
  refine ⟨_, pe_ix ix_list o1 i1 hs, fun w H σ env Q G qq hP k => ?_⟩
  obtain ⟨v0, e1, e2, e3, e4, e5⟩ := o2 w H σ _ G qq
  refine e2 _ (i2 w H σ env _ G qq hP.1 fun iv w2 H2 p2 hiv => ?_)
  have f2 := o2.again p2 hp e4 e5
  obtain ⟨a, vs, z1, z2, z3, z4, z5⟩ := f2.here
  cases z1
  obtain ⟨x, hx⟩ := Option.isSome_iff_exists.mp hP.2
  obtain ⟨z, hz, hF⟩ := paired_at z4 hx
  refine ⟨a, vs, _, z, rfl, hiv, SqL.of z3, hz, k z w2 H2 p2 ?_⟩
  rw [show geti (get (g env)) (fi env) = x by unfold geti; rw [hx]; rfl]
  exact hF
theorem tx_dgetAt [Inhabited β] {fi : E → κ} {get : E → List (κ × β)} {set : E → List (κ × β) → E} (hkk : ∀ H v x, rk.rep H v x → v = kV (kk.key x)) (hu : X.A.units + 1 < cLine) (hl : TL X R o (od kk s) st get set) (hi : TX X R i rk li p Pi fi g) (hp : p = true ∨ st = true) (hs : NoSl i := by exact fun _ _ => rfl) :
    TX X R (.Subscript o i pos) s true p (fun e => Pi e ∧ (dget (get (g e)) (fi e)).isSome = true) (fun e => (dget (get (g e)) (fi e)).getD default) g := by
  obtain ⟨ti, i1, i2⟩ := hi
  obtain ⟨jj, q, te, rd, hj, o1, o2⟩ := hl
  refine ⟨_, pe_dget hu o1 i1 hs, fun w H σ env Q G qq hP k => ?_⟩
  obtain ⟨v0, e1, e2, e3, e4, e5⟩ := o2 w H σ _ G qq
  refine e2 _ (i2 w H σ env _ G qq hP.1 fun iv w2 H2 p2 hiv => ?_)
  have f2 := o2.again p2 hp e4 e5
  obtain ⟨a, kvs, z1, z2, z3, z4, z5, z6⟩ := f2.here
  cases z1
  rcases drel_get (k := fi env) z4 with ⟨q1, q2⟩ | ⟨x, u, q1, q2, q3⟩
  · have := hP.2
    rw [q1] at this
    cases this
  · refine ⟨a, u, rfl, ?_, k u w2 H2 p2 ?_⟩
    · rw [hkk _ _ _ hiv, ← q2]
      exact DGet.k z3
    · rw [q1]
      exact q3
end
/-! ### {k: v, ..} -/
structure TDs (X : Cx) {E : Type} (R : ER E) (pos : Pos) (keys : List (Option Expr)) (values : List Expr) {κ β : Type} (kk : Kp κ) (s : Rp β) (n : Nat) (p : Bool) (P : E → Prop) (f : E → List (κ × β)) (g : E → E) : Prop where
  len : keys.length = n ∧ values.length = n ∧ keys.all (·.isSome) = true ∧ ∀ e, (f e).length = n
  ex : ∃ trs, PPs X pos keys values trs ∧ ∀ (w : Own) (H : Hp) (σ : L2.St) (env : E) (Q : List (V × V) → Hp → Prop), Good w H → R.rel w H [] 2 σ env → P env →
    (∀ kvs w' H', Post p R w H w' H' σ (g env) → DRel kk s (fz w' H') kvs (f env) → Q (kvs.map fun kv => (kV kv.1, kv.2)) H') → tPairs trs σ H Q
section
variable {X : Cx} {E : Type} {R : ER E} {pos : Pos} {κ β : Type} [DecidableEq κ] {kk : Kp κ} {rk : Rp κ} {s : Rp β} {a b : Expr} {keys : List (Option Expr)} {values : List Expr} {la lb pa pb p : Bool} {Pa Pb P : E → Prop} {ga gb g : E → E} {n : Nat}
theorem tds_nil : TDs X R pos [] [] kk s 0 true (fun _ => True) (fun _ => []) (fun e => e) := ⟨⟨rfl, rfl, rfl, fun _ => rfl⟩, [], pps_nil, fun w H σ env Q G q _ k => k [] w H (.refl G q) .nil⟩
theorem tds_cons {fa : E → κ} {fb : E → β} {f : E → List (κ × β)} (hkk : ∀ H v x, rk.rep H v x → v = kV (kk.key x)) (ha : TX X R a rk la pa Pa fa ga) (hb : TX X R b s lb pb Pb fb gb) [Up lb s] (h : TDs X R pos keys values kk s n p P f g) :
    TDs X R pos (some a :: keys) (b :: values) kk s (n + 1) (pa && pb && p) (fun e => Pa e ∧ Pb (ga e) ∧ P (gb (ga e))) (fun e => (fa e, fb (ga e)) :: f (gb (ga e))) (fun e => g (gb (ga e))) := by
  obtain ⟨t, h1, h2⟩ := ha
  obtain ⟨u, k1, k2⟩ := hb
  obtain ⟨⟨l1, l2, l3, l4⟩, trs, m1, m2⟩ := h
  refine ⟨⟨by rw [List.length_cons, l1], by rw [List.length_cons, l2], by simpa using l3, fun e => by rw [List.length_cons, l4]⟩, _, pps_cons h1 k1 m1, fun w H σ env Q G q hP k => h2 w H σ env _ G q hP.1 fun v w1 H1 p1 hv => k2 w1 H1 σ _ _ p1.good p1.env hP.2.1 fun x w2 H2 p2 hx => m2 w2 H2 σ _ _ p2.good p2.env hP.2.2 fun kvs w3 H3 p3 hd => ?_⟩
  have e := hkk _ _ _ hv
  subst e
  exact k ((kk.key (fa env), x) :: kvs) w3 H3 ((p1.trans p2).trans p3) (.cons ⟨rfl, s.mono p3.sm (Up.up (lv := lb) _ _ _ _ hx)⟩ hd)
theorem tm_disp {f : E → List (κ × β)} (h : TDs X R pos keys values kk s n p P f g) (h0 : keys ≠ []) (hn : n ≤ 15) : TM X R (.Dict keys values pos) kk s p P (fun e => dmerge [] (f e)) g := by
  obtain ⟨⟨l1, l2, l3, l4⟩, trs, m1, m2⟩ := h
  refine ⟨_, pe_disp m1 l3 (by rw [l1, l2]) h0 (by rw [l1]; exact hn), fun w H σ env Q G q hP k => fun D hD => ?_⟩
  have hwD : w D = none := G.new hD
  have tagD : ∀ {a : Addr} {t : Tag}, w a = some t → a ≠ D := fun {a t} ha z => by rw [z, hwD] at ha; cases ha
  refine m2 (hid D w) (upd H D (.dK [])) σ env _ (fun a t ha => ?_) (R.keep q (fz_hid hD) fun a j t _ ha => ⟨by rw [hid_ne (tagD ha)]; exact ha, upd_ne (tagD ha)⟩) hP fun kvs w' H' hp hd => ?_
  · by_cases e : a = D
    · rw [e, upd_same]
      exact fun z => nomatch z
    · rw [hid_ne e] at ha
      rw [upd_ne e]
      exact G a t ha
  · obtain ⟨d1, d2⟩ := hp.fk D 0 [] (by omega) hid_same
    rw [upd_same] at d2
    have hlen : kvs.length = n := by rw [Paired.length hd, l4]
    refine ⟨d2, kvs, rfl, by omega, ?_⟩
    have key := k D (mergeK [] kvs) (unh D w') (er D H') (by unfold er; rw [if_pos rfl]) ?_ ?_ (dmerge_nodup List.nodup_nil) (Nat.le_trans dmerge_len (by rw [List.length_nil, l4, show LIM = 1000000 from rfl]; omega))
    · have e : upd (er D H') D (.dK (mergeK [] kvs)) = upd H' D (.dK (mergeK [] kvs)) := by
        funext a
        unfold upd er
        by_cases e : a = D
        · rw [if_pos e, if_pos e]
        · rw [if_neg e, if_neg e, if_neg e]
      rw [e] at key
      exact key
    · have erne : ∀ {a : Addr}, a ≠ D → er D H' a = H' a := fun {a} e => by unfold er; rw [if_neg e]
      refine ⟨fun a t ha => ?_, ?_, fun a j u hj ha => ?_, ?_, fun z => ?_⟩
      · have e : a ≠ D := fun z => by rw [z] at ha; unfold unh at ha; rw [if_pos rfl] at ha; cases ha
        rw [unh_ne e] at ha
        rw [erne e]
        exact hp.good a t ha
      · rw [fz_unh d1]
        exact (fz_hid hD).trans hp.sm
      · obtain ⟨c1, c2⟩ := hp.fk a j u hj (by rw [hid_ne (tagD ha)]; exact ha)
        exact ⟨by rw [unh_ne (tagD ha)]; exact c1, by rw [erne (tagD ha), c2, upd_ne (tagD ha)]⟩
      · refine R.keep hp.env (by rw [fz_unh d1]; exact .refl _) fun a j u hj ha => ?_
        have e : a ≠ D := fun z => by
          rw [z, d1] at ha
          cases ha
          omega
        exact ⟨by rw [unh_ne e]; exact ha, erne e⟩
      · obtain ⟨c1, c2, c3⟩ := hp.pur z
        subst c1
        refine ⟨?_, fun b o hb => ?_, fun a t ha => ?_⟩
        · funext a
          unfold unh hid
          by_cases e : a = D
          · rw [if_pos e, e, hwD]
          · rw [if_neg e, if_neg e]
        · have e : b ≠ D := ne_of_none hb hD
          have h2 : upd H D (.dK []) b = some o := by rw [upd_ne e]; exact hb
          rw [erne e]
          exact c2 b o h2
        · rw [erne (tagD ha), c3 a t (by rw [hid_ne (tagD ha)]; exact ha), upd_ne (tagD ha)]
    · rw [fz_unh d1]
      exact drel_merge hd List.nodup_nil .nil
end
section
variable {P : Program} {w0 : World} {K : PySem.W.Frag} {mg : Str → Option Value} {base : Heap} {ps : List Str} {F F' : Type} {α ρ : Type} {t : Tp α} {S : SR F} {S' : SR F'} {RR : RS ρ} {kk : Nat} {fn : F → α → ρ × F'} {fa : Addr} {fd : FuncData}
theorem fn_false : FnOk P w0 K mg base CX0 kk fa fd ps (spM S S' t RR (fun _ _ => False) fn) :=
  ⟨fun _ _ _ _ ⟨_, _, _, _, _, _, _, _, _, h, _⟩ => h.elim, fun _ _ _ _ _ _ _ _ _ _ _ _ _ ⟨_, _, _, _, _, _, _, _, _, h, _⟩ => h.elim⟩
theorem fnP_false {fn : α → ρ} : FnOk P w0 K mg base CX0 kk fa fd ps (spP t RR (fun _ => False) fn) :=
  ⟨fun _ _ _ _ ⟨_, _, _, _, h, _⟩ => h.elim, fun _ _ _ _ _ _ _ _ _ _ _ _ _ ⟨_, _, _, _, h, _⟩ => h.elim⟩
end
theorem lvr {k k0 n : Nat} (h : k ≤ k0) : k ≤ Nat.add k0 n := Nat.le_trans h (Nat.le_add_right _ _)
/-- a body that always returns -/
def NN {E ρ : Type} (o : Out E ρ) : Prop := ∀ e, o ≠ .nx e
theorem nn_rt {E ρ : Type} {r : ρ} : NN (.rt r : Out E ρ) := fun _ h => nomatch h
theorem nn_if {E ρ : Type} {c : Prop} [Decidable c] {a b : Out E ρ} (ha : NN a) (hb : NN b) : NN (if c then a else b) := by
  by_cases h : c
  · rw [if_pos h]
    exact ha
  · rw [if_neg h]
    exact hb
theorem nn_bind {E E' ρ : Type} {o : Out E ρ} {k : E → Out E' ρ} (h : ∀ e, NN (k e)) : NN (o.bind k) := by
  cases o with
  | nx e => exact h e
  | rt r => exact nn_rt
theorem nn_match {E E' ρ : Type} {o : Out E ρ} {k : E → Out E' ρ} (h : ∀ e, NN (k e)) : NN (match o with | .nx e => k e | .rt r => .rt r) := nn_bind (o := o) h
end Lmo
end
section
set_option Elab.async false
set_option linter.all false
set_option maxRecDepth 100000
set_option maxHeartbeats 4000000
namespace Lmo
open PySem L2
open PyProof.Rows (envOfC)
section
variable {E : Type} {R : ER E} {α ρ : Type} {t : Tp α} {fa : Addr} {fd : FuncData} {ps : List Str}
theorem fnP2 {P : Program} {w0 : World} {K : PySem.W.Frag} {mg : Str → Option Value} {base : Heap} {qual : Str} {st : Stmt} {N : List Str} {E1 : Type} {R1 : ER E1} {RR : RS ρ} {init : α → E} {Pb : E → Prop} {fb : E → Out E1 ρ} {fin : E1 → ρ} {kk : Nat} {nm : Str} {Pre : α → Prop} {fo : α → Out E1 ρ}
    (F : FnD K nm qual st fa fd) (S : FnScope N ps (defScope st)) (hl : ∀ H vs a, t.rep H vs a → vs.length = ps.length) (s0 : St0 t N.length R init)
    (body : ∀ (cdv : Value) (A : Around) (outer : List Env) (s : Shared) (H : Hp) (Ex : XK), Room kk (A.deeper (envOfC qual (defScope st) s.heap.objs.size fa cdv)) →
      TS (cxOf CX0 P w0 K mg base N qual (defScope st) fa cdv A outer s H Ex).nox R (defBody st) R1 RR Pb fb)
    (ho : ∀ a, fb (init a) = fo a) (hp : ∀ a, Pb (init a) = Pre a) (hfin : (∀ w H e, RR w H .non (fin e)) ∨ ∀ a e, fo a ≠ .nx e) :
    FnOk P w0 K mg base CX0 (kk + 1) fa fd ps (spP t RR Pre fun a => (fo a).get fin) :=
  fnP F S hl s0 body (hfin.imp id fun h a e => by rw [ho]; exact h a e) (fun a h => by rw [hp]; exact h) fun a _ => by rw [ho]
end
section
variable {P : Program} {w0 : World} {K : PySem.W.Frag} {mg : Str → Option Value} {base : Heap} {qual : Str} {st : Stmt} {N ps : List Str} {E E1 F F' : Type} {α ρ : Type} {t : Tp α} {S : SR F} {S' : SR F'} {Rt : ER E} {R1 : V → ER E1} {RR : RS ρ} {init : α → E} {Pb : F × E → Prop} {fb : F × E → Out E1 (ρ × F')} {fin : E1 → ρ × F'} {kk : Nat} {nm : Str} {Pre : F → α → Prop} {fo : F → α → Out E1 (ρ × F')} {fa : Addr} {fd : FuncData}
theorem fnM2 (F0 : FnD K nm qual st fa fd) (Sc : FnScope N ps (defScope st)) (hl : ∀ H vs a, t.rep H vs a → vs.length + 1 = ps.length) (s0 : St0 t (N.length - 1) Rt init) (hN : 1 ≤ N.length)
    (body : ∀ (v0 : V) (cdv : Value) (A : Around) (outer : List Env) (s : Shared) (H : Hp) (Ex : XK), Room kk (A.deeper (envOfC qual (defScope st) s.heap.objs.size fa cdv)) →
      TS (cxOf CX0 P w0 K mg base N qual (defScope st) fa cdv A outer s H Ex).nox (ec (pin v0 S) Rt) (defBody st) (R1 v0) (rsM v0 S' RR) Pb fb)
    (ho : ∀ s a, fb (s, init a) = fo s a) (hp : ∀ s a, Pb (s, init a) = Pre s a) (hfin : (∀ v0 w H σ e, (R1 v0).rel w H [] 2 σ e → rsM v0 S' RR w H .non (fin e)) ∨ ∀ s a e, fo s a ≠ .nx e) :
    FnOk P w0 K mg base CX0 (kk + 1) fa fd ps (spM S S' t RR Pre fun s a => (fo s a).get fin) :=
  fnM F0 Sc hl s0 hN body (hfin.imp id fun h s a e => by rw [ho]; exact h s a e) (fun s a h => by rw [hp]; exact h) fun s a _ => by rw [ho]
end
end Lmo
end
section
set_option Elab.async false
set_option linter.all false
set_option maxRecDepth 100000
set_option maxHeartbeats 4000000
namespace Lmo
open PySem PySem.Spec PyProof.Rows L2
/-! ### the script: a list of ints that the harness hands in -/
theorem sql_mono {K : PySem.W.Frag} {H H' : Hp} (l : Le H H') {a : Addr} {xs : List V} (h : SqL K H a xs) : SqL K H' a xs := by
  rcases h with (h | ⟨o, h⟩) | h
  · exact .inl (.inl (l.lst h))
  · exact .inl (.inr ⟨o, l.frz h⟩)
  · exact .inr h
def rScr (K : PySem.W.Frag) : Rp (List Int) := ⟨fun H v xs => ∃ a, v = .ref a ∧ SqL K H a (xs.map V.int) ∧ xs.length ≤ LIM, fun l ⟨a, h1, h2, h3⟩ => ⟨a, h1, sql_mono l h2, h3⟩⟩
section
variable {X : Cx} {E : Type} {R : ER E} {pos : Pos} {a b tg : Expr} {la lb pa pb lv p : Bool} {Pa Pb P : E → Prop} {ga gb g : E → E}
theorem c_lenS : CalF X (.builtin "len") (tp1 (rScr X.K)) rInt (fun _ => True) fun xs => (xs.length : Int) := ⟨_, call_len, fun H vs x Q h _ k => by
  obtain ⟨v, rfl, a, rfl, h2, h3⟩ := h
  exact ⟨_, x.length, rfl, .inl ⟨_, h2, by rw [List.length_map]⟩, k _ rfl⟩⟩
theorem tx_ixS {fa : E → List Int} {fb : E → Int} (ha : TX X R a (rScr X.K) la pa Pa fa ga) (hb : TX X R b rInt lb pb Pb fb gb) (hl : (la || pb) = true := by rfl) (hs : PlainIx b := by exact fun _ _ => rfl) :
    TX X R (.Subscript a b pos) rInt true (pa && pb) (fun e => Pa e ∧ Pb (ga e) ∧ (at? (fa e) (fb (ga e))).isSome = true) (fun e => geti (fa e) (fb (ga e))) (fun e => gb (ga e)) := by
  obtain ⟨t, h1, h2⟩ := ha
  obtain ⟨u, k1, k2⟩ := hb
  refine ⟨_, pe_ix ix_list h1 k1 hs, fun w H σ env Q G q hP k => h2 w H σ env _ G q hP.1 fun v w' H' p hv => ?_⟩
  refine k2 w' H' σ _ _ p.good p.env hP.2.1 fun i w2 H2 p2 hi => ?_
  obtain ⟨c, e1, e2, e3⟩ := (rScr X.K).mono (p2.vw hl) hv
  obtain ⟨x, hx⟩ := Option.isSome_iff_exists.mp hP.2.2
  obtain ⟨z, hz, hF⟩ := paired_at (paired_ints (H := H2) (fa env)) hx
  refine ⟨c, _, _, z, e1, hi, sql_mono vw_le e2, hz, k z w2 H2 (p.trans p2) ?_⟩
  rw [show geti (fa env) (fb (ga env)) = x by unfold geti; rw [hx]; rfl]
  exact hF
theorem ti_scr {f : E → List Int} (h : TX X R a (rScr X.K) lv p P f g) : TI X R tg a rInt lv p P f g := by
  obtain ⟨t, h1, h2⟩ := h
  refine ⟨_, pi_list h1, fun w H σ env Rk G q hP k => h2 w H σ env _ G q hP fun v w' H' hp hv => ?_⟩
  obtain ⟨c, rfl, e2, e3⟩ := hv
  refine ⟨c, rfl, ⟨_, sql_mono vw_le e2⟩, ?_⟩
  have wk := walk_list (K := X.K) (a := c) (xs := (f env).map V.int)
  rw [List.length_map] at wk
  refine k _ w' H' _ _ hp e3 wk (fun w2 H2 l => sql_mono vw_le (sql_mono l e2)) fun i v H2 H3 w2 G2 l hi y => ?_
  obtain ⟨rfl, hy⟩ := y
  obtain ⟨x, hx, hF⟩ := paired_get2 (paired_ints (H := vw lv w2 H3) (f env)) hy
  exact ⟨⟨.refl _, fun _ _ _ => rfl⟩, x, hx, hF⟩
end
/-- the law's end: each world has its own fragment; the numbers' sizes are told -/
theorem walk_bits {law : PySem.W.OpenLaw} {most k : Nat} {pr : Program} {lo : List Str} {XP : (Str → Option Value) → Heap → Prop} {YP : World → Heap → Prop} {dr : DefRec} {CX : CXT} {par : Str}
    (h1 : law.most = some most) (h2 : most ≤ sizeLine) (h3 : dr.params.defaults = []) (room : Room k callerA)
    (F : ∀ (w : World) (mg : Str → Option Value) (f : Addr) (h : Heap), YP w h → h.Ns mainGlobals mg → mg dr.name = some (.ref f) →
      ∃ (K : PySem.W.Frag) (fd : FuncData) (sp : Sp), K.In h ∧ (∀ (s : Shared) (u : Value), BindsTo s fd ⟨[u], []⟩ [(par, u)]) ∧
        (∀ (H : Hp) (b : Addr) (zs : List Int), zs.length ≤ most → (∀ z ∈ zs, Builtin.Int.intBits z ≤ 1048576) → SqL K H b (zs.map V.int) → sp [.ref b] H (fun v _ => v = .bl true) fun _ _ _ => False) ∧
        ∀ base : Heap, K.In base → base.Ns mainGlobals mg → FnOk law.prog w K mg base CX k f fd [par] sp)
    (none_ : ∀ (H : Hp) (s : Shared) (e : Value) (s' : Shared), CX [] H s (fun _ _ _ => False) e s' → False) :
    PySem.W.WalkO pr lo XP YP law.row.toRowW dr [] (fun f vs => PySem.call f vs) := by
  refine Att.attach_callB h1 h3 fun w s0 s1 mg mb f o pm cd doc b us zs gr y _ _ _ at_ lay are few bits gens => ?_
  obtain ⟨K, fd, sp, kin, bind, say, ok⟩ := F w mg f _ y gr.T.g at_
  exact law_call kin gr.T.g gr.T.b gr.T.builtins gr.T.nolimit gens lay are (Nat.le_trans few h2) room ok bind (fun H _ hs => say H b zs few bits hs) fun H e s' => none_ H s1 e s'
end Lmo
end
section
set_option Elab.async false
set_option linter.all false
set_option maxRecDepth 100000
set_option maxHeartbeats 4000000
namespace Lmo
open PySem L2
/-! ### isinstance of a value whose kind is told -/
/-- the type's name that a value of r has -/
class Knd {α : Type} (r : Rp α) (n : outParam String) : Prop where
  ty : ∀ {K : PySem.W.Frag} {H : Hp} {v : V} {x : α}, r.rep H v x → TyX K H v (.type n)
instance : Knd rInt "int" := ⟨fun {K H v x} h => by cases (show v = .int x from h); exact .base (.int x)⟩
instance : Knd rBool "bool" := ⟨fun {K H v x} h => by cases (show v = .bl x from h); exact .base (.bl x)⟩
instance : Knd rStr "str" := ⟨fun {K H v x} h => by cases (show v = .str x from h); exact .base (.str x)⟩
instance : Knd rNon "NoneType" := ⟨fun {K H v x} h => by cases (show v = .non from h); exact .base .non⟩
instance {α : Type} (r : Rp α) : Knd (rList r) "list" := ⟨fun {K H v x} ⟨a, vs, h, h2, _⟩ => by cases h; exact .base (.lst h2)⟩
instance {α : Type} (t : Tp α) : Knd (rTup t) "tuple" := ⟨fun {K H v x} ⟨a, vs, h, h2, _⟩ => by cases h; exact .base (.tup h2)⟩
instance {κ β : Type} (k : Kp κ) (r : Rp β) : Knd (rDict k r) "dict" := ⟨fun {K H v x} ⟨a, o, kvs, h, h2, h3, _⟩ => by
  cases h
  rcases nrm_dK h3 with rfl | ⟨ob, rfl⟩
  · exact .base (.dK h2)
  · exact .fDict h2⟩
section
variable {X : Cx} {E : Type} {R : ER E} {pos np tp : Pos} {α β : Type} {r : Rp α} {e : Expr} {lv p : Bool} {P : E → Prop} {f : E → α} {g : E → E} {x : Str}
/-- isinstance(e, T), T a built-in type: the answer is told by the kind -/
theorem tx_isi {n m : String} [Knd r n] {b : Bool} (ha : TX X R e r lv p P f g) (hgT : Gl X x) (hmT : X.mg x = none) (hvT : bootBuiltins x = some (.type m)) (hk : kitB n m = some b) (hg : Gl X "isinstance") (hm : X.mg "isinstance" = none)
    (hnT : x ≠ "__name__" := by decide) (hdT : (x == ("__debug__" : Str)) = false := by decide)
    (he : starEach [e, .Name x tp] X.env = (false, eval e X.env) :: starEach [.Name x tp] X.env := by rfl) (he2 : starEach [.Name x tp] X.env = (false, eval (.Name x tp) X.env) :: starEach [] X.env := by rfl) (hpl : (backTo pos (starEach [.Name x tp] X.env)).any (·.1) = false := by rfl) :
    TX X R (.Call (.Name "isinstance" np) [e, .Name x tp] [] pos) rBool true p P (fun _ => b) g := by
  obtain ⟨t, h1, h2⟩ := ha
  have hT : PE X (.Name x tp) (tC (.ty m)) := pe_bltn hgT hmT hvT rfl hnT hdT
  refine ⟨_, pe_callB call_isi hg hm (by rfl) (pa_cons h1 (pa_cons hT pa_nil he2) he) (by decide) (by decide) he hpl, fun w H σ env Q G q hP k => h2 w H σ env _ G q hP fun v w' H' hp hr => ?_⟩
  exact ⟨v, .ty m, .type n, .type m, b, rfl, .ty m, Knd.ty (r.mono vw_le hr), kit_ty hk, k _ w' H' hp rfl⟩
/-- a module's int -/
theorem tx_gint {i : Int} (hg : Gl X x) (hm : ∃ t, X.mg x = some (.int i t)) (hd : (x == ("__debug__" : Str)) = false := by decide) : TX X R (.Name x pos) rInt true true (fun _ => True) (fun _ => i) (fun e => e) := by
  obtain ⟨t, hm⟩ := hm
  exact tx_c (pe_glob (v := .int i) hg hm ⟨t, rfl⟩ hd) fun _ => rfl
end
/-! ### xs.pop(i) -/
def popi {α : Type} (xs : List α) (i : Int) : List α := match ixN xs.length i with
  | none => xs
  | some k => xs.eraseIdx k
theorem paired_erase {F : V → α → Prop} : ∀ {vs : List V} {xs : List α} (k : Nat), Paired F vs xs → Paired F (vs.eraseIdx k) (xs.eraseIdx k)
  | _, _, _, .nil => .nil
  | _, _, 0, .cons _ t => t
  | _, _, k + 1, .cons h t => .cons h (paired_erase k t)
theorem popi_len {α : Type} (xs : List α) (i : Int) : (popi xs i).length ≤ xs.length := by
  unfold popi
  cases ixN xs.length i with
  | none => exact Nat.le_refl _
  | some k => exact List.length_eraseIdx_le xs k
section
variable {X : Cx} {E : Type} {R : ER E} {pos np tp : Pos} {α : Type} {r : Rp α} {e o : Expr} {lv p st : Bool} {P : E → Prop} {f : E → Int} {g : E → E}
theorem tx_popAt [Inhabited α] {get : E → List α} {set : E → List α → E} (hl : TL X R o (ol r) st get set) (h : TAs X R [e] (tp1 rInt) lv p P f g) (hp : p = true ∨ st = true) {ap : Pos}
    (hbm : ∀ to ta, PE X o to → PA X [e] ta → PE X (.Call (.Attribute o "pop" ap) [e] [] pos) (tBM X.K "list" rPopAt to ta)) :
    TX X R (.Call (.Attribute o "pop" ap) [e] [] pos) r true false (fun e => P e ∧ (at? (get (g e)) (f e)).isSome = true) (fun e => geti (get (g e)) (f e)) (fun e => set (g e) (popi (get (g e)) (f e))) := by
  obtain ⟨ta, h1, h2⟩ := h
  obtain ⟨jj, q, te, rd, hj, o1, o2⟩ := hl
  refine ⟨_, hbm _ _ o1 h1, fun w H σ env Q G qq hP k => ?_⟩
  obtain ⟨v0, e1, e2, e3, e4, e5⟩ := o2 w H σ _ G qq
  obtain ⟨a, vs, z0, _, g4, _, _⟩ := e3.here
  cases z0
  refine e2 _ ⟨.inl ⟨rfl, vs, SqL.of g4⟩, h2 w H σ env _ G qq hP.1 fun us w' H' p2 hv => ?_⟩
  obtain ⟨v, rfl, hv⟩ := hv
  cases (show v = .int (f env) from hv)
  have f2 := o2.again p2 hp e4 e5
  obtain ⟨c, vs', z1, z2, z3, z4, z5⟩ := f2.here
  cases z1
  obtain ⟨x, hx⟩ := Option.isSome_iff_exists.mp hP.2
  have hl4 := Paired.length z4
  cases ei : ixN (get (g env)).length (f env) with
  | none =>
    unfold at? at hx
    rw [ei] at hx
    cases hx
  | some j =>
    obtain ⟨i1, i2, i3, i4⟩ := ixN_seq ei
    obtain ⟨u, hu, hF⟩ := paired_at z4 hx
    have hu' : vs'[j]? = some u := by
      unfold atI at hu
      rw [hl4, ei] at hu
      exact hu
    have hlim : (get (g env)).length ≤ LIM := z5
    have hL : (LIM : Nat) = 1000000 := rfl
    have epop : popi (get (g env)) (f env) = (get (g env)).eraseIdx j := by
      unfold popi
      rw [ei]
    obtain ⟨a1, a2⟩ := foc_upd (u := .lst (vs'.eraseIdx j)) (x := popi (get (g env)) (f env)) hj p2.good f2 z2 ⟨a, _, rfl, z2, upd_same, by
      rw [fz_tag z2, epop]
      exact paired_erase j z4, Nat.le_trans (popi_len _ _) z5⟩
    refine ⟨a, vs', f env, j, u, rfl, rfl, z3, by omega, by omega, by rw [hl4]; exact i1, hu', k u w' _ ?_ ?_⟩
    · have p3 : Post false R w' H' w' (upd H' a (.lst (vs'.eraseIdx j))) σ (set (g env) (popi (get (g env)) (f env))) := ⟨a1.good, a1.le, fun b i t hi hb => ⟨hb, upd_ne fun z => by
        rw [z, z2] at hb
        have := (List.cons.inj (Option.some.inj hb)).1
        omega⟩, a2, fun z => nomatch z⟩
      exact (p2.trans p3).weak (by simp)
    · show r.rep (fz w' (upd H' a (.lst (vs'.eraseIdx j)))) u (geti (get (g env)) (f env))
      rw [fz_tag z2, show geti (get (g env)) (f env) = x by unfold geti; rw [hx]; rfl]
      exact hF
end
end Lmo
end
section
set_option Elab.async false
set_option linter.all false
set_option maxRecDepth 100000
set_option maxHeartbeats 4000000
namespace Lmo
open PySem L2
section
variable {X : Cx} {E : Type} {R : ER E} {pos : Pos} {α : Type}
/-! ### is, is not of bools; in a list -/
theorem o_isB : OpF X (compareOp .Is) rBool rBool rBool (fun _ _ => True) fun x y => decide (x = y) := ⟨_, op_isBl, fun H v u x y Q h1 h2 _ k => ⟨x, y, h1, h2, k _ rfl⟩⟩
theorem o_notB : OpF X (compareOp .IsNot) rBool rBool rBool (fun _ _ => True) fun x y => !decide (x = y) := ⟨_, op_notBl, fun H v u x y Q h1 h2 _ k => ⟨x, y, h1, h2, k _ rfl⟩⟩
theorem inV_int (x : Int) : ∀ xs : List Int, inV (V.int x) (xs.map V.int) = decide (x ∈ xs)
  | [] => rfl
  | y :: xs => by
    have ih := inV_int x xs
    unfold inV at ih ⊢
    rw [List.map_cons, List.any_cons, ih]
    show ((y == x) || decide (x ∈ xs)) = _
    by_cases h : y = x
    · subst h
      simp
    · have : (y == x) = false := by simpa using h
      rw [this]
      by_cases h2 : x ∈ xs
      · simp [h2]
      · have h3 : ¬ x = y := fun z => h z.symm
        simp [h2, List.mem_cons, h3]
theorem flat_ints : ∀ xs : List Int, (xs.map V.int).all flatV = true
  | [] => rfl
  | _ :: xs => by
    rw [List.map_cons, List.all_cons, flat_ints xs]
    rfl
theorem o_inI : OpF X (compareOp .In) rInt (rList rInt) rBool (fun _ _ => True) fun x xs => decide (x ∈ xs) := ⟨_, op_in_seq, fun H v u x xs Q h1 h2 _ k => by
  obtain ⟨a, us, rfl, h3, h4, _⟩ := h2
  cases (show v = .int x from h1)
  rw [paired_int h4] at h3
  exact ⟨a, _, rfl, .inl (SqL.of h3), rfl, flat_ints xs, k _ (by rw [inV_int]; rfl)⟩⟩
theorem o_ninI : OpF X (compareOp .NotIn) rInt (rList rInt) rBool (fun _ _ => True) fun x xs => !decide (x ∈ xs) := ⟨_, op_notIn_seq, fun H v u x xs Q h1 h2 _ k => by
  obtain ⟨a, us, rfl, h3, h4, _⟩ := h2
  cases (show v = .int x from h1)
  rw [paired_int h4] at h3
  exact ⟨a, _, rfl, .inl (SqL.of h3), rfl, flat_ints xs, k _ (by rw [inV_int]; rfl)⟩⟩
/-- a list of what is there is a list of what may be there -/
theorem paired_some {r : Rp α} [NNon r] {H : Hp} : ∀ {vs : List V} {xs : List α}, Paired (r.rep H) vs xs → Paired ((rOpt r).rep H) vs (xs.map some)
  | _, _, .nil => .nil
  | _, _, .cons h t => .cons ⟨h, NNon.ne _ _ _ h⟩ (paired_some t)
theorem tx_lsome {e : Expr} {r : Rp α} [NNon r] {lv p : Bool} {P : E → Prop} {f : E → List α} {g : E → E} (h : TX X R e (rList r) lv p P f g) : TX X R e (rList (rOpt r)) lv p P (fun e => (f e).map some) g := by
  obtain ⟨t, h1, h2⟩ := h
  refine ⟨t, h1, fun w H σ env Q G q hP k => h2 w H σ env Q G q hP fun v w' H' hp hr => k v w' H' hp ?_⟩
  obtain ⟨a, vs, e1, e2, e3, e4⟩ := hr
  exact ⟨a, vs, e1, e2, paired_some e3, by rw [List.length_map]; exact e4⟩
end
end Lmo
end
section
set_option Elab.async false
set_option linter.all false
set_option maxRecDepth 100000
set_option maxHeartbeats 4000000
namespace Lmo
open PySem PySem.Spec PyProof.Rows L2
/-! ### sorted(d.items()), ints to ints -/
section
variable {prog : Program} {w : World} {A : Around} {E : Value → Shared → Prop} {s : Shared} {r d : Addr} {K : Type} [DecidableEq K] {knd : KeyKind prog w K} {kvs : List (K × Value)} {ep : Nat}
theorem sorted_items {Q : Value → Shared → Prop} (hh : A.handled = none) (hv : s.heap.IsItemsView r d) (hm : s.heap.DictAt knd d kvs ep) (hn : kvs.length ≤ sizeLine)
    (h : ∀ (h' : Heap) (tk : Nat) (as : List Addr), (∀ b o, s.heap.get? b = some o → h'.get? b = some o) → as.length = kvs.length → PySem.W.KdxG knd kvs s.heap.objs.size h' as →
      wpAny (model prog w) A.in1 (call (.builtin "list.sort") [.ref h'.objs.size]) (fun _ s' => Q (.ref h'.objs.size) s') E { s with heap := h'.push { cls := .type "list", data := .seq (as.map Value.ref).toArray }, toks := tk }) :
    wpAny (model prog w) A (call (.builtin "sorted") [.ref r]) Q E s := by
  refine Calls.call_function_entry kind_sorted plain_sorted entry_sorted (args_sorted1 _) ?_
  unfold Builtin.«sorted»
  refine wpAny_bind (m := checkCount "sorted" 1 1 _) (wpAny_pure ?_)
  refine wpAny_bind (PySem.W.kdx_collect (A := A.in1) (knd := knd) (kvs := kvs) (ep := ep) hh hv hm hn fun h' tk as hk hl hG => ?_)
  refine wpAny_bind (wpAny_newList ?_ (by rw [List.length_map, hl]; exact hn))
  have hg := h h' tk as hk hl hG
  refine wpAny_bind (wpAny_holding (wpAny_mono hg (fun _ s' x => ?_) fun _ _ e => e))
  exact wpAny_pure ⟨_, rfl, x⟩
end
section
variable {X : Cx}
/-- the pairs that were made are tracked -/
theorem tups_laid {pins : List (Addr × Obj)} {σ : L2.St} {H : Hp} {s : Shared} {h' : Heap} {tk : Nat} {kvs : List (Key × V)} {vs : List (Key × Value)} {as : List Addr} (I : Inv X pins σ H s) (kv : KV kvs vs)
    (hk : ∀ b o, s.heap.get? b = some o → h'.get? b = some o) (hl : as.length = vs.length) (hG : PySem.W.KdxG (mixKind X.prog X.w) vs s.heap.objs.size h' as) :
    ∃ H' : Hp, (∀ b o, H b = some o → H' b = some o) ∧ (∀ t ∈ as, H t = none) ∧ Paired (fun (t : Addr) (q : Key × V) => H' t = some (.tup [kV q.1, q.2])) as kvs ∧ Inv X pins σ H' { s with heap := h', toks := tk } := by
  have lk : kvs.length = vs.length := Paired.length kv
  have nd : as.Nodup := List.Pairwise.imp (fun {a b} (h : a < b) => Nat.ne_of_lt h) hG.rise
  have new : ∀ t ∈ as, H t = none := fun t ht => I.hok.fresh (Nat.le_of_lt (hG.above t ht))
  have atP := LiI.putT_at as kvs H (by omega) nd
  have off : ∀ b, b ∉ as → LiI.putT H as kvs b = H b := fun b h1 => LiI.putT_off as kvs _ h1
  have low : ∀ b o, s.heap.get? b = some o → b ∉ as := fun b o e z => absurd (Heap.lt_size e) (Nat.not_lt.mpr (Nat.le_of_lt (hG.above b z)))
  have kp : ∀ b u, H b = some u → (LiI.putT H as kvs) b = some u := fun b u e => by
    rw [off b (fun z => by rw [new b z] at e; cases e)]
    exact e
  refine ⟨LiI.putT H as kvs, kp, new, atP, ?_⟩
  refine I.call' (ch := []) rfl ⟨fun b o q _ _ _ => hk b o q, fun b o q _ _ _ => ⟨o.slots, hk b o q⟩, fun b o q n _ => ?_, fun b o q _ => ⟨o, hk b o q⟩, fun b xs q => kp b _ q, fun b o u q => kp b _ q, fun b ps q => ⟨#[], by rw [kp b _ q]; simp⟩⟩ (fun b u q => ?_) I.bare fun b z => (nomatch z)
  · rw [off b (low b o q)]
    exact n
  · by_cases hb : b ∈ as
    · obtain ⟨j, pk, e1, e2, e3⟩ := LiI.paired_ix atP hb
      rw [e3] at q
      cases q
      obtain ⟨key, k, x, f1, f2, f3⟩ := hG.pairs j b e1
      obtain ⟨qv, g1, g2, g3⟩ := LiI.paired_get kv e2
      rw [f1] at g1
      cases g1
      have rk : RelV (kV pk.1) key := by
        rw [g2]
        exact relV_key (show keyIs k key = true from f2)
      exact ⟨by show 2 ≤ sizeLine; decide, [key, x], .cons rk (.cons g3 .nil), ⟨_, f3, rfl, _, rfl⟩⟩
    · rw [off b hb] at q
      exact (I.hok b u q).stay (fun d v _ y => hk d v y) (fun d y => kp d _ y) fun d xs y => kp d _ y
def pairOf (H : Hp) (a : Addr) : Int × Int := match H a with
  | some (.tup [.int i, .int j]) => (i, j)
  | _ => (0, 0)
theorem pairOf_at {H : Hp} {a : Addr} {i j : Int} (h : H a = some (.tup [.int i, .int j])) : pairOf H a = (i, j) := by
  unfold pairOf
  rw [h]
def refA : Value → Addr
  | .ref a => a
  | _ => 0
def keyP (H : Hp) (u : Value) : Int × Int := pairOf H (refA u)
/-- pairs of ints in their order -/
def LexS (qs : List (Int × Int)) : Prop := qs.Pairwise fun p q => SrtO.lexB q p = false
def tSI (te : TE) : TE := fun σ H Q => te σ H fun x H1 => ∃ (d : Addr) (kvs : List (Key × V)), x = .ref d ∧ Rd H1 d (.dK kvs) ∧ ∃ qs : List (Int × Int), kvs = qs.map (fun q => (Sum.inl q.1, V.int q.2)) ∧
  ∀ (H2 : Hp) (b : Addr) (ts zs : List Addr) (qs' : List (Int × Int)), (∀ c o, H1 c = some o → H2 c = some o) → H1 b = none → (∀ t ∈ ts, H1 t = none) → b ∉ ts → zs.Perm ts → H2 b = some (.lst (zs.map V.ref)) → qs'.Perm qs → LexS qs' → Paired (fun (t : Addr) (q : Int × Int) => H2 t = some (.tup [.int q.1, .int q.2])) zs qs' → Q (.ref b) H2
theorem map_pairOf {H : Hp} : ∀ {as : List Addr} {qs : List (Int × Int)}, Paired (fun (t : Addr) (q : Key × V) => H t = some (.tup [kV q.1, q.2])) as (qs.map fun q => (Sum.inl q.1, V.int q.2)) → as.map (pairOf H) = qs ∧ ∀ a ∈ as, H a = some (.tup [.int (pairOf H a).1, .int (pairOf H a).2])
  | [], [], _ => ⟨rfl, fun a h => nomatch h⟩
  | [], _ :: _, h => by cases h
  | _ :: _, [], h => by cases h
  | a :: as, q :: qs, .cons h t => by
    obtain ⟨e1, e2⟩ := map_pairOf t
    have h : H a = some (.tup [.int q.1, .int q.2]) := h
    have e := pairOf_at h
    refine ⟨by rw [List.map_cons, e1, e], fun b hb => ?_⟩
    rcases List.mem_cons.mp hb with rfl | hb
    · rw [e]
      exact h
    · exact e2 b hb
theorem paired_self {F : Addr → Int × Int → Prop} {f : Addr → Int × Int} : ∀ {zs : List Addr}, (∀ z ∈ zs, F z (f z)) → Paired F zs (zs.map f)
  | [], _ => .nil
  | z :: zs, h => .cons (h z List.mem_cons_self) (paired_self fun y hy => h y (List.mem_cons_of_mem _ hy))
theorem refs_out : ∀ {out : List Value}, (∀ u ∈ out, ∃ a, u = Value.ref a) → out = (out.map refA).map Value.ref
  | [], _ => rfl
  | u :: out, h => by
    obtain ⟨a, rfl⟩ := h u List.mem_cons_self
    rw [List.map_cons, List.map_cons, ← refs_out fun v hv => h v (List.mem_cons_of_mem _ hv)]
    rfl
theorem refA_refs : ∀ as : List Addr, (as.map Value.ref).map refA = as
  | [] => rfl
  | a :: as => by
    rw [List.map_cons, List.map_cons, refA_refs as]
    rfl
variable {e : Expr} {td : TE} {np ap cp pos : Pos}
theorem pe_si (hc : X.calm = true) (he : PE X e td) (hg : Gl X "sorted") (hm : X.mg "sorted" = none) (hv : bootBuiltins "sorted" = some (.builtin "sorted")) (hb : attributeBase e "items" X.env (eval e X.env) = eval e X.env) (hl : (ap.endLine == cp.line) = true)
    (hs : starEach [.Call (.Attribute e "items" ap) [] [] cp] X.env = (false, eval (.Call (.Attribute e "items" ap) [] [] cp) X.env) :: starEach [] X.env) : PE X (.Call (.Name "sorted" np) [.Call (.Attribute e "items" ap) [] [] cp] [] pos) (tSI td) := by
  refine ⟨fun pins s σ H Q I hq => wpAny_Call_Name_kw (ld_blt I hg hm hv (callWith_builtin1 ?_ hs rfl))⟩
  rw [hs]
  show wpAny (model X.prog X.w) X.A (spliced ((false, eval (.Call (.Attribute e "items" ap) [] [] cp) X.env) :: backTo pos (starEach [] X.env))) _ _ s
  refine Calls.spliced_cons (view_items (Qd := fun d kvs H1 => ∃ qs : List (Int × Int), kvs = qs.map (fun q => (Sum.inl q.1, V.int q.2)) ∧ ∀ (H2 : Hp) (b : Addr) (ts zs : List Addr) (qs' : List (Int × Int)), (∀ c o, H1 c = some o → H2 c = some o) → H1 b = none → (∀ t ∈ ts, H1 t = none) → b ∉ ts → zs.Perm ts → H2 b = some (.lst (zs.map V.ref)) → qs'.Perm qs → LexS qs' → Paired (fun (t : Addr) (q : Int × Int) => H2 t = some (.tup [.int q.1, .int q.2])) zs qs' → Q (.ref b) H2) he I hb hl hq fun s1 H1 d kvs vs ep I1 lim rel hat ⟨qs, ek, qd⟩ I2 => Calls.spliced_nil ?_)
  have hlen : kvs.length = vs.length := Paired.length rel
  refine sorted_items (knd := mixKind X.prog X.w) (kvs := vs) (ep := ep) (I1.ok.hd hc) ⟨_, Heap.get?_push_size _ rfl, rfl, rfl⟩ (hat.push _) (by omega) fun h' tk as k1 k2 k3 => ?_
  obtain ⟨H', j1, j2, j3, J⟩ := tups_laid (tk := tk) I2 rel k1 k2 k3
  rw [ek] at j3
  obtain ⟨m1, m2⟩ := map_pairOf j3
  have hasl : as.length ≤ sizeLine := by omega
  have J2 := J.laid (o := .lst (as.map V.ref)) (t' := tk) (h' := h'.push { cls := .type "list", data := .seq (as.map Value.ref).toArray }) (a := h'.objs.size) (fun b o q => Heap.get?_push_of_some _ q) (Nat.le_refl _) ⟨by rw [List.length_map]; exact hasl, as.map Value.ref, 0, LiI.vals_refs as, Heap.get?_push_size _ rfl⟩
  have hob : (h'.push { cls := .type "list", data := .seq (as.map Value.ref).toArray }).get? h'.objs.size = some (seqObj "list" (as.map Value.ref).toArray 0) := Heap.get?_push_size _ rfl
  have hp : ∀ v ∈ as.map Value.ref, Srt.IsPair (h'.push { cls := .type "list", data := .seq (as.map Value.ref).toArray }) v (keyP H' v).1 (keyP H' v).2 := fun v hv => by
    obtain ⟨t, ht, rfl⟩ := List.mem_map.mp hv
    obtain ⟨_, its2, r2, o, ho, hc2, n, hd⟩ := J.hok _ _ (m2 t ht)
    obtain ⟨u1, u2, rfl, ri, rj⟩ := vals2 r2
    obtain ⟨t1, rfl⟩ := ri
    obtain ⟨t2, rfl⟩ := rj
    exact ⟨t, o, t1, t2, n, rfl, Heap.get?_push_of_some _ ho, hc2, hd⟩
  refine wpAny_call_entry PyProof.Rows.slot_list_sort ⟨_, hob, rfl⟩ PyProof.Rows.entry_list_sort
    (SrtO.list_sort_ord (SrtO.swo_lex (keyP H')) hob (by rw [List.length_map]; exact hasl) (fun h2 => SrtO.pairs_sortableO (by omega) hp fun o e => ?_) fun out h1 h2 => ⟨.none, rfl, ?_⟩) (PyProof.Rows.args_list_sort _)
  · have e' : some o = some (seqObj "list" (as.map Value.ref).toArray 0) := e.symm.trans hob
    cases e'
    intro c
    exact absurd (Value.type.inj c) (by decide)
  · have h3 : ∀ u ∈ out, ∃ a, u = Value.ref a := fun u hu => by
      obtain ⟨t, _, rfl⟩ := List.mem_map.mp (h2.perm.mem_iff.mp hu)
      exact ⟨t, rfl⟩
    have eo := refs_out h3
    have pz : (out.map refA).Perm as := by
      have := h2.perm.map refA
      rw [refA_refs] at this
      exact this
    obtain ⟨ep2, he'⟩ := PyProof.Rows.sortedHeap_at (vs := as.map Value.ref) (out := out.toArray) hob
    have hlen2 : ((out.map refA).map V.ref).length ≤ sizeLine := by
      rw [List.length_map, pz.length_eq]
      exact hasl
    have hvals : Vals ((out.map refA).map V.ref) out := by
      conv => rhs; rw [eo]
      exact LiI.vals_refs _
    have newL : H1 h'.objs.size = none := I1.hok.fresh (Nat.le_of_lt (Heap.lt_size (k1 s1.heap.objs.size _ (Heap.get?_push_size s1.heap rfl))))
    have newL' : H' h'.objs.size = none := J.hok.fresh (Nat.le_refl _)
    have offL : h'.objs.size ∉ as := fun z => Nat.lt_irrefl _ (k3.there z)
    have J3 := J2.write (e := h'.objs.size) (t' := tk) (o := .lst ((out.map refA).map V.ref)) (by rw [upd_same]; trivial) (.inl rfl) (fun b u hb hu => by rw [PyProof.Rows.sortedHeap_old hb (Heap.lt_size hu)]; exact hu) ⟨_, he'⟩ ⟨hlen2, out, ep2, hvals, he'⟩
    refine ⟨.ref _, _, J3, rfl, qd _ h'.objs.size as (out.map refA) ((out.map refA).map (pairOf H')) (fun c o q => ?_) newL j2 offL pz upd_same ?_ ?_ (paired_self fun z hz => ?_)⟩
    · have hne : c ≠ h'.objs.size := ne_of_none q newL
      rw [upd_ne hne, upd_ne hne]
      exact j1 c o q
    · rw [← m1]
      exact pz.map _
    · have : SrtO.Srtd (fun v u => SrtO.lexB (keyP H' v) (keyP H' u)) out := h1
      unfold LexS
      rw [List.map_map, List.pairwise_map]
      exact this
    · have hz' : z ∈ as := pz.mem_iff.mp hz
      have hne : z ≠ h'.objs.size := fun q => offL (by rw [← q]; exact hz')
      rw [upd_ne hne, upd_ne hne]
      exact m2 z hz'
end
end Lmo
end
section
set_option Elab.async false
set_option linter.all false
set_option maxRecDepth 100000
set_option maxHeartbeats 4000000
namespace Lmo
open PySem L2
/-- pairs of ints in their order -/
def srtP (xs : List (Int × Int)) : List (Int × Int) := xs.mergeSort fun p q => !SrtO.lexB q p
theorem srtP_perm (xs : List (Int × Int)) : (srtP xs).Perm xs := List.mergeSort_perm xs _
theorem srtP_lex (xs : List (Int × Int)) : LexS (srtP xs) := by
  have h := List.pairwise_mergeSort (le := fun p q : Int × Int => !SrtO.lexB q p) (fun a b c h1 h2 => by
    simp only [Bool.not_eq_true', SrtO.lexB_no] at *
    omega) (fun a b => by
    cases h : SrtO.lexB b a with
    | false => rfl
    | true =>
      have h1 := SrtO.lexB_iff.mp h
      have : SrtO.lexB a b = false := SrtO.lexB_no.mpr (by omega)
      rw [this]
      rfl) xs
  exact h.imp fun h => by simpa using h
theorem lex_uniq : ∀ {xs ys : List (Int × Int)}, xs.Perm ys → LexS xs → LexS ys → xs = ys
  | [], ys, p, _, _ => by rw [List.nil_perm.mp p]
  | x :: xs, [], p, _, _ => absurd p.length_eq (by simp)
  | x :: xs, y :: ys, p, h1, h2 => by
    obtain ⟨a1, a2⟩ := List.pairwise_cons.mp h1
    obtain ⟨b1, b2⟩ := List.pairwise_cons.mp h2
    have e : x = y := by
      have hx : x ∈ y :: ys := p.mem_iff.mp List.mem_cons_self
      have hy : y ∈ x :: xs := p.mem_iff.mpr List.mem_cons_self
      rcases List.mem_cons.mp hx with e | hx
      · exact e
      · rcases List.mem_cons.mp hy with e | hy
        · exact e.symm
        · have h3 := SrtO.lexB_no.mp (a1 y hy)
          have h4 := SrtO.lexB_no.mp (b1 x hx)
          obtain ⟨x1, x2⟩ := x
          obtain ⟨y1, y2⟩ := y
          simp only at h3 h4
          rw [show x1 = y1 by omega, show x2 = y2 by omega]
    subst e
    rw [lex_uniq (p.cons_inv) a2 b2]
theorem drel_ints {H : Hp} : ∀ {kvs : List (Key × V)} {d : List (Int × Int)}, DRel kInt rInt H kvs d → kvs = d.map (fun q => (Sum.inl q.1, V.int q.2))
  | _, _, .nil => rfl
  | _, _, .cons (a := p) (b := q) h t => by
    rw [List.map_cons, ← drel_ints t]
    obtain ⟨p1, p2⟩ := p
    have h1 : p1 = Sum.inl q.1 := h.1
    have h2 : p2 = V.int q.2 := h.2
    rw [h1, h2]
section
variable {X : Cx} {E : Type} {R : ER E} {pos np ap cp : Pos} {e : Expr} {lv p : Bool} {P : E → Prop} {g : E → E}
theorem pairs_rep {K : Hp} : ∀ {zs : List Addr} {qs : List (Int × Int)}, Paired (fun (t : Addr) (q : Int × Int) => K t = some (.tup [.int q.1, .int q.2])) zs qs → Paired ((rPair rInt rInt).rep K) (zs.map V.ref) qs
  | _, _, .nil => .nil
  | _, _, .cons h t => .cons ⟨_, _, rfl, h, _, _, rfl, rfl, _, rfl, rfl⟩ (pairs_rep t)
theorem paired_inM {α β : Type} {F G : α → β → Prop} : ∀ {xs : List α} {ys : List β}, (∀ x ∈ xs, ∀ y, F x y → G x y) → Paired F xs ys → Paired G xs ys
  | _, _, _, .nil => .nil
  | _, _, k, .cons h t => .cons (k _ List.mem_cons_self _ h) (paired_inM (fun x hx => k x (List.mem_cons_of_mem _ hx)) t)
/-- sorted(d.items()) -/
theorem tn_sortItems {f : E → List (Int × Int)} (hc : X.calm = true) (h : TX X R e (rDict kInt rInt) lv p P f g) (hg : Gl X "sorted") (hm : X.mg "sorted" = none) (hv : bootBuiltins "sorted" = some (.builtin "sorted") := by first | rfl | decide +kernel)
    (hb : attributeBase e "items" X.env (eval e X.env) = eval e X.env := by rfl) (hl : (ap.endLine == cp.line) = true := by rfl) (hs : starEach [.Call (.Attribute e "items" ap) [] [] cp] X.env = (false, eval (.Call (.Attribute e "items" ap) [] [] cp) X.env) :: starEach [] X.env := by rfl) :
    TN X R (.Call (.Name "sorted" np) [.Call (.Attribute e "items" ap) [] [] cp] [] pos) (rPair rInt rInt) p P (fun e => srtP (f e)) g := by
  obtain ⟨t, h1, h2⟩ := h
  refine ⟨_, pe_si hc h1 hg hm hv hb hl hs, fun w H σ env Q G q hP k => h2 w H σ env _ G q hP fun v w' H' hp hr => ?_⟩
  obtain ⟨a, kvs, rfl, z2, z3, z4, z5⟩ := up_rd hr
  refine ⟨a, kvs, rfl, z2, f env, drel_ints z3, fun H2 b ts zs qs' j1 j2 j3 j4 j5 j6 j7 j8 j9 => ?_⟩
  have hwb : w' b = none := hp.good.new j2
  have e0 : upd (er b H2) b (.lst (zs.map V.ref)) = H2 := er_upd j6
  have l : Le H' (er b H2) := .of fun c o hc => by
    unfold er
    rw [if_neg (ne_of_none hc j2)]
    exact j1 c o hc
  have ow : ∀ c t, w' c = some t → er b H2 c = H' c := fun c t hc => by
    have hne : c ≠ b := fun z => by rw [z, hwb] at hc; cases hc
    unfold er
    rw [if_neg hne]
    cases e : H' c with
    | none => exact absurd e (hp.good c t hc)
    | some o => exact j1 c o e
  have p2 : Post true R w' H' w' (er b H2) σ (g env) := .grow hp.good hp.env l ow
  have eq : qs' = srtP (f env) := lex_uniq (j7.trans (srtP_perm _).symm) j8 (srtP_lex _)
  subst eq
  have key := k b (zs.map V.ref) w' (er b H2) (by unfold er; rw [if_pos rfl]) ((hp.trans p2).weak (by simp)) ?_ (by rw [(srtP_perm _).length_eq]; exact z5)
  · rw [e0] at key
    exact key
  · refine pairs_rep (paired_inM (fun t ht q hq => ?_) j9)
    have ht' : t ∈ ts := j5.mem_iff.mp ht
    have hne : t ≠ b := fun z => j4 (by rw [← z]; exact ht')
    exact fz_of (hp.good.new (j3 t ht')) (by unfold er; rw [if_neg hne]; exact hq)
end
/-! ### d.setdefault(k, v) -/
def dsetd {κ β : Type} [DecidableEq κ] (d : List (κ × β)) (k : κ) (x : β) : List (κ × β) := match dget d k with
  | some _ => d
  | none => dput d k x
section
variable {X : Cx} {E : Type} {R : ER E} {pos cp ap : Pos} {α β κ : Type} [DecidableEq κ] {kk : Kp κ} {rk : Rp κ} {s : Rp β} {e i o : Expr} {lv li st : Bool} {P Pi : E → Prop}
theorem tl_setdefault {f : E → β} {fi : E → κ} {get : E → List (κ × β)} {set : E → List (κ × β) → E} (hl : TL X R o (od kk s) st get set) (hkk : ∀ H v x, rk.rep H v x → v = kV (kk.key x)) (hi : TX X R i rk li true Pi fi fun e => e) (hv : TX X R e s lv true P f fun e => e) [Up lv s]
    (hb : attributeBase o "setdefault" X.env (eval o X.env) = eval o X.env := by rfl) (m : M2 X o "setdefault" ap i e cp := by exact ⟨rfl, rfl, rfl, rfl⟩) (hs : swapsWith (.Call (.Attribute o "setdefault" ap) [i, e] [] cp) none pos.line X.env = pure false := by rfl) :
    TL1 X R (.Expr (.Call (.Attribute o "setdefault" ap) [i, e] [] cp) pos) R (fun e => Pi e ∧ P e ∧ (get e).length < LIM) (fun e => set e (dsetd (get e) (fi e) (f e))) := by
  obtain ⟨t, h1, h2⟩ := hv
  obtain ⟨ti, i1, i2⟩ := hi
  obtain ⟨jj, q, te, rd, hj, o1, o2⟩ := hl
  refine ⟨_, ps_expr (pe_dsetd o1 i1 h1 m) hs, fun w H σ env D G qq hP k => ?_⟩
  obtain ⟨v0, e1, e2, e3, e4, e5⟩ := o2 w H σ _ G qq
  obtain ⟨c0, kvs0, y1, y2, y3, _⟩ := e3.here
  cases y1
  refine e2 _ ⟨c0, rfl, .inl ⟨kvs0, .inl y3⟩, i2 w H σ env _ G qq hP.1 fun iv w1 H1 p1 hiv => h2 w1 H1 σ _ _ p1.good p1.env hP.2.1 fun v w2 H2 p2 hv => ?_⟩
  have p12 := p1.trans p2
  have f2 := o2.again p12 (.inl rfl) e4 e5
  obtain ⟨c, kvs, z1, z2, z3, z4, z5, z6⟩ := f2.here
  cases z1
  have hlen : kvs.length < LIM := by
    rw [Paired.length z4]
    exact hP.2.2
  refine ⟨kvs, kk.key (fi env), z3, hkk _ _ _ hiv, Nat.lt_of_lt_of_le hlen (by decide), fun u hu => ?_, fun hn => ?_⟩
  · have e : dsetd (get env) (fi env) (f env) = get env := by
      rcases drel_get (k := fi env) z4 with ⟨q1, q2⟩ | ⟨x, y, q1, q2, _⟩
      · rw [q2] at hu
        cases hu
      · unfold dsetd
        rw [q1]
    have a2 := f2.put w2 H2 (get env) (.refl _) (fun b t hb hn => ⟨hb, rfl⟩) f2.here
    refine k w2 _ σ p12.aft ?_
    rw [e]
    exact a2
  · have e : dsetd (get env) (fi env) (f env) = dput (get env) (fi env) (f env) := by
      rcases drel_get (k := fi env) z4 with ⟨q1, q2⟩ | ⟨x, y, q1, q2, _⟩
      · unfold dsetd
        rw [q1]
      · rw [q2] at hn
        cases hn
    obtain ⟨a1, a2⟩ := foc_upd (u := .dK (putK kvs (kk.key (fi env)) v)) (x := dput (get env) (fi env) (f env)) hj p12.good f2 z2 ⟨_, _, rfl, z2, upd_same, by
      rw [fz_tag z2]
      exact drel_put (Up.up (lv := lv) _ _ _ _ hv) z5 z4, dput_nodup z5, Nat.le_trans dput_len hP.2.2⟩
    refine k w2 _ σ (p12.aft.trans a1) ?_
    rw [e]
    exact a2
end
end Lmo
end
section
set_option Elab.async false
set_option linter.all false
set_option maxRecDepth 100000
set_option maxHeartbeats 4000000
namespace Lmo
open PySem L2
/-! ### list(range(a, b)) -/
section
variable {X : Cx} {E : Type} {R : ER E} {pos np rp rpos : Pos} {a b : Expr} {la lb pa pb : Bool} {Pa Pb : E → Prop} {ga gb : E → E} {fa fb : E → Int}
theorem rgV_rng (a b : Int) : rgV a b = (rng a (b - a).toNat).map V.int := by
  unfold rgV rng
  rw [List.map_map]
  rfl
theorem tn_listRg2 (hc : X.calm = true) (ha : TX X R a rInt la pa Pa fa ga) (hb : TX X R b rInt lb pb Pb fb gb) (hg : Gl X "list") (hm : X.mg "list" = none) (hgr : Gl X "range") (hmr : X.mg "range" = none)
    (na : starEach [.Call (.Name "range" rp) [a, b] [] rpos] X.env = (false, eval (.Call (.Name "range" rp) [a, b] [] rpos) X.env) :: starEach [] X.env := by rfl) (n2 : starEach [a, b] X.env = (false, eval a X.env) :: starEach [b] X.env := by rfl) (n3 : starEach [b] X.env = (false, eval b X.env) :: starEach [] X.env := by rfl) (n4 : (backTo rpos (starEach [b] X.env)).any (·.1) = false := by rfl) :
    TN X R (.Call (.Name "list" np) [.Call (.Name "range" rp) [a, b] [] rpos] [] pos) rInt (pa && pb) (fun e => Pa e ∧ Pb (ga e) ∧ RgOk (fa e) (fb (ga e)) ∧ fb (ga e) - fa e ≤ LIM) (fun e => rng (fa e) (fb (ga e) - fa e).toNat) (fun e => gb (ga e)) := by
  obtain ⟨t, h1, h2⟩ := ha
  obtain ⟨u, k1, k2⟩ := hb
  refine ⟨_, pe_listRg hc hg hm (prg_2 hgr hmr h1 k1 n2 n3 n4) na, fun w H σ env Q G q hP k => h2 w H σ env _ G q hP.1 fun v w' H' p hv => k2 w' H' σ _ _ p.good p.env hP.2.1 fun x w2 H2 p2 hx => ?_⟩
  have hL : (LIM : Int) = 1000000 := rfl
  have hl := hP.2.2.2
  refine ⟨_, _, hv, hx, hP.2.2.1, fun q hq => ?_⟩
  rw [rgV_rng]
  exact k q _ w2 H2 hq (p.trans p2) (paired_ints _) (by rw [rng_len]; have : (LIM : Nat) = 1000000 := rfl; omega)
end
/-! ### len(set(xs)), xs a list of ints -/
def setCount (ns : List Int) : Nat := (PyProof.Rows.firstMet (fun i => ns.getD i 0) ns.length).length
def tLenSet (K : PySem.W.Frag) (ta : TE) : TE := fun σ H Q => ta σ H fun x H1 => ∃ (l : Addr) (ns : List Int), x = V.ref l ∧ SqL K H1 l (ns.map V.int) ∧ ns.length < 64 ∧ Q (.int (setCount ns : Nat)) H1
section
open PySem.Spec PyProof.Rows
variable {X : Cx}
theorem pe_lenSetA {a : Expr} {ta : TE} {p p2 q pos : Pos} (hc : X.calm = true) (hg : Gl X "len") (hm : X.mg "len" = none) (hg2 : Gl X "set") (hm2 : X.mg "set" = none) (ha : PE X a ta)
    (na : starEach [a] X.env = (false, eval a X.env) :: starEach [] X.env := by rfl) : PE X (.Call (.Name "len" p) [.Call (.Name "set" p2) [a] [] q] [] pos) (tLenSet X.K ta) := by
  refine ⟨fun pins s σ H Q I h => ?_⟩
  refine Call_ (ld_blt I hg hm PySem.boot_len ?_)
  refine PyProof.Rows.callWith_builtin1 (PyProof.Rows.args_cons ?_ rfl) rfl rfl
  refine Call_ (ld_blt I hg2 hm2 PyProof.Rows.boot_set ?_)
  refine PyProof.Rows.callWith_type1 (PyProof.Rows.args_cons (thn (ha.run pins s σ H _ I h) fun v s1 ⟨x, H1, I1, r1, q1⟩ => PyProof.Rows.args_nil ?_) na) na rfl
  obtain ⟨l, ns, rfl, hq, h1, q1⟩ := q1
  cases r1
  obtain ⟨its, r, pl, hz⟩ := I1.list hq
  have hl : its.toArray.size = ns.length := by rw [List.size_toArray, ← r.length, List.length_map]
  refine call_set_list (I1.ok.hd hc) pl.isList (ns := ns) (by simpa using r.ints) (by unfold scanBound; omega) fun h' tk hS hk => ?_
  rw [hl] at hS
  refine PyProof.Rows.args_nil ?_
  obtain ⟨o, es, ep, t, ho, hex, hd, _, _, _, hf, hn⟩ := hS
  have I2 : Inv X pins σ H1 { s1 with heap := h', toks := tk } := I1.kept fun b o e => hk b o (Heap.lt_size e) e
  have hle := firstMet_length_le (fun i => ns.getD i 0) ns.length
  refine call_len_set ho hex hd hf (by rw [hn] <;> omega) ⟨.int (setCount ns : Nat), H1, I2.tok _, ⟨_, by rw [hn]; rfl⟩, q1⟩
end
section
variable {X : Cx} {E : Type} {R : ER E} {pos np sp spos : Pos} {a : Expr} {lv p : Bool} {P : E → Prop} {f : E → List Int} {g : E → E}
theorem tx_lenSet (hc : X.calm = true) (ha : TX X R a (rList rInt) lv p P f g) (hg : Gl X "len") (hm : X.mg "len" = none) (hg2 : Gl X "set") (hm2 : X.mg "set" = none) (na : starEach [a] X.env = (false, eval a X.env) :: starEach [] X.env := by rfl) :
    TX X R (.Call (.Name "len" np) [.Call (.Name "set" sp) [a] [] spos] [] pos) rInt true p (fun e => P e ∧ (f e).length < 64) (fun e => (setCount (f e) : Int)) g := by
  obtain ⟨t, h1, h2⟩ := ha
  refine ⟨_, pe_lenSetA hc hg hm hg2 hm2 h1 na, fun w H σ env Q G q hP k => h2 w H σ env _ G q hP.1 fun v w' H' hp hv => ?_⟩
  obtain ⟨c, vs, rfl, e2, e3, e4⟩ := (rList rInt).mono vw_le hv
  rw [paired_int e3] at e2
  exact ⟨c, f env, rfl, SqL.of e2, hP.2, k _ w' H' hp rfl⟩
end
/-! ### a, b = a list -/
/-- a list told item by item -/
def rLst {α : Type} (t : Tp α) : Rp α := ⟨fun H v x => ∃ a vs, v = .ref a ∧ H a = some (.lst vs) ∧ t.rep H vs x, fun l h => by
  obtain ⟨a, vs, h1, h2, h3⟩ := h
  exact ⟨a, vs, h1, l.lst h2, t.mono l h3⟩⟩
section
variable {X : Cx} {E E' : Type} {R : ER E} {R' : ER E'} {pos : Pos} {α β : Type} {r : Rp α} {e : Expr} {lv p : Bool} {P : E → Prop} {f : E → List α} {g : E → E} {t : Tp β}
theorem tx_two [Inhabited α] (h : TX X R e (rList r) lv p P f g) : TX X R e (rLst (tpc r (tp1 r))) lv p (fun e => P e ∧ (f e).length = 2) (fun e => (geti (f e) (0 : Int), geti (f e) (1 : Int))) g := by
  obtain ⟨t, h1, h2⟩ := h
  refine ⟨t, h1, fun w H σ env Q G q hP k => h2 w H σ env Q G q hP.1 fun v w' H' hp hr => k v w' H' hp ?_⟩
  obtain ⟨c, vs, rfl, e2, e3, e4⟩ := hr
  have hl := hP.2
  match hx : f env, vs, e3 with
  | [x, y], [u, v], .cons a1 (.cons a2 .nil) => exact ⟨c, _, rfl, e2, u, [v], rfl, a1, v, rfl, a2⟩
  | [], _, _ => rw [hx] at hl; simp at hl
  | [_], _, _ => rw [hx] at hl; simp at hl
  | _ :: _ :: _ :: _, _, _ => rw [hx] at hl; simp at hl
theorem tg_lst {put : E → β → E'} {drop : E' → E} {es : List Expr} {vs : List Nat} {k n : Nat} (h : TGs X R es t R' put drop vs) (hc : X.calm = true) (hl : ∀ H us x, t.rep H us x → us.length = n) (hn : (assignEach es X.env).length = n := by rfl) (hst : (assignEach es X.env).findIdx? (·.1) = none := by rfl) :
    TGt X R (.Tuple es k pos) (rLst t) R' put drop vs := by
  obtain ⟨gt, h1, h2⟩ := h
  refine ⟨_, pg_lst hc h1 hn hst, fun w H σ env v x Q G q hr kk => ?_⟩
  obtain ⟨a, us, rfl, e1, e2⟩ := hr
  exact ⟨a, us, rfl, SqL.of (fz_some e1).2, hl _ _ _ e2, h2 w H σ env us x Q G q e2 kk⟩
end
end Lmo
end
section
set_option Elab.async false
set_option linter.all false
set_option maxRecDepth 100000
set_option maxHeartbeats 4000000
namespace Lmo
open PySem L2
/-! ### f(g(..)): what a def makes is handed to another that may change it -/
/-- the answer taken as the first thing of a frame -/
def asFst (w : Own) : Own := fun a => match w a with
  | some (0 :: q) => some (0 :: q)
  | some (1 :: q) => some (2 :: q)
  | _ => none
theorem asFst_le {w : Own} {H : Hp} : Le (fz w H) (fz (asFst w) H) := .of fun b o h => by
  obtain ⟨h1, h2⟩ := fz_some h
  refine fz_of ?_ h2
  unfold asFst
  rw [h1]
theorem asFst_good {w : Own} {H : Hp} (g : Good w H) : Good (asFst w) H := fun a t h => by
  cases e : w a with
  | none => unfold asFst at h; rw [e] at h; cases h
  | some u => exact g a u e
theorem aft_fst {w w2 : Own} {H H2 : Hp} (a : Aft w H w2 H2) : Aft w H (asFst w2) H2 := ⟨asFst_good a.good, a.le.trans asFst_le, fun b q h => by
  obtain ⟨h1, h2⟩ := a.fk b q h
  refine ⟨?_, h2⟩
  unfold asFst
  rw [h1]
  rfl⟩
theorem fst_rel {α : Type} {S : SR α} {w : Own} {H : Hp} {v : V} {x : α} (h : S.rel w H [1] (some v) x) : S.rel (asFst w) H [2] (some v) x := S.keep h asFst_le fun a q ha => ⟨by
  unfold asFst
  rw [show w a = some (1 :: q) from ha]
  rfl, rfl⟩
section
variable {X : Cx} {E F : Type} {R : ER E} {pos np : Pos} {α ρ : Type} {t : Tp α} {e o : Expr} {es : List Expr} {P : E → Prop} {f : E → α} {g : E → E} {p : Bool} {x : Str} {rr : Rp ρ} {fa : Addr} {fd : FuncData} {ps : List Str} {k j : Nat} {S : SR F}
theorem th_call {Pre : α → Prop} {fn : α → F} (G : FnOk X.prog X.w X.K X.mg X.base CX0 k fa fd ps (spP t (rsY S) Pre fn)) (hr : Room j X.A) (hkj : k ≤ j) (hg : Gl X x) (hm : X.mg x = some (.ref fa)) (hk : PySem.W.keepIn X.K (.ref fa) = true) (hb : Binds X.K fd ps []) (ha : TAs X R (e :: es) t true p P f g)
    (hdb : (x == ("__debug__" : Str)) = false := by decide) (he : starEach (e :: es) X.env = (false, eval e X.env) :: starEach es X.env := by rfl) (hpl : (backTo pos (starEach es X.env)).any (·.1) = false := by rfl) :
    TH X R (.Call (.Name x np) (e :: es) [] pos) S p (fun e => P e ∧ Pre (f e)) (fun e => fn (f e)) g := by
  obtain ⟨ta, a, b⟩ := ha
  refine ⟨_, pe_call G (hr.mono hkj) hg hm hk hb .nil (L2.pass0 (X := X)) a hdb he hpl, fun w H σ env Q Gd q hP kk => b w H σ env _ Gd q hP.1 fun vs w' H' hp hv => ?_⟩
  rw [List.append_nil]
  refine ⟨far w', f env, good_far hp.good, by rw [fz_far]; exact hv, hP.2, fun v w2 H2 af hres => ?_⟩
  exact kk v w' H' _ H2 hp (aft_fst af) (fst_rel hres)
theorem tx_callH {h : E → F} {Pre : F → Unit → Prop} {fn : F → Unit → ρ × F} (hl : TH X R o S p P h g) (G : FnOk X.prog X.w X.K X.mg X.base CX0 k fa fd ps (spM S S tp0 (rsF rr) Pre fn)) (hr : Room j X.A) (hkj : k ≤ j) (hg : Gl X x) (hm : X.mg x = some (.ref fa)) (hk : PySem.W.keepIn X.K (.ref fa) = true) (hb : Binds X.K fd ps [])
    (hdb : (x == ("__debug__" : Str)) = false := by decide) (he : starEach [o] X.env = (false, eval o X.env) :: starEach [] X.env := by rfl) (hpl : (backTo pos (starEach [] X.env)).any (·.1) = false := by rfl) :
    TX X R (.Call (.Name x np) [o] [] pos) rr true p (fun e => P e ∧ Pre (h e) ()) (fun e => (fn (h e) ()).1) g := by
  obtain ⟨te, h1, h2⟩ := hl
  refine ⟨_, pe_call G (hr.mono hkj) hg hm hk hb .nil (L2.pass0 (X := X)) (pa_cons h1 pa_nil he) hdb he hpl, fun w H σ env Q Gd hR hP kk => h2 w H σ env _ Gd hR hP.1 fun v w1 H1 w2 H2 p1 af s => ?_⟩
  refine ⟨w2, h env, (), v, [], rfl, af.good, s, rfl, hP.2, fun u w3 H3 af3 hres _ => ?_⟩
  obtain ⟨p2, l⟩ := call_back p1.good p1.env (af.trans af3)
  exact kk u w1 H3 ((p1.trans p2).weak (by simp)) (rr.mono l hres)
end
end Lmo
end
section
set_option Elab.async false
set_option linter.all false
set_option maxRecDepth 100000
set_option maxHeartbeats 4000000
namespace Lmo
open PySem L2
/-- a def that returns None, as one that tells its answer -/
theorem ok_non {P : Program} {w : World} {K : PySem.W.Frag} {mg : Str → Option Value} {base : Heap} {CX : CXT} {k : Nat} {fa : Addr} {fd : FuncData} {ps : List Str} {α σ σ' : Type} {S : SR σ} {S' : SR σ'} {t : Tp α} {Pre : σ → α → Prop} {fn : σ → α → Unit × σ'}
    (h : FnOk P w K mg base CX k fa fd ps (spM S S' t rsN Pre fn)) : FnOk P w K mg base CX k fa fd ps (spM S S' t (rsF rNon) Pre fn) := h
theorem ok_nonP {P : Program} {w : World} {K : PySem.W.Frag} {mg : Str → Option Value} {base : Heap} {CX : CXT} {k : Nat} {fa : Addr} {fd : FuncData} {ps : List Str} {α : Type} {t : Tp α} {Pre : α → Prop} {fn : α → Unit}
    (h : FnOk P w K mg base CX k fa fd ps (spP t rsN Pre fn)) : FnOk P w K mg base CX k fa fd ps (spP t (rsF rNon) Pre fn) := h
end Lmo
end
section
set_option Elab.async false
set_option linter.all false
set_option maxRecDepth 100000
set_option maxHeartbeats 4000000
namespace Lmo
open PySem PySem.Spec PyProof.Rows L2
/-! ### a dict of one's own, locked while it is walked -/
def odl {κ β : Type} (k : Kp κ) (r : Rp β) : SR (List (κ × β)) := ⟨fun w H p o xs => ∃ a ob kvs, o = some (.ref a) ∧ w a = some p ∧ H a = some (.frz ob (.dK kvs)) ∧ DRel k r (fz w H) kvs xs ∧ (xs.map (·.1)).Nodup ∧ xs.length ≤ LIM, fun h l k => by
  obtain ⟨a, ob, kvs, h1, h2, h3, h4, h5⟩ := h
  obtain ⟨e1, e2⟩ := k a [] (by rw [List.append_nil]; exact h2)
  exact ⟨a, ob, kvs, h1, by rw [List.append_nil] at e1; exact e1, e2.trans h3, h4.mono l, h5⟩⟩
instance {κ β : Type} {k : Kp κ} {r : Rp β} : Def (odl k r) := ⟨fun ⟨a, _, _, h, _⟩ => ⟨_, h⟩⟩
theorem fz_upd {w : Own} {H : Hp} {a : Addr} {t : Tag} {u : HO} (h : w a = some t) : fz w (upd H a u) = fz w H := by
  funext b
  unfold fz
  cases e : w b with
  | some _ => rfl
  | none => exact upd_ne fun z => by rw [z, h] at e; cases e
/-- the relation with one dict locked -/
structure Lk {E : Type} (R R' : ER E) : Prop where
  lock : ∀ {w : Own} {H : Hp} {p : Tag} {k : Nat} {σ : List (Option V)} {e : E}, R.rel w H p k σ e → ∃ a kvs j q, k ≤ j ∧ w a = some (p ++ j :: q) ∧ H a = some (.dK kvs) ∧ ∀ ob, R'.rel w (upd H a (.frz ob (.dK kvs))) p k σ e
section
variable {E F α κ β : Type}
theorem rel_upd {R : ER E} {w : Own} {H : Hp} {p : Tag} {k j : Nat} {q : Tag} {σ : List (Option V)} {e : E} {a : Addr} {u : HO} (h : R.rel w H p k σ e) (ha : w a = some (p ++ j :: q)) (hj : j < k) : R.rel w (upd H a u) p k σ e :=
  R.keep h (by rw [fz_upd ha]; exact .refl _) fun b i t hi hb => ⟨hb, upd_ne fun z => by
    rw [z, ha] at hb
    have := List.append_cancel_left (Option.some.inj hb)
    injection this with h1 _
    omega⟩
theorem lk0 {kk : Kp κ} {s : Rp β} {R : ER E} : Lk (ec (od kk s) R) (ec (odl kk s) R) := ⟨fun {w H p k σ e} h => by
  obtain ⟨o, τ, rfl, ⟨a, kvs, h1, h2, h3, h4, h5, h6⟩, h7⟩ := h
  refine ⟨a, kvs, k, [], Nat.le_refl _, h2, h3, fun ob => ⟨o, τ, rfl, ⟨a, ob, kvs, h1, h2, upd_same, by rw [fz_upd h2]; exact h4, h5, h6⟩, rel_upd h7 h2 (Nat.lt_succ_self _)⟩⟩⟩
theorem lkS {S : SR α} {R R' : ER E} (l : Lk R R') : Lk (ec S R) (ec S R') := ⟨fun {w H p k σ e} h => by
  obtain ⟨o, τ, rfl, h1, h2⟩ := h
  obtain ⟨a, kvs, j, q, h3, h4, h5, h6⟩ := l.lock h2
  refine ⟨a, kvs, j, q, by omega, h4, h5, fun ob => ⟨o, τ, rfl, S.keep h1 (by rw [fz_upd h4]; exact .refl _) fun b t hb => ⟨hb, upd_ne fun z => ?_⟩, h6 ob⟩⟩
  rw [z, h4, List.append_assoc] at hb
  have := List.append_cancel_left (Option.some.inj hb)
  injection this with h7 _
  omega⟩
/-- a slot's thing with one dict locked -/
structure LkS (S S' : SR α) : Prop where
  lock : ∀ {w : Own} {H : Hp} {p : Tag} {o : Option V} {x : α}, S.rel w H p o x → ∃ a kvs q, w a = some (p ++ q) ∧ H a = some (.dK kvs) ∧ ∀ ob, S'.rel w (upd H a (.frz ob (.dK kvs))) p o x
theorem lk_ob {C : Addr} {ns : List Str} {R R' : ER F} (l : Lk R R') : LkS (ob C ns R) (ob C ns R') := ⟨fun {w H p o x} h => by
  obtain ⟨a, dx, fs, τ, h1, h2, h3, h4, h5⟩ := h
  obtain ⟨b, kvs, j, q, _, k1, k2, k3⟩ := l.lock h5
  refine ⟨b, kvs, j :: q, k1, k2, fun ob => ⟨a, dx, fs, τ, h1, h2, ?_, h4, k3 ob⟩⟩
  rw [upd_ne fun z => ?_]
  · exact h3
  · rw [z, k1] at h2
    have := congrArg List.length (Option.some.inj h2)
    simp at this⟩
theorem lk_pin {v : V} {S S' : SR α} (l : LkS S S') : LkS (pin v S) (pin v S') := ⟨fun {w H p o x} h => by
  obtain ⟨a, kvs, q, h1, h2, h3⟩ := l.lock h.2
  exact ⟨a, kvs, q, h1, h2, fun ob => ⟨h.1, h3 ob⟩⟩⟩
theorem lkH {S S' : SR α} {R : ER E} (l : LkS S S') : Lk (ec S R) (ec S' R) := ⟨fun {w H p k σ e} h => by
  obtain ⟨o, τ, rfl, h1, h2⟩ := h
  obtain ⟨a, kvs, q, h3, h4, h5⟩ := l.lock h1
  have h3' : w a = some (p ++ k :: q) := by rw [h3]; simp
  exact ⟨a, kvs, k, q, Nat.le_refl _, h3', h4, fun ob => ⟨o, τ, rfl, h5 ob, rel_upd h2 h3' (Nat.lt_succ_self _)⟩⟩⟩
theorem upd_comm {H : Hp} {a b : Addr} {u v : HO} (h : a ≠ b) : upd (upd H a u) b v = upd (upd H b v) a u := by
  funext c
  by_cases e1 : c = a
  · subst e1
    rw [upd_ne h, upd_same, upd_same]
  · by_cases e2 : c = b
    · subst e2
      rw [upd_same, upd_ne e1, upd_same]
    · rw [upd_ne e2, upd_ne e1, upd_ne e1, upd_ne e2]
variable {X : Cx} {R R' : ER E} {r : Rp α} {P : E → Prop} {e : Expr}
/-- a pure expression while one dict is locked -/
theorem tn_lock {f : E → List α} (l : Lk R R') (h : TN X R' e r true P f fun e => e) : TN X R e r true P f fun e => e := by
  obtain ⟨t, h1, h2⟩ := h
  refine ⟨_, pe_lock h1, fun w H σ env Q G qq hP k => ?_⟩
  obtain ⟨a, kvs, j, q, _, k1, k2, k3⟩ := l.lock qq
  have k1 : w a = some (j :: q) := k1
  refine ⟨a, .dK kvs, k2, trivial, fun ob => h2 w _ σ env _ (fun b t hb => ?_) (k3 ob) hP fun b vs w' H' hb hp hr hl => ?_⟩
  · by_cases z : b = a
    · rw [z, upd_same]
      exact fun z => nomatch z
    · rw [upd_ne z]
      exact G b t hb
  · obtain ⟨e1, e2, e3⟩ := hp.pur rfl
    subst e1
    have e4 : H' a = some (.frz ob (.dK kvs)) := (e3 a _ k1).trans upd_same
    have ba : b ≠ a := fun z => by rw [z, e4] at hb; cases hb
    refine ⟨by rw [upd_ne ba.symm]; exact e4, ?_⟩
    rw [upd_comm ba]
    have own : ∀ c t, w' c = some t → upd H' a (.dK kvs) c = H c := fun c t hc => by
      by_cases z : c = a
      · rw [z, upd_same, k2]
      · rw [upd_ne z, e3 c t hc, upd_ne z]
    have sm : Le (fz w' H) (fz w' (upd H' a (.dK kvs))) := by
      rw [fz_upd k1]
      have := hp.sm
      rw [fz_upd k1] at this
      exact this
    refine k b vs w' _ (by rw [upd_ne ba]; exact hb) ⟨fun c t hc => by rw [own c t hc]; exact G c t hc, sm, fun c i t _ hc => ⟨hc, own c _ hc⟩, R.keep qq sm fun c i t _ hc => ⟨hc, own c _ hc⟩, fun _ => ⟨rfl, fun c o hc => ?_, own⟩⟩ (by rw [fz_upd k1]; exact hr) hl
    by_cases z : c = a
    · subst z
      rw [k2] at hc
      cases hc
      exact .inl upd_same
    · rw [upd_ne z]
      exact e2 c o (by rw [upd_ne z]; exact hc)
variable {tg : Expr} {kk : Kp κ} {s : Rp β} {st : Bool}
/-- the keys of a locked dict, walked -/
theorem ti_keysO {get : E → List (κ × β)} {set : E → List (κ × β) → E} (h : TL X R e (odl kk s) st get set) (rk : Rp κ) [Flat rk] (hk : ∀ H x, rk.rep H (kV (kk.key x)) x) : TI X R tg e rk false true (fun _ => True) (fun e => (get e).map (·.1)) (fun e => e) := by
  obtain ⟨j, q, t, rd, hj, h1, h2⟩ := h
  refine ⟨_, pi_keys h1, fun w H σ env Rk G qq hP k => ?_⟩
  obtain ⟨v, e1, e2, e3, e4, e5⟩ := h2 w H σ env G qq
  obtain ⟨d, ob, kvs, z1, z2, z3, z4, z5, z6⟩ := e3.here
  cases z1
  have hl : kvs.length = ((get env).map (·.1)).length := by rw [List.length_map]; exact Paired.length z4
  have wk := walk_keys (d := d) (o := ob) (kvs := kvs)
  rw [hl] at wk
  refine e2 _ ⟨d, ob, rfl, .inl ⟨kvs, z3, k _ w H _ _ (.refl G qq) (by rw [List.length_map]; exact z6) wk (fun w2 H2 l => l.frz z3) fun i v H2 H3 w2 G2 l hi y => ?_⟩⟩
  obtain ⟨rfl, ky, vy, hy, rfl⟩ := y
  obtain ⟨x, hx, e, _⟩ := paired_get2 z4 hy
  refine ⟨⟨.refl _, fun _ _ _ => rfl⟩, x.1, by simp [hx], ?_⟩
  rw [show ky = kk.key x.1 from e]
  exact hk _ _
end
/-! ### d[k] op= e -/
section
variable {X : Cx} {E κ β α : Type} {R : ER E} {kk : Kp κ} {st lv li p : Bool} {o i e : Expr} {P Pi : E → Prop} {g : E → E} {pos tp ap cp sp ep : Pos} {rk : Rp κ} {r : Rp α}
theorem dput_len_in [DecidableEq κ] {k : κ} {x : β} {d : List (κ × β)} (h : k ∈ d.map (·.1)) : (dput d k x).length = d.length := by
  have := congrArg List.length (dput_keys (k := k) (x := x) (d := d))
  rw [if_pos h, List.length_map, List.length_map] at this
  exact this
theorem dget_in [DecidableEq κ] {k : κ} {d : List (κ × β)} (h : (dget d k).isSome = true) : k ∈ d.map (·.1) := by
  apply Decidable.byContradiction
  intro hn
  rw [dget_none.mpr hn] at h
  cases h
theorem tl_daug [DecidableEq κ] {op : Operator} {h : Int → Int → Int} {f : E → Int} {fi : E → κ} {get : E → List (κ × Int)} {set : E → List (κ × Int) → E} (hl : TL X R o (od kk rInt) st get set) (ho : PIp X op (ipI h)) (hkk : ∀ H v x, rk.rep H v x → v = kV (kk.key x)) (hu : X.A.units + 1 < cLine) (hv : TX X R e rInt lv true P f fun e => e) (hi : TX X R i rk li true Pi fi fun e => e)
    (ha : ∀ ov iv new, augStore i ov iv new = (do holding [new, ov, iv] (setItem ov iv new); release [new, ov, iv] []; pure .next) := by intros; rfl) :
    TL1 X R (.AugAssign (.Subscript o i tp) op e pos) R (fun e => Pi e ∧ P e ∧ (dget (get e) (fi e)).isSome = true) (fun e => set e (dput (get e) (fi e) (h ((dget (get e) (fi e)).getD default) (f e)))) := by
  obtain ⟨t, h1, h2⟩ := hv
  obtain ⟨ti, i1, i2⟩ := hi
  obtain ⟨jj, q, te, rd, hj, o1, o2⟩ := hl
  have hop : InOp X op (ipI h) := fun pins s σ H x y u v Q => ho pins s σ H x y u v Q
  refine ⟨_, ps_daug hu o1 i1 h1 hop ha, fun w H σ env D G qq hP k => ?_⟩
  obtain ⟨v0, e1, e2, e3, e4, e5⟩ := o2 w H σ _ G qq
  refine e2 _ (i2 w H σ _ _ G qq hP.1 fun iv w1 H1 p1 hiv => ?_)
  have f1 := o2.again p1 (.inl rfl) e4 e5
  obtain ⟨c, kvs, z1, z2, z3, z4, z5, z6⟩ := f1.here
  cases z1
  have hk := hkk _ _ _ hiv
  subst hk
  rcases drel_get (k := fi env) z4 with ⟨n1, n2⟩ | ⟨x, v, n1, n2, n3⟩
  · have := hP.2.2
    rw [n1] at this
    cases this
  · have n3 : v = .int x := n3
    subst n3
    refine ⟨c, .int x, rfl, by rw [← n2]; exact DGet.k z3, h2 w1 H1 σ _ _ p1.good p1.env hP.2.1 fun u w2 H2 p2 hu2 => ?_⟩
    have hu2 : u = .int (f env) := hu2
    subst hu2
    have p12 : Post true R w H w2 H2 σ env := (p1.trans p2).weak (by simp)
    have f2 := o2.again p12 (.inl rfl) e4 e5
    obtain ⟨c', kvs2, y1, y2, y3, y4, y5, y6⟩ := f2.here
    cases y1
    have hin := dget_in hP.2.2
    have hlen : kvs2.length ≤ LIM := by
      rw [Paired.length y4]
      exact y6
    obtain ⟨a1, a2⟩ := foc_upd (u := .dK (putK kvs2 (kk.key (fi env)) (.int (h x (f env))))) (x := dput (get env) (fi env) (h x (f env))) hj p2.good f2 y2 ⟨c, _, rfl, y2, upd_same, by
      rw [fz_tag y2]
      exact drel_put rfl y5 y4, dput_nodup y5, by rw [dput_len_in hin]; exact y6⟩
    refine ⟨x, f env, rfl, rfl, _, DPut.k y3 (Nat.lt_of_le_of_lt hlen (by decide)), k w2 _ σ ((p12.aft).trans a1) ?_⟩
    rw [n1]
    exact a2
/-- xs.remove(k), k there -/
theorem tl_remove {f : E → Int} {get : E → List Int} {set : E → List Int → E} (hc : X.calm = true) (hl : TL X R o (ol rInt) st get set) (h : TX X R e rInt lv true P f fun e => e)
    (hbase : attributeBase o "remove" X.env (eval o X.env) = eval o X.env := by rfl)
    (hfew : ((backTo cp (starEach [e] X.env)).all (fun x => !x.1) && (backToKw cp (keywordEach [] X.env)).all (fun x => x.1.isSome)
      && decide (([e] : List Expr).length + ([] : List Keyword).length + (if ([] : List Keyword).isEmpty then 0 else 1) < 30)) = true := by rfl)
    (hline : (ap.endLine == cp.line) = true := by rfl) (hse : starEach [e] X.env = (false, eval e X.env) :: starEach [] X.env := by rfl) (hplain : (backTo cp (starEach [] X.env)).any (·.1) = false := by rfl)
    (hs : swapsWith (.Call (.Attribute o "remove" ap) [e] [] cp) none pos.line X.env = pure false := by rfl) :
    TL1 X R (.Expr (.Call (.Attribute o "remove" ap) [e] [] cp) pos) R (fun e => P e ∧ f e ∈ get e) (fun e => set e ((get e).erase (f e))) := by
  obtain ⟨te, h1, h2⟩ := h
  obtain ⟨jj, q, to, rd, hj, o1, o2⟩ := hl
  have tk : Takes X (fun _ _ _ _ => False) := fun u s' ⟨_, _, _, _, _, _, _, _, _, _, _, _, _, _, _, _, w⟩ => w.elim
  refine ⟨_, ps_expr (pe_remX hc tk o1 h1 hbase hfew hline hse hplain) hs, fun w H σ env D G qq hP k => ?_⟩
  obtain ⟨v0, e1, e2, e3, e4, e5⟩ := o2 w H σ _ G qq
  obtain ⟨a, vs, z0, _, g4, _, _⟩ := e3.here
  cases z0
  refine e2 _ ⟨.inl ⟨rfl, vs, SqL.of g4⟩, h2 w H σ env _ G qq hP.1 fun u w2 H2 p2 hv => ?_⟩
  have hv : u = .int (f env) := hv
  subst hv
  have f2 := o2.again p2 (.inl rfl) e4 e5
  obtain ⟨c, vs', z1, z2, z3, z4, z5⟩ := f2.here
  cases z1
  rw [paired_int z4] at z3
  refine ⟨a, get env, f env, rfl, rfl, z3, fun _ => ?_, fun hn => absurd hP.2 hn⟩
  obtain ⟨a1, a2⟩ := foc_upd (u := .lst (((get env).erase (f env)).map V.int)) (x := (get env).erase (f env)) hj p2.good f2 z2 ⟨a, _, rfl, z2, upd_same, paired_ints _, Nat.le_trans List.length_erase_le z5⟩
  exact k w2 _ σ (p2.aft.trans a1) a2
/-- xs.extend(ys) -/
theorem tl_extend {f : E → List α} {get : E → List α} {set : E → List α → E} (hl : TL X R o (ol r) st get set) (h : TAs X R [e] (tp1 (rList r)) true p P f g) (hp : p = true ∨ st = true)
    (hbm : ∀ to ta, PE X o to → PA X [e] ta → PE X (.Call (.Attribute o "extend" ap) [e] [] cp) (tBM X.K "list" rExtend to ta)) (hs : swapsWith (.Call (.Attribute o "extend" ap) [e] [] cp) none pos.line X.env = pure false := by rfl) :
    TL1 X R (.Expr (.Call (.Attribute o "extend" ap) [e] [] cp) pos) R (fun e => P e ∧ (get (g e)).length + (f e).length ≤ LIM) (fun e => set (g e) (get (g e) ++ f e)) := by
  obtain ⟨ta, h1, h2⟩ := h
  obtain ⟨jj, q, te, rd, hj, o1, o2⟩ := hl
  refine ⟨_, ps_expr (hbm _ _ o1 h1) hs, fun w H σ env D G qq hP k => ?_⟩
  obtain ⟨v0, e1, e2, e3, e4, e5⟩ := o2 w H σ _ G qq
  obtain ⟨a, vs, z0, _, g4, _, _⟩ := e3.here
  cases z0
  refine e2 _ ⟨.inl ⟨rfl, vs, SqL.of g4⟩, h2 w H σ env _ G qq hP.1 fun us w' H' p2 hv => ?_⟩
  obtain ⟨v, rfl, b, zs, rfl, y2, y3, y4⟩ := hv
  have f2 := o2.again p2 hp e4 e5
  obtain ⟨c, vs', z1, z2, z3, z4, z5⟩ := f2.here
  cases z1
  obtain ⟨w0, y2'⟩ := fz_some y2
  have hlen : (get (g env) ++ f env).length ≤ LIM := by
    rw [List.length_append]
    exact hP.2
  obtain ⟨a1, a2⟩ := foc_upd (u := .lst (vs' ++ zs)) (x := get (g env) ++ f env) hj p2.good f2 z2 ⟨a, _, rfl, z2, upd_same, by
    rw [fz_tag z2]
    exact paired_app z4 y3, hlen⟩
  refine ⟨a, b, vs', zs, rfl, rfl, z3, y2', ?_, k w' _ σ (p2.aft.trans a1) a2⟩
  rw [Paired.length z4, Paired.length y3]
  exact Nat.le_trans hP.2 (by decide)
end
/-! ### min(xs, default=d) -/
section
variable {X : Cx}
def rMinD (K : PySem.W.Frag) : List V → List V → Hp → VK → Prop := fun vs zs H Q => ∃ (a : Addr) (ns : List Int) (d : Int), vs = [V.ref a] ∧ zs = [V.int d] ∧ SqL K H a (ns.map V.int) ∧ Q (.int ((lminO ns).getD d)) H
theorem cr_minD (hc : X.calm = true) (hu : X.A.units + 1 < cLine) : CallRK X (.builtin "min") [Str.ofString "default"] (rMinD X.K) := by
  intro pins s σ H vs zs us ws Q I r rz h
  obtain ⟨a, ns, d, rfl, rfl, hs, q⟩ := h
  obtain ⟨its, rv, hl, _⟩ := I.list hs
  rw [Vals.ref1 r]
  obtain ⟨w1, rfl, e1⟩ := vals1 rz
  obtain ⟨t, rfl⟩ : ∃ t, w1 = Value.int d t := e1
  obtain ⟨as, hr⟩ := reads_ints (h := s.heap) (ints_of_vals rv)
  show wpAny _ _ (call (.builtin "min") [.ref a] [(Str.ofString "default", .int d t)]) _ _ _
  refine PySem.W.min_list_default (vs := its.toArray) (xs := ns.map PyData.int) (I.ok.hd hc) hl.isList (by simpa using hr) (alike_ints ns) (by rw [depth_ints]; exact hu) (fun hn h' tk hk => ?_) fun y ys i v h' tk bs hy _ hrd hk => ?_
  · have : ns = [] := List.map_eq_nil_iff.mp hn
    subst this
    exact ⟨.int d, H, I.kept (t' := tk) hk, ⟨t, rfl⟩, q⟩
  · cases ns with
    | nil => cases hy
    | cons n ms =>
      rw [List.map_cons] at hy
      injection hy with h1 h2
      subst h1 h2
      rw [PySem.W.minD_ints] at hrd
      cases hrd
      exact ⟨.int (lmin (n :: ms)), H, I.kept (t' := tk) hk, ⟨_, rfl⟩, q⟩
variable {E : Type} {R : ER E} {np pos kp : Pos} {e d : Expr} {lv ld p : Bool} {P Pd : E → Prop} {g : E → E} {f : E → List Int} {fd : E → Int}
theorem tx_minD (hc : X.calm = true) (hu : X.A.units + 1 < cLine) (ha : TAs X R [e] (tp1 (rList rInt)) lv p P f g) (hd : TX X R d rInt ld true Pd fd fun e => e) (hg : Gl X "min") (hm : X.mg "min" = none) (hv : bootBuiltins "min" = some (.builtin "min") := by first | rfl | decide +kernel)
    (he : backTo pos (starEach [e] X.env) = (false, eval e X.env) :: backTo pos (starEach [] X.env) := by rfl) (hpl : (backTo pos (starEach [e] X.env)).any (·.1) = false := by rfl)
    (hall : (backToKw pos (keywordEach [⟨some "default", d, kp⟩] X.env)).all (·.1.isSome) = true := by rfl) (hnone : (backToKw pos (keywordEach [⟨some "default", d, kp⟩] X.env)).any (·.1.isNone) = false := by rfl) (hks : (backToKw pos (keywordEach [⟨some "default", d, kp⟩] X.env)).filterMap (·.1) = [Str.ofString "default"] := by rfl) :
    TX X R (.Call (.Name "min" np) [e] [⟨some "default", d, kp⟩] pos) rInt true p (fun e => P e ∧ Pd (g e)) (fun e => (lminO (f e)).getD (fd (g e))) g := by
  obtain ⟨ta, h1, h2⟩ := ha
  obtain ⟨td, d1, d2⟩ := hd
  refine ⟨_, pe_callBK (cr_minD hc hu) hg hm hv h1 (pk_cons d1 pk_nil) (by decide) (by decide) he hpl hall hnone hks, fun w H σ env Q G q hP k => h2 w H σ env _ G q hP.1 fun vs w' H' hp hr => ?_⟩
  refine d2 w' H' σ _ _ hp.good hp.env hP.2 fun u w2 H2 p2 hu2 => ?_
  have hu2 : u = .int (fd (g env)) := hu2
  subst hu2
  obtain ⟨v, rfl, a, us, rfl, z2, z3, z4⟩ := hr
  rw [paired_int z3] at z2
  have z2 := vw_le.lst z2
  refine ⟨a, f env, _, rfl, rfl, SqL.of ((p2.pur rfl).2.1.lst z2), k _ w2 H2 ((hp.trans p2).weak (by simp)) rfl⟩
end
/-! ### C(..).f -/
section
variable {X : Cx} {E F κ β : Type} {R : ER E} {o : Expr} {C : Addr} {ns : List Str} {ER0 : ER F} {p : Bool} {P : E → Prop} {h : E → F} {g : E → E} {f : Str} {j : Nat} {kk : Kp κ} {s : Rp β} {pos : Pos}
theorem own_out {w w2 : Own} {H H2 : Hp} {d : Addr} {q : Tag} (a : Aft (far w) H w2 H2) (hd : w2 d = some (2 :: q)) : w d = none := by
  cases e : w d with
  | none => rfl
  | some t =>
    have := (a.fk d t (far_some e)).1
    rw [hd] at this
    cases this
theorem tx_fldHD {fg : F → List (κ × β)} {fs : F → List (κ × β) → F} (hl : TH X R o (ob C ns ER0) p P h g) (hf : Has ER0 j (od kk s) fg fs) (hj : ns[j]? = some f) (c : Cls X.K C) (na : NoAttr X.K C f)
    (hb : attributeBase o f X.env (eval o X.env) = eval o X.env := by rfl) : TX X R (.Attribute o f pos) (rDict kk s) true p P (fun e => fg (h e)) g := by
  obtain ⟨te, h1, h2⟩ := hl
  refine ⟨_, pe_fld h1 hb, fun w H σ env Q Gd hR hP k => h2 w H σ env _ Gd hR hP fun v w1 H1 w2 H2 p1 af s' => ?_⟩
  obtain ⟨a, dx, fl, τ, z1, z2, z3, z4, z5⟩ := s'
  cases z1
  obtain ⟨o', g1, d, kvs, rfl, g3, g4, g5, g6, g7⟩ := hf.get z5
  refine ⟨a, C, dx, fl, _, rfl, z3, c, na, z4.field hj g1, ?_⟩
  obtain ⟨p2, l⟩ := call_back p1.good p1.env af
  exact k _ w1 H2 ((p1.trans p2).weak (by simp)) ⟨d, _, kvs, rfl, fz_of (own_out af g3) g4, rfl, g5.mono l, g6, g7⟩
theorem tx_fldHL {r : Rp β} {fg : F → List β} {fs : F → List β → F} (hl : TH X R o (ob C ns ER0) p P h g) (hf : Has ER0 j (ol r) fg fs) (hj : ns[j]? = some f) (c : Cls X.K C) (na : NoAttr X.K C f)
    (hb : attributeBase o f X.env (eval o X.env) = eval o X.env := by rfl) : TX X R (.Attribute o f pos) (rList r) true p P (fun e => fg (h e)) g := by
  obtain ⟨te, h1, h2⟩ := hl
  refine ⟨_, pe_fld h1 hb, fun w H σ env Q Gd hR hP k => h2 w H σ env _ Gd hR hP fun v w1 H1 w2 H2 p1 af s' => ?_⟩
  obtain ⟨a, dx, fl, τ, z1, z2, z3, z4, z5⟩ := s'
  cases z1
  obtain ⟨o', g1, d, vs, rfl, g3, g4, g5, g6⟩ := hf.get z5
  refine ⟨a, C, dx, fl, _, rfl, z3, c, na, z4.field hj g1, ?_⟩
  obtain ⟨p2, l⟩ := call_back p1.good p1.env af
  exact k _ w1 H2 ((p1.trans p2).weak (by simp)) ⟨d, vs, rfl, fz_of (own_out af g3) g4, paired_le l g5, g6⟩
end
end Lmo
end
section
set_option Elab.async false
set_option linter.all false
set_option maxRecDepth 100000
set_option maxHeartbeats 4000000
namespace Lmo
open PySem PySem.Spec PyProof.Rows L2
/-! ### a op b op c op d, as a test -/
def tChain3 (r1 r2 r3 : R2) (ta tb tc td : TE) : TE := fun σ H Q => ta σ H fun x H1 => tb σ H1 fun y H2 => r1 x y H2 fun z H3 => ∃ k, z = .bl k ∧
  (if k = true then tc σ H3 fun u H4 => r2 y u H4 fun z H5 => ∃ k, z = .bl k ∧ (if k = true then td σ H5 fun v H6 => r3 u v H6 Q else Q (.bl false) H5) else Q (.bl false) H3)
section
variable {X : Cx} {a b c d : Expr} {ta tb tc td : TE} {pos : Pos}
theorem pt_chain3 {op1 op2 op3 : CmpOp} {r1 r2 r3 : R2} (h1 : OpR X (compareOp op1) r1) (h2 : OpR X (compareOp op2) r2) (h3 : OpR X (compareOp op3) r3) (ha : PE X a ta) (hb : PE X b tb) (hc : PE X c tc) (hd : PE X d td)
    (hm : lastMarks [op1, op2, op3] [b, c, d] = false := by with_unfolding_all rfl) : PT X (.Compare a [op1, op2, op3] [b, c, d] pos) (tTest (tChain3 r1 r2 r3 ta tb tc td)) := by
  refine ⟨fun pins s σ H Q I h => ?_⟩
  refine isTrue_chain (thn (ha.run pins s σ H _ I h) fun v s1 ⟨x, H1, I1, r1', q1⟩ => test_link (thn (hb.run pins s1 σ H1 _ I1 q1) fun u s2 ⟨y, H2, I2, r2', q2⟩ =>
    thn (h1 pins s2 σ H2 x y v u _ I2 r1' r2' q2) fun dd s3 ⟨z, H3, I3, r3', k, e, q3⟩ => ?_)) hm
  subst e
  cases r3'
  refine wpAny_truthy_bool ?_
  cases k with
  | false =>
    obtain ⟨k', e', q'⟩ := q3
    cases e'
    exact ite_ff ⟨H3, I3, q'⟩
  | true =>
    refine ite_tt (test_link (thn (hc.run pins s3 σ H3 _ I3 q3) fun u4 s4 ⟨y4, H4, I4, r4, q4⟩ => thn (h2 pins s4 σ H4 y y4 u u4 _ I4 r2' r4 q4) fun d5 s5 ⟨z5, H5, I5, r5, k5, e5, q5⟩ => ?_))
    subst e5
    cases r5
    refine wpAny_truthy_bool ?_
    cases k5 with
    | false =>
      obtain ⟨k', e', q'⟩ := q5
      cases e'
      exact ite_ff ⟨H5, I5, q'⟩
    | true =>
      refine ite_tt (test_last (thn (hd.run pins s5 σ H5 _ I5 q5) fun w' s6 ⟨z', H6, I6, r6, q6⟩ => thn (h3 pins s6 σ H6 y4 z' u4 w' _ I6 r4 r6 q6) fun d' s7 ⟨z2, H7, I7, r7, k2, e2, q7⟩ => ?_))
      subst e2
      cases r7
      exact wpAny_truthy_bool ⟨H7, I7, q7⟩
variable {E : Type} {R : ER E} {la lb lc ld pa : Bool} {Pa Pb Pc Pd : E → Prop} {fa fb fc fd : E → Int} {ga : E → E} {C1 C2 C3 : Int → Int → Prop} {k1 k2 k3 : Int → Int → Bool}
theorem tq_chain3 {op1 op2 op3 : CmpOp} (o1 : OpF X (compareOp op1) rInt rInt rBool C1 k1) (o2 : OpF X (compareOp op2) rInt rInt rBool C2 k2) (o3 : OpF X (compareOp op3) rInt rInt rBool C3 k3)
    (ha : TX X R a rInt la pa Pa fa ga) (hb : TX X R b rInt lb true Pb fb fun e => e) (hc : TX X R c rInt lc true Pc fc fun e => e) (hd : TX X R d rInt ld true Pd fd fun e => e)
    (hm : lastMarks [op1, op2, op3] [b, c, d] = false := by with_unfolding_all rfl) :
    TQ X R (.Compare a [op1, op2, op3] [b, c, d] pos) pa (fun e => Pa e ∧ Pb (ga e) ∧ C1 (fa e) (fb (ga e)) ∧ (k1 (fa e) (fb (ga e)) = true → Pc (ga e) ∧ C2 (fb (ga e)) (fc (ga e)) ∧ (k2 (fb (ga e)) (fc (ga e)) = true → Pd (ga e) ∧ C3 (fc (ga e)) (fd (ga e)))))
      (fun e => k1 (fa e) (fb (ga e)) && (k2 (fb (ga e)) (fc (ga e)) && k3 (fc (ga e)) (fd (ga e)))) ga := by
  obtain ⟨r1, h1, hr1⟩ := o1
  obtain ⟨r2, h2, hr2⟩ := o2
  obtain ⟨r3, h3, hr3⟩ := o3
  obtain ⟨ta, a1, a2⟩ := ha
  obtain ⟨tb, b1, b2⟩ := hb
  obtain ⟨tc, c1, c2⟩ := hc
  obtain ⟨td, d1, d2⟩ := hd
  refine ⟨_, pt_chain3 h1 h2 h3 a1 b1 c1 d1 hm, fun w H σ env Q G q hP k => ?_⟩
  refine a2 w H σ env _ G q hP.1 fun v w1 H1 p1 r1' => ?_
  refine b2 w1 H1 σ _ _ p1.good p1.env hP.2.1 fun u w2 H2 p2 r2' => ?_
  refine hr1 H2 v u _ _ _ r1' r2' hP.2.2.1 fun z hz => ?_
  refine ⟨_, hz, ?_⟩
  cases e : k1 (fa env) (fb (ga env)) with
  | false =>
    rw [if_neg Bool.false_ne_true]
    refine ⟨_, rfl, ?_⟩
    have := k w2 H2 ((p1.trans p2).weak (by simp))
    rw [e] at this
    exact this
  | true =>
    rw [if_pos rfl]
    obtain ⟨hc, hC, hK⟩ := hP.2.2.2 e
    refine c2 w2 H2 σ _ _ p2.good p2.env hc fun x w3 H3 p3 r3' => ?_
    refine hr2 H3 u x _ _ _ r2' r3' hC fun y hy => ?_
    refine ⟨_, hy, ?_⟩
    cases e2 : k2 (fb (ga env)) (fc (ga env)) with
    | false =>
      rw [if_neg Bool.false_ne_true]
      refine ⟨_, rfl, ?_⟩
      have := k w3 H3 (((p1.trans p2).trans p3).weak (by simp))
      rw [e, e2] at this
      exact this
    | true =>
      rw [if_pos rfl]
      obtain ⟨hd, hD⟩ := hK e2
      refine d2 w3 H3 σ _ _ p3.good p3.env hd fun x4 w4 H4 p4 r4' => ?_
      refine hr3 H4 x x4 _ _ _ r3' r4' hD fun y4 hy4 => ?_
      refine ⟨_, hy4, ?_⟩
      have := k w4 H4 ((((p1.trans p2).trans p3).trans p4).weak (by simp))
      rw [e, e2] at this
      exact this
end
/-- rounds enough for a walk from moment to moment up to the last end -/
def fuelOf (cs : List (Int × Int × Int × Int × Option Int)) : Nat := (cs.map fun x => x.2.2.1.toNat).sum + 2
end Lmo
end
section
set_option Elab.async false
set_option linter.all false
set_option maxRecDepth 100000
set_option maxHeartbeats 4000000
namespace LawK
open PySem L2 Lmo
def top (i : Nat) : Stmt := PySem.Challenge.pw_lastmoments_k83_whole_nobody_leaves.main.body.getD i (.Pass ⟨0, 0, 0, 0⟩)
abbrev s_cost_for : Stmt := (top 6)
abbrev s_without : Stmt := (top 7)
abbrev s_price_at : Stmt := (top 9)
abbrev s_Links_link : Stmt := (inClass (top 11) 1)
abbrev s_Links_init : Stmt := (inClass (top 11) 0)
abbrev s_Links_can_go : Stmt := (inClass (top 11) 4)
abbrev s_Links_least_from : Stmt := (inClass (top 11) 3)
abbrev s_Links_row : Stmt := (inClass (top 11) 2)
abbrev s_Links_cost : Stmt := (inClass (top 11) 5)
abbrev s_Links_counts : Stmt := (inClass (top 11) 6)
abbrev s_Links_times : Stmt := (inClass (top 11) 7)
abbrev s_least_cost : Stmt := (top 12)
abbrev s_cost_alone : Stmt := (top 13)
abbrev s_is_integer : Stmt := (top 1)
abbrev s_is_id : Stmt := (top 4)
abbrev s_offer : Stmt := (top 15)
abbrev s_greatest_share : Stmt := (top 16)
abbrev s_spots_of : Stmt := (top 17)
abbrev s_offers_at : Stmt := (top 18)
abbrev s_leavers : Stmt := (top 19)
abbrev s_is_share : Stmt := (top 20)
abbrev s_are_formed : Stmt := (top 21)
abbrev s_are_right : Stmt := (top 22)
abbrev s_Raising_spots_for : Stmt := (inClass (top 23) 1)
abbrev s_Raising_add : Stmt := (inClass (top 23) 2)
abbrev s_Raising_stop : Stmt := (inClass (top 23) 3)
abbrev s_Raising_raise_at : Stmt := (inClass (top 23) 4)
abbrev s_Raising_far : Stmt := (inClass (top 23) 5)
abbrev s_Raising_init : Stmt := (inClass (top 23) 0)
abbrev s_urgent_shares : Stmt := (top 24)
abbrev s_law_stream : Stmt := (top 26)
abbrev s_law_draw : Stmt := (top 27)
abbrev s_law_choose : Stmt := (top 28)
abbrev s_law_shuffled : Stmt := (top 29)
abbrev s_law_tariff : Stmt := (top 30)
abbrev s_law_charge : Stmt := (top 31)
abbrev s_law_charges : Stmt := (top 32)
abbrev s_law_groups : Stmt := (top 33)
abbrev s_law : Stmt := (top 34)
/-- where things lie -/
structure Ad where
  cost_for : Addr
  cost_for_d : FuncData
  without : Addr
  without_d : FuncData
  price_at : Addr
  price_at_d : FuncData
  Links_link : Addr
  Links_link_d : FuncData
  Links_init : Addr
  Links_init_d : FuncData
  Links_can_go : Addr
  Links_can_go_d : FuncData
  Links_least_from : Addr
  Links_least_from_d : FuncData
  Links_row : Addr
  Links_row_d : FuncData
  Links_cost : Addr
  Links_cost_d : FuncData
  Links_counts : Addr
  Links_counts_d : FuncData
  Links_times : Addr
  Links_times_d : FuncData
  least_cost : Addr
  least_cost_d : FuncData
  cost_alone : Addr
  cost_alone_d : FuncData
  is_integer : Addr
  is_integer_d : FuncData
  is_id : Addr
  is_id_d : FuncData
  offer : Addr
  offer_d : FuncData
  greatest_share : Addr
  greatest_share_d : FuncData
  spots_of : Addr
  spots_of_d : FuncData
  offers_at : Addr
  offers_at_d : FuncData
  leavers : Addr
  leavers_d : FuncData
  is_share : Addr
  is_share_d : FuncData
  are_formed : Addr
  are_formed_d : FuncData
  are_right : Addr
  are_right_d : FuncData
  Raising_spots_for : Addr
  Raising_spots_for_d : FuncData
  Raising_add : Addr
  Raising_add_d : FuncData
  Raising_stop : Addr
  Raising_stop_d : FuncData
  Raising_raise_at : Addr
  Raising_raise_at_d : FuncData
  Raising_far : Addr
  Raising_far_d : FuncData
  Raising_init : Addr
  Raising_init_d : FuncData
  urgent_shares : Addr
  urgent_shares_d : FuncData
  law_stream : Addr
  law_stream_d : FuncData
  law_draw : Addr
  law_draw_d : FuncData
  law_choose : Addr
  law_choose_d : FuncData
  law_shuffled : Addr
  law_shuffled_d : FuncData
  law_tariff : Addr
  law_tariff_d : FuncData
  law_charge : Addr
  law_charge_d : FuncData
  law_charges : Addr
  law_charges_d : FuncData
  law_groups : Addr
  law_groups_d : FuncData
  law : Addr
  law_d : FuncData
  Links : Addr
  Raising : Addr
/-- what of the text's start is used -/
structure Fa (K : PySem.W.Frag) (mg : Str → Option Value) (a : Ad) : Prop where
  n_all : mg "all" = none
  n_bool : mg "bool" = none
  n_dict : mg "dict" = none
  n_int : mg "int" = none
  n_isinstance : mg "isinstance" = none
  n_len : mg "len" = none
  n_list : mg "list" = none
  n_max : mg "max" = none
  n_min : mg "min" = none
  n_range : mg "range" = none
  n_set : mg "set" = none
  n_sorted : mg "sorted" = none
  n_sum : mg "sum" = none
  k_GREATEST_ID : ∃ t, mg "GREATEST_ID" = some (.int 1000000 t)
  f_cost_for : FnD K "cost_for" "cost_for" s_cost_for a.cost_for a.cost_for_d
  b_cost_for : Binds K a.cost_for_d ["charge", "moment"] []
  g_cost_for : mg "cost_for" = some (.ref a.cost_for)
  f_without : FnD K "without" "without" s_without a.without a.without_d
  b_without : Binds K a.without_d ["charges", "row_id"] []
  g_without : mg "without" = some (.ref a.without)
  f_price_at : FnD K "price_at" "price_at" s_price_at a.price_at a.price_at_d
  b_price_at : Binds K a.price_at_d ["tariff", "moment"] []
  g_price_at : mg "price_at" = some (.ref a.price_at)
  f_Links_link : FnD K "link" "Links.link" s_Links_link a.Links_link a.Links_link_d
  b_Links_link : Binds K a.Links_link_d ["self", "low", "high"] []
  me_Links_link : Meth K a.Links "link" a.Links_link
  f_Links_init : FnD K "__init__" "Links.__init__" s_Links_init a.Links_init a.Links_init_d
  b_Links_init : Binds K a.Links_init_d ["self", "charges", "tariff"] []
  f_Links_can_go : FnD K "can_go" "Links.can_go" s_Links_can_go a.Links_can_go a.Links_can_go_d
  b_Links_can_go : Binds K a.Links_can_go_d ["self", "costs", "behind", "high"] []
  me_Links_can_go : Meth K a.Links "can_go" a.Links_can_go
  f_Links_least_from : FnD K "least_from" "Links.least_from" s_Links_least_from a.Links_least_from a.Links_least_from_d
  b_Links_least_from : Binds K a.Links_least_from_d ["self", "place", "behind"] []
  me_Links_least_from : Meth K a.Links "least_from" a.Links_least_from
  f_Links_row : FnD K "row" "Links.row" s_Links_row a.Links_row a.Links_row_d
  b_Links_row : Binds K a.Links_row_d ["self", "count"] []
  me_Links_row : Meth K a.Links "row" a.Links_row
  f_Links_cost : FnD K "cost" "Links.cost" s_Links_cost a.Links_cost a.Links_cost_d
  b_Links_cost : Binds K a.Links_cost_d ["self", "count"] []
  me_Links_cost : Meth K a.Links "cost" a.Links_cost
  f_Links_counts : FnD K "counts" "Links.counts" s_Links_counts a.Links_counts a.Links_counts_d
  b_Links_counts : Binds K a.Links_counts_d ["self"] []
  me_Links_counts : Meth K a.Links "counts" a.Links_counts
  f_Links_times : FnD K "times" "Links.times" s_Links_times a.Links_times a.Links_times_d
  b_Links_times : Binds K a.Links_times_d ["self", "count"] []
  me_Links_times : Meth K a.Links "times" a.Links_times
  f_least_cost : FnD K "least_cost" "least_cost" s_least_cost a.least_cost a.least_cost_d
  b_least_cost : Binds K a.least_cost_d ["charges", "tariff"] []
  g_least_cost : mg "least_cost" = some (.ref a.least_cost)
  f_cost_alone : FnD K "cost_alone" "cost_alone" s_cost_alone a.cost_alone a.cost_alone_d
  b_cost_alone : Binds K a.cost_alone_d ["charges", "tariff", "row_id"] []
  g_cost_alone : mg "cost_alone" = some (.ref a.cost_alone)
  f_is_integer : FnD K "is_integer" "is_integer" s_is_integer a.is_integer a.is_integer_d
  b_is_integer : Binds K a.is_integer_d ["value", "low", "high"] []
  g_is_integer : mg "is_integer" = some (.ref a.is_integer)
  f_is_id : FnD K "is_id" "is_id" s_is_id a.is_id a.is_id_d
  b_is_id : Binds K a.is_id_d ["value"] []
  g_is_id : mg "is_id" = some (.ref a.is_id)
  f_offer : FnD K "offer" "offer" s_offer a.offer a.offer_d
  b_offer : Binds K a.offer_d ["charge", "share", "moment"] []
  g_offer : mg "offer" = some (.ref a.offer)
  f_greatest_share : FnD K "greatest_share" "greatest_share" s_greatest_share a.greatest_share a.greatest_share_d
  b_greatest_share : Binds K a.greatest_share_d ["charge"] []
  g_greatest_share : mg "greatest_share" = some (.ref a.greatest_share)
  f_spots_of : FnD K "spots_of" "spots_of" s_spots_of a.spots_of a.spots_of_d
  b_spots_of : Binds K a.spots_of_d ["charges", "tariff"] []
  g_spots_of : mg "spots_of" = some (.ref a.spots_of)
  f_offers_at : FnD K "offers_at" "offers_at" s_offers_at a.offers_at a.offers_at_d
  b_offers_at : Binds K a.offers_at_d ["charges", "shares", "moment"] []
  g_offers_at : mg "offers_at" = some (.ref a.offers_at)
  f_leavers : FnD K "leavers" "leavers" s_leavers a.leavers a.leavers_d
  b_leavers : Binds K a.leavers_d ["charges", "tariff", "shares"] []
  g_leavers : mg "leavers" = some (.ref a.leavers)
  f_is_share : FnD K "is_share" "is_share" s_is_share a.is_share a.is_share_d
  b_is_share : Binds K a.is_share_d ["value"] []
  g_is_share : mg "is_share" = some (.ref a.is_share)
  f_are_formed : FnD K "are_formed" "are_formed" s_are_formed a.are_formed a.are_formed_d
  b_are_formed : Binds K a.are_formed_d ["charges", "value"] []
  g_are_formed : mg "are_formed" = some (.ref a.are_formed)
  f_are_right : FnD K "are_right" "are_right" s_are_right a.are_right a.are_right_d
  b_are_right : Binds K a.are_right_d ["charges", "tariff", "value"] []
  g_are_right : mg "are_right" = some (.ref a.are_right)
  f_Raising_spots_for : FnD K "spots_for" "Raising.spots_for" s_Raising_spots_for a.Raising_spots_for a.Raising_spots_for_d
  b_Raising_spots_for : Binds K a.Raising_spots_for_d ["self", "row_id", "moment"] []
  me_Raising_spots_for : Meth K a.Raising "spots_for" a.Raising_spots_for
  f_Raising_add : FnD K "add" "Raising.add" s_Raising_add a.Raising_add a.Raising_add_d
  b_Raising_add : Binds K a.Raising_add_d ["self", "row_id", "moment", "part"] []
  me_Raising_add : Meth K a.Raising "add" a.Raising_add
  f_Raising_stop : FnD K "stop" "Raising.stop" s_Raising_stop a.Raising_stop a.Raising_stop_d
  b_Raising_stop : Binds K a.Raising_stop_d ["self", "row_id", "moment", "is_short"] []
  me_Raising_stop : Meth K a.Raising "stop" a.Raising_stop
  f_Raising_raise_at : FnD K "raise_at" "Raising.raise_at" s_Raising_raise_at a.Raising_raise_at a.Raising_raise_at_d
  b_Raising_raise_at : Binds K a.Raising_raise_at_d ["self", "moment"] []
  me_Raising_raise_at : Meth K a.Raising "raise_at" a.Raising_raise_at
  f_Raising_far : FnD K "far" "Raising.far" s_Raising_far a.Raising_far a.Raising_far_d
  b_Raising_far : Binds K a.Raising_far_d ["self", "moment"] []
  me_Raising_far : Meth K a.Raising "far" a.Raising_far
  f_Raising_init : FnD K "__init__" "Raising.__init__" s_Raising_init a.Raising_init a.Raising_init_d
  b_Raising_init : Binds K a.Raising_init_d ["self", "charges", "tariff"] []
  f_urgent_shares : FnD K "urgent_shares" "urgent_shares" s_urgent_shares a.urgent_shares a.urgent_shares_d
  b_urgent_shares : Binds K a.urgent_shares_d ["charges", "tariff"] []
  g_urgent_shares : mg "urgent_shares" = some (.ref a.urgent_shares)
  f_law_stream : FnD K "_law_stream" "_law_stream" s_law_stream a.law_stream a.law_stream_d
  b_law_stream : Binds K a.law_stream_d ["_law_script", "_law_start"] []
  g_law_stream : mg "_law_stream" = some (.ref a.law_stream)
  f_law_draw : FnD K "_law_draw" "_law_draw" s_law_draw a.law_draw a.law_draw_d
  b_law_draw : Binds K a.law_draw_d ["_law_stream_here", "_law_size"] []
  g_law_draw : mg "_law_draw" = some (.ref a.law_draw)
  f_law_choose : FnD K "_law_choose" "_law_choose" s_law_choose a.law_choose a.law_choose_d
  b_law_choose : Binds K a.law_choose_d ["_law_stream_here", "_law_things"] []
  g_law_choose : mg "_law_choose" = some (.ref a.law_choose)
  f_law_shuffled : FnD K "_law_shuffled" "_law_shuffled" s_law_shuffled a.law_shuffled a.law_shuffled_d
  b_law_shuffled : Binds K a.law_shuffled_d ["_law_stream_here", "_law_things"] []
  g_law_shuffled : mg "_law_shuffled" = some (.ref a.law_shuffled)
  f_law_tariff : FnD K "_law_tariff" "_law_tariff" s_law_tariff a.law_tariff a.law_tariff_d
  b_law_tariff : Binds K a.law_tariff_d ["_law_stream_here", "_law_last"] []
  g_law_tariff : mg "_law_tariff" = some (.ref a.law_tariff)
  f_law_charge : FnD K "_law_charge" "_law_charge" s_law_charge a.law_charge a.law_charge_d
  b_law_charge : Binds K a.law_charge_d ["_law_stream_here", "_law_last"] []
  g_law_charge : mg "_law_charge" = some (.ref a.law_charge)
  f_law_charges : FnD K "_law_charges" "_law_charges" s_law_charges a.law_charges a.law_charges_d
  b_law_charges : Binds K a.law_charges_d ["_law_stream_here", "_law_most", "_law_last"] []
  g_law_charges : mg "_law_charges" = some (.ref a.law_charges)
  f_law_groups : FnD K "_law_groups" "_law_groups" s_law_groups a.law_groups a.law_groups_d
  b_law_groups : Binds K a.law_groups_d ["_law_ids"] []
  g_law_groups : mg "_law_groups" = some (.ref a.law_groups)
  f_law : FnD K "law" "law" s_law a.law a.law_d
  b_law : Binds K a.law_d ["_law_script"] []
  g_law : mg "law" = some (.ref a.law)
  c_Links : Cls K a.Links
  m_Links : Mk K a.Links a.Links_init
  g_Links : mg "Links" = some (.ref a.Links)
  na_Links_lots : NoAttr K a.Links "lots"
  na_Links_spots : NoAttr K a.Links "spots"
  na_Links_tolls : NoAttr K a.Links "tolls"
  na_Links_costs : NoAttr K a.Links "costs"
  na_Links_known : NoAttr K a.Links "known"
  c_Raising : Cls K a.Raising
  m_Raising : Mk K a.Raising a.Raising_init
  g_Raising : mg "Raising" = some (.ref a.Raising)
  na_Raising_lots : NoAttr K a.Raising "lots"
  na_Raising_room : NoAttr K a.Raising "room"
  na_Raising_held : NoAttr K a.Raising "held"
  na_Raising_going : NoAttr K a.Raising "going"
  na_Raising_stops : NoAttr K a.Raising "stops"
abbrev Links_F : Type := ((List (Int × Int × Int × (Option Int))) × (List Int) × (List Int) × (List (List (Option Int))) × (List (Int × (List (Option Int)))) × Unit)
abbrev Links_ns : List Str := ["lots", "spots", "tolls", "costs", "known"]
abbrev Links_S (a : Ad) : SR Links_F := ob a.Links Links_ns (ec (fr (rList (rTup (tpc rInt (tpc rInt (tpc rInt (tp1 (rOpt rInt)))))))) (ec (fr (rList rInt)) (ec (fr (rList rInt)) (ec (fr (rList (rList (rOpt rInt)))) (ec (od kInt (rList (rOpt rInt))) en)))))
abbrev Links_0 : Unit × Unit × Unit × Unit × Unit × Unit := ((), (), (), (), (), ())
theorem Links_st1 : St1 Links_ns.length (ec un (ec un (ec un (ec un (ec un en))))) Links_0 := (st1_un (st1_un (st1_un (st1_un (st1_un st1_nil)))))
abbrev Raising_F : Type := ((List (Int × (Int × Int × Int × (Option Int)))) × (List (Int × Int)) × (List (Int × Int)) × (List Int) × (List (Int × Int × Int)) × Unit)
abbrev Raising_ns : List Str := ["lots", "room", "held", "going", "stops"]
abbrev Raising_S (a : Ad) : SR Raising_F := ob a.Raising Raising_ns (ec (fr (rDict kInt (rTup (tpc rInt (tpc rInt (tpc rInt (tp1 (rOpt rInt)))))))) (ec (od kInt rInt) (ec (od kInt rInt) (ec (ol rInt) (ec (ol (rTup (tpc rInt (tpc rInt (tp1 rInt))))) en)))))
abbrev Raising_0 : Unit × Unit × Unit × Unit × Unit × Unit := ((), (), (), (), (), ())
theorem Raising_st1 : St1 Raising_ns.length (ec un (ec un (ec un (ec un (ec un en))))) Raising_0 := (st1_un (st1_un (st1_un (st1_un (st1_un st1_nil)))))
section
variable {P : Program} {w0 : World} {K : PySem.W.Frag} {mg : Str → Option Value} {base : Heap} {a : Ad}
/-! ### cost_for -/
theorem sc_cost_for : FnScope ["charge", "moment", "begin", "end", "wait", "fine"] ["charge", "moment"] (defScope s_cost_for) := ⟨rfl, rfl, rfl, by decide +kernel, rfl, by decide +kernel, by decide +kernel⟩
def cost_for_o (z : (Int × Int × Int × (Option Int)) × (Option Int)) : Out Unit Int := .rt (if z.2.isNone = true then ((z.1.2.2.1 * (z.1.2.1 - z.1.1)) + (z.1.2.2.2.getD default)) else (z.1.2.2.1 * ((z.2.getD default) - z.1.1)))
def cost_for (z : (Int × Int × Int × (Option Int)) × (Option Int)) : Int := (cost_for_o z).get (fun _ => default)
def cost_for_pre (z : (Int × Int × Int × (Option Int)) × (Option Int)) : Prop := True ∧ ((True ∧ True ∧ True) ∧ (z.2.isNone = true → ((True ∧ (True ∧ True ∧ True) ∧ (CMul z.1.2.2.1 (z.1.2.1 - z.1.1))) ∧ (True ∧ (z.1.2.2.2.isSome = true)) ∧ True)) ∧ (z.2.isNone = false → (True ∧ ((True ∧ (z.2.isSome = true)) ∧ True ∧ True) ∧ (CMul z.1.2.2.1 ((z.2.getD default) - z.1.1)))))
theorem ends_cost_for (z : (Int × Int × Int × (Option Int)) × (Option Int)) : NN (cost_for_o z) := by
  unfold cost_for_o
  repeat (first | with_reducible exact nn_rt | with_reducible refine nn_if ?_ ?_ | with_reducible refine nn_bind fun _ => ?_ | with_reducible refine nn_match fun _ => ?_ | dsimp only)
theorem ok_cost_for (fa : Fa K mg a) : FnOk P w0 K mg base CX0 1 a.cost_for a.cost_for_d ["charge", "moment"] (spP (tpc (rTup (tpc rInt (tpc rInt (tpc rInt (tp1 (rOpt rInt)))))) (tp1 (rOpt rInt))) (rsF rInt) cost_for_pre cost_for) := by
  have nd := sc_cost_for.nd
  exact fnP2 (R1 := en) (fo := cost_for_o) (fin := (fun _ => default)) fa.f_cost_for sc_cost_for (tp_lenc tp_len1) (st0_cons (st0_one (st1_un (st1_un (st1_un (st1_un st1_nil)))))) (fun cdv A outer s H Ex hr =>
  (ts_seq (tl_unpack (vs := [2, 3, 4, 5]) (tx_var has0 (pv 0)) (tg_tup (tgs_cons (tg_name (putS (putS put0)) (putS (putS put0)) (hasS (hasS has0)) (by decide) nd (by rfl) (by exact .inl rfl)) (tgs_cons (tg_name (putS (putS (putS put0))) (putS (putS (putS put0))) (hasS (hasS (hasS has0))) (by decide) nd (by rfl) (by exact .inl rfl)) (tgs_cons (tg_name (putS (putS (putS (putS put0)))) (putS (putS (putS (putS put0)))) (hasS (hasS (hasS (hasS has0)))) (by decide) nd (by rfl) (by exact .inl rfl)) (tgs_one (tg_name (putS (putS (putS (putS (putS put0))))) (putS (putS (putS (putS (putS put0))))) (hasS (hasS (hasS (hasS (hasS has0))))) (by decide) nd (by rfl) (by exact .inl rfl)))))) (by rfl) (tp_lenc (tp_lenc (tp_lenc tp_len1)))))
  (ts_ret (tx_if (tq_cmp o_isN (tx_var (hasS has0) (pv 1)) tx_non) (TX.pu (tx_op o_add (tx_op o_mul (tx_var (hasS (hasS (hasS (hasS has0)))) (pv 4)) (tx_op o_sub (tx_var (hasS (hasS (hasS has0))) (pv 3)) (tx_var (hasS (hasS has0)) (pv 2)))) (tx_get (d := default) (tx_var (hasS (hasS (hasS (hasS (hasS has0))))) (pv 5)))) (by rfl) (by rfl)) (TX.pu (tx_op o_mul (tx_var (hasS (hasS (hasS (hasS has0)))) (pv 4)) (tx_op o_sub (tx_get (d := default) (tx_var (hasS has0) (pv 1))) (tx_var (hasS (hasS has0)) (pv 2)))) (by rfl) (by rfl)))))) (fun _ => by kernel_rfl) (fun _ => by kernel_rfl) (.inr ends_cost_for)
/-! ### without -/
theorem sc_without : FnScope ["charges", "row_id", "other", "charge"] ["charges", "row_id"] (defScope s_without) := ⟨rfl, rfl, rfl, by decide +kernel, rfl, by decide +kernel, by decide +kernel⟩
def without_o (z : (List (Int × (Int × Int × Int × (Option Int)))) × Int) : Out Unit (List (Int × (Int × Int × Int × (Option Int)))) := .rt ((z.1.filter fun (x1 : (Int × (Int × Int × Int × (Option Int)))) => (!decide (x1.1 = z.2))).map fun (x1 : (Int × (Int × Int × Int × (Option Int)))) => (x1.1, x1.2))
def without (z : (List (Int × (Int × Int × Int × (Option Int)))) × Int) : (List (Int × (Int × Int × Int × (Option Int)))) := (without_o z).get (fun _ => default)
def without_pre (z : (List (Int × (Int × Int × Int × (Option Int)))) × Int) : Prop := True ∧ (∀ x1 ∈ z.1, (True ∧ True ∧ True) ∧ ((!decide (x1.1 = z.2)) = true → True ∧ True)) ∧ (((z.1.filter fun (x1 : (Int × (Int × Int × Int × (Option Int)))) => (!decide (x1.1 = z.2))).map fun (x1 : (Int × (Int × Int × Int × (Option Int)))) => x1.1).Nodup)
theorem ends_without (z : (List (Int × (Int × Int × Int × (Option Int)))) × Int) : NN (without_o z) := by
  unfold without_o
  repeat (first | with_reducible exact nn_rt | with_reducible refine nn_if ?_ ?_ | with_reducible refine nn_bind fun _ => ?_ | with_reducible refine nn_match fun _ => ?_ | dsimp only)
theorem ok_without (fa : Fa K mg a) : FnOk P w0 K mg base CX0 1 a.without a.without_d ["charges", "row_id"] (spP (tpc (rDict kInt (rTup (tpc rInt (tpc rInt (tpc rInt (tp1 (rOpt rInt))))))) (tp1 rInt)) (rsF (rDict kInt (rTup (tpc rInt (tpc rInt (tpc rInt (tp1 (rOpt rInt)))))))) without_pre without) := by
  have nd := sc_without.nd
  exact fnP2 (R1 := en) (fo := without_o) (fin := (fun _ => default)) fa.f_without sc_without (tp_lenc tp_len1) (st0_cons (st0_one (st1_un (st1_un st1_nil)))) (fun cdv A outer s H Ex hr =>
  (ts_ret (tx_newD (tm_dc (dcF (own := [("other", 2), ("charge", 3)]) (kk := kInt) kk_int (ti_items (tx_var has0 (pv 0)) rInt hk_int) (m := [false, false, true, true]) (ins_keep (ins_keep (ins_un (ins_un ins_nil)))) (by decide) (fun _ _ _ _ _ => (tg_tup (tgs_cons (tg_name (putS (putS put0)) (putS (putS put0)) (hasS (hasS has0)) (by decide) nd (by rfl) (by first | exact .inl rfl | exact .inr rfl)) (tgs_one (tg_name (putS (putS (putS put0))) (putS (putS (putS put0))) (hasS (hasS (hasS has0))) (by decide) nd (by rfl) (by first | exact .inl rfl | exact .inr rfl)))) (by rfl) (tp_lenc tp_len1))) (by intros; rfl) (fun _ _ _ _ _ => (tps_one (TQ.pu (tq_cmp o_ne (tx_var (hasS (hasS has0)) (pv 2)) (tx_var (hasS has0) (pv 1))) (by rfl) (by rfl)))) (fun _ _ _ _ _ => (TX.pu (tx_var (hasS (hasS has0)) (pv 2)) (by rfl) (by rfl))) (fun _ _ _ _ _ => (TX.pu (tx_var (hasS (hasS (hasS has0))) (pv 3)) (by rfl) (by rfl)))) (by rfl) nd (by kernel_rfl))))) (fun _ => by kernel_rfl) (fun _ => by kernel_rfl) (.inr ends_without)
/-! ### price_at -/
theorem sc_price_at : FnScope ["tariff", "moment", "begin", "price"] ["tariff", "moment"] (defScope s_price_at) := ⟨rfl, rfl, rfl, by decide +kernel, rfl, by decide +kernel, by decide +kernel⟩
def price_at_o (z : (List (Int × Int)) × Int) : Out Unit Int := .rt (geti ((z.1.filter fun (x1 : (Int × Int)) => decide (x1.1 ≤ z.2)).map fun (x1 : (Int × Int)) => x1.2) (-(1 : Int)))
def price_at (z : (List (Int × Int)) × Int) : Int := (price_at_o z).get (fun _ => default)
def price_at_pre (z : (List (Int × Int)) × Int) : Prop := (True ∧ (∀ x1 ∈ z.1, (True ∧ True ∧ True) ∧ (decide (x1.1 ≤ z.2) = true → True))) ∧ True ∧ ((at? ((z.1.filter fun (x1 : (Int × Int)) => decide (x1.1 ≤ z.2)).map fun (x1 : (Int × Int)) => x1.2) (-(1 : Int))).isSome = true)
theorem ends_price_at (z : (List (Int × Int)) × Int) : NN (price_at_o z) := by
  unfold price_at_o
  repeat (first | with_reducible exact nn_rt | with_reducible refine nn_if ?_ ?_ | with_reducible refine nn_bind fun _ => ?_ | with_reducible refine nn_match fun _ => ?_ | dsimp only)
theorem ok_price_at (fa : Fa K mg a) : FnOk P w0 K mg base CX0 1 a.price_at a.price_at_d ["tariff", "moment"] (spP (tpc (rList (rTup (tpc rInt (tp1 rInt)))) (tp1 rInt)) (rsF rInt) price_at_pre price_at) := by
  have nd := sc_price_at.nd
  exact fnP2 (R1 := en) (fo := price_at_o) (fin := (fun _ => default)) fa.f_price_at sc_price_at (tp_lenc tp_len1) (st0_cons (st0_one (st1_un (st1_un st1_nil)))) (fun cdv A outer s H Ex hr =>
  (ts_ret (tx_ixL (tx_newL (tn_lc (lcF (own := [("begin", 2), ("price", 3)]) (ti_list (tx_var has0 (pv 0))) (m := [false, false, true, true]) (ins_keep (ins_keep (ins_un (ins_un ins_nil)))) (by decide) (fun _ _ _ _ _ => (tg_tup (tgs_cons (tg_name (putS (putS put0)) (putS (putS put0)) (hasS (hasS has0)) (by decide) nd (by rfl) (by first | exact .inl rfl | exact .inr rfl)) (tgs_one (tg_name (putS (putS (putS put0))) (putS (putS (putS put0))) (hasS (hasS (hasS has0))) (by decide) nd (by rfl) (by first | exact .inl rfl | exact .inr rfl)))) (by rfl) (tp_lenc tp_len1))) (by intros; rfl) (fun _ _ _ _ _ => (tps_one (TQ.pu (tq_cmp o_le (tx_var (hasS (hasS has0)) (pv 2)) (tx_var (hasS has0) (pv 1))) (by rfl) (by rfl)))) (fun _ _ _ _ _ => (TX.pu (tx_var (hasS (hasS (hasS has0))) (pv 3)) (by rfl) (by rfl)))) (by rfl) nd (by kernel_rfl))) (tx_neg tx_int)))) (fun _ => by kernel_rfl) (fun _ => by kernel_rfl) (.inr ends_price_at)
/-! ### Links.link -/
theorem sc_Links_link : FnScope ["self", "low", "high", "after", "moment", "total", "charge", "sent"] ["self", "low", "high"] (defScope s_Links_link) := ⟨rfl, rfl, rfl, by decide +kernel, rfl, by decide +kernel, by decide +kernel⟩
def Links_link_b7 (e : (((List (Int × Int × Int × (Option Int))) × (List Int) × (List Int) × Unit × Unit × Unit) × Int × Int × Int × (Option Int) × Int × Unit × Unit × Unit)) (x4 : (Int × Int × Int × (Option Int))) : Out (((List (Int × Int × Int × (Option Int))) × (List Int) × (List Int) × Unit × Unit × Unit) × Int × Int × Int × (Option Int) × Int × Unit × Unit × Unit) ((Option Int) × ((List (Int × Int × Int × (Option Int))) × (List Int) × (List Int) × Unit × Unit × Unit)) := (if (decide (e.2.2.2.1 < x4.1) && (e.2.2.2.2.1.isNone || decide (x4.1 ≤ (e.2.2.2.2.1.getD default)))) = true then (let sent5 := (if (e.2.2.2.2.1.isSome && decide ((e.2.2.2.2.1.getD default) ≤ x4.2.1)) = true then e.2.2.2.2.1 else (none : (Option Int))); (if (sent5.isNone && x4.2.2.2.isNone) = true then (.rt ((none : (Option Int)), e.1)) else let total6 := (e.2.2.2.2.2.1 + (cost_for (x4, sent5))); .nx (e.1, e.2.1, e.2.2.1, e.2.2.2.1, e.2.2.2.2.1, total6, (), (), ()))) else (.nx (e.1, e.2.1, e.2.2.1, e.2.2.2.1, e.2.2.2.2.1, e.2.2.2.2.2.1, (), (), ())))
def Links_link_b7_p (e : (((List (Int × Int × Int × (Option Int))) × (List Int) × (List Int) × Unit × Unit × Unit) × Int × Int × Int × (Option Int) × Int × Unit × Unit × Unit)) (x4 : (Int × Int × Int × (Option Int))) : Prop := ((True ∧ True ∧ True) ∧ (decide (e.2.2.2.1 < x4.1) = true → ((True ∧ True ∧ True) ∧ (e.2.2.2.2.1.isNone = false → (True ∧ (True ∧ (e.2.2.2.2.1.isSome = true)) ∧ True))))) ∧ ((decide (e.2.2.2.1 < x4.1) && (e.2.2.2.2.1.isNone || decide (x4.1 ≤ (e.2.2.2.2.1.getD default)))) = true → (let sent5 := (if (e.2.2.2.2.1.isSome && decide ((e.2.2.2.2.1.getD default) ≤ x4.2.1)) = true then e.2.2.2.2.1 else (none : (Option Int))); (((True ∧ True ∧ True) ∧ (e.2.2.2.2.1.isSome = true → ((True ∧ (e.2.2.2.2.1.isSome = true)) ∧ True ∧ True))) ∧ ((e.2.2.2.2.1.isSome && decide ((e.2.2.2.2.1.getD default) ≤ x4.2.1)) = true → True) ∧ ((e.2.2.2.2.1.isSome && decide ((e.2.2.2.2.1.getD default) ≤ x4.2.1)) = false → True)) ∧ (((True ∧ True ∧ True) ∧ (sent5.isNone = true → (True ∧ True ∧ True))) ∧ ((sent5.isNone && x4.2.2.2.isNone) = true → True) ∧ ((sent5.isNone && x4.2.2.2.isNone) = false → (let total6 := (e.2.2.2.2.2.1 + (cost_for (x4, sent5))); ((True ∧ True) ∧ (cost_for_pre (x4, sent5))) ∧ True))))) ∧ ((decide (e.2.2.2.1 < x4.1) && (e.2.2.2.2.1.isNone || decide (x4.1 ≤ (e.2.2.2.2.1.getD default)))) = false → True)
def Links_link_o (s : ((List (Int × Int × Int × (Option Int))) × (List Int) × (List Int) × Unit × Unit × Unit)) (z : Int × Int) : Out Unit ((Option Int) × ((List (Int × Int × Int × (Option Int))) × (List Int) × (List Int) × Unit × Unit × Unit)) := (if decide (z.2 ≤ z.1) = true then (.rt ((none : (Option Int)), s)) else let after1 := (if decide ((0 : Int) ≤ z.1) = true then (geti s.2.1 z.1) else (-(1 : Int))); let moment2 := (if decide (z.2 < (s.2.1.length : Int)) = true then (some (geti s.2.1 z.2)) else (none : (Option Int))); let total3 := (if moment2.isSome = true then (geti s.2.2.1 z.2) else (0 : Int)); (((forL Links_link_b7 s.1 (s, z.1, z.2, after1, moment2, total3, (), (), ())) : Out (((List (Int × Int × Int × (Option Int))) × (List Int) × (List Int) × Unit × Unit × Unit) × Int × Int × Int × (Option Int) × Int × Unit × Unit × Unit) ((Option Int) × ((List (Int × Int × Int × (Option Int))) × (List Int) × (List Int) × Unit × Unit × Unit))).bind fun e8 => .rt ((some e8.2.2.2.2.2.1), e8.1)))
def Links_link (s : ((List (Int × Int × Int × (Option Int))) × (List Int) × (List Int) × Unit × Unit × Unit)) (z : Int × Int) : ((Option Int) × ((List (Int × Int × Int × (Option Int))) × (List Int) × (List Int) × Unit × Unit × Unit)) := (Links_link_o s z).get (fun _ => default)
def Links_link_pre (s : ((List (Int × Int × Int × (Option Int))) × (List Int) × (List Int) × Unit × Unit × Unit)) (z : Int × Int) : Prop := (True ∧ True ∧ True) ∧ (decide (z.2 ≤ z.1) = true → True) ∧ (decide (z.2 ≤ z.1) = false → (let after1 := (if decide ((0 : Int) ≤ z.1) = true then (geti s.2.1 z.1) else (-(1 : Int))); ((True ∧ True ∧ True) ∧ (decide ((0 : Int) ≤ z.1) = true → (True ∧ True ∧ ((at? s.2.1 z.1).isSome = true))) ∧ (decide ((0 : Int) ≤ z.1) = false → True)) ∧ (let moment2 := (if decide (z.2 < (s.2.1.length : Int)) = true then (some (geti s.2.1 z.2)) else (none : (Option Int))); ((True ∧ (True ∧ True) ∧ True) ∧ (decide (z.2 < (s.2.1.length : Int)) = true → (True ∧ True ∧ ((at? s.2.1 z.2).isSome = true))) ∧ (decide (z.2 < (s.2.1.length : Int)) = false → True)) ∧ (let total3 := (if moment2.isSome = true then (geti s.2.2.1 z.2) else (0 : Int)); ((True ∧ True ∧ True) ∧ (moment2.isSome = true → (True ∧ True ∧ ((at? s.2.2.1 z.2).isSome = true))) ∧ (moment2.isSome = false → True)) ∧ ((True ∧ (forP Links_link_b7 Links_link_b7_p s.1 (s, z.1, z.2, after1, moment2, total3, (), (), ()))) ∧ ∀ e8 : (((List (Int × Int × Int × (Option Int))) × (List Int) × (List Int) × Unit × Unit × Unit) × Int × Int × Int × (Option Int) × Int × Unit × Unit × Unit), ((forL Links_link_b7 s.1 (s, z.1, z.2, after1, moment2, total3, (), (), ())) : Out (((List (Int × Int × Int × (Option Int))) × (List Int) × (List Int) × Unit × Unit × Unit) × Int × Int × Int × (Option Int) × Int × Unit × Unit × Unit) ((Option Int) × ((List (Int × Int × Int × (Option Int))) × (List Int) × (List Int) × Unit × Unit × Unit))) = .nx e8 → True)))))
theorem ends_Links_link (s : ((List (Int × Int × Int × (Option Int))) × (List Int) × (List Int) × Unit × Unit × Unit)) (z : Int × Int) : NN (Links_link_o s z) := by
  unfold Links_link_o
  repeat (first | with_reducible exact nn_rt | with_reducible refine nn_if ?_ ?_ | with_reducible refine nn_bind fun _ => ?_ | with_reducible refine nn_match fun _ => ?_ | dsimp only)
theorem ok_Links_link (fa : Fa K mg a) : FnOk P w0 K mg base CX0 2 a.Links_link a.Links_link_d ["self", "low", "high"] (spM (ob a.Links Links_ns (ec (fr (rList (rTup (tpc rInt (tpc rInt (tpc rInt (tp1 (rOpt rInt)))))))) (ec (fr (rList rInt)) (ec (fr (rList rInt)) (ec un (ec un en)))))) (ob a.Links Links_ns (ec (fr (rList (rTup (tpc rInt (tpc rInt (tpc rInt (tp1 (rOpt rInt)))))))) (ec (fr (rList rInt)) (ec (fr (rList rInt)) (ec un (ec un en)))))) (tpc rInt (tp1 rInt)) (rsF (rOpt rInt)) Links_link_pre Links_link) := by
  have nd := sc_Links_link.nd
  exact fnM2 (R1 := (fun _ => en)) (fo := Links_link_o) (fin := (fun _ => default)) fa.f_Links_link sc_Links_link (fun _ _ _ h => congrArg (· + 1) ((tp_lenc tp_len1) _ _ _ h)) (st0_cons (st0_one (st1_un (st1_un (st1_un (st1_un (st1_un st1_nil))))))) (by decide) (fun v0 cdv A outer s H Ex hr =>
  (ts_ifR (tq_cmp o_le (tx_var (hasS (hasS has0)) (pv 2)) (tx_var (hasS has0) (pv 1))) (ts_retM (tx_none (r := rInt)) has0) (fun _ _ h => by cases h)
  (ts_seq (tl_set (tx_if (tq_cmp o_ge (tx_var (hasS has0) (pv 1)) tx_int) (TX.pu (tx_ixL (tx_at (tl_fld (tl_slot has0p (pv 0)) (hasS has0) (by rfl) fa.c_Links fa.na_Links_spots)) (tx_var (hasS has0) (pv 1))) (by rfl) (by rfl)) (TX.pu (tx_neg tx_int) (by rfl) (by rfl))) (putS (putS (putS put0))) nd (by rfl) (by exact .inl rfl))
  (ts_seq (tl_set (tx_if (tq_cmp o_lt (tx_var (hasS (hasS has0)) (pv 2)) (tx_callB c_lenL (by rfl) fa.n_len PySem.boot_len (ta_one (tx_at (tl_fld (tl_slot has0p (pv 0)) (hasS has0) (by rfl) fa.c_Links fa.na_Links_spots))))) (TX.pu (tx_some (tx_ixL (tx_at (tl_fld (tl_slot has0p (pv 0)) (hasS has0) (by rfl) fa.c_Links fa.na_Links_spots)) (tx_var (hasS (hasS has0)) (pv 2)))) (by rfl) (by rfl)) (TX.pu (tx_none (r := rInt)) (by rfl) (by rfl))) (putS (putS (putS (putS put0)))) nd (by rfl) (by exact .inl rfl))
  (ts_seq (tl_set (tx_if (tq_cmp o_notN (tx_var (hasS (hasS (hasS (hasS has0)))) (pv 4)) tx_non) (TX.pu (tx_ixL (tx_at (tl_fld (tl_slot has0p (pv 0)) (hasS (hasS has0)) (by rfl) fa.c_Links fa.na_Links_tolls)) (tx_var (hasS (hasS has0)) (pv 2))) (by rfl) (by rfl)) (TX.pu tx_int (by rfl) (by rfl))) (putS (putS (putS (putS (putS put0))))) nd (by rfl) (by exact .inl rfl))
  (ts_cons (t1_for (vs := [6]) (ti_list (tx_at (tl_fld (tl_slot has0p (pv 0)) has0 (by rfl) fa.c_Links fa.na_Links_lots))) (tg_name (putS (putS (putS (putS (putS (putS put0)))))) (putS (putS (putS (putS (putS (putS put0)))))) (hasS (hasS (hasS (hasS (hasS (hasS has0)))))) (by decide) nd (by rfl) (by exact .inl rfl)) (ts_one (t1_if (TW.tq (tw_and (tq_cmp o_lt (tx_var (hasS (hasS (hasS has0))) (pv 3)) (tx_ixT (tx_var (hasS (hasS (hasS (hasS (hasS (hasS has0)))))) (pv 6)) (atc (tp_lenc (tp_lenc tp_len1))))) (TW.pu (tw_and1 (TW.tq (tw_or (tq_cmp o_isN (tx_var (hasS (hasS (hasS (hasS has0)))) (pv 4)) tx_non) (TW.pu (tw_or1 (tq_cmp o_le (tx_ixT (tx_var (hasS (hasS (hasS (hasS (hasS (hasS has0)))))) (pv 6)) (atc (tp_lenc (tp_lenc tp_len1)))) (tx_get (d := default) (tx_var (hasS (hasS (hasS (hasS has0)))) (pv 4))))) (by rfl) (by rfl))))) (by rfl) (by rfl)))) (ts_seq (tl_set (tx_if (TW.tq (tw_and (tq_cmp o_notN (tx_var (hasS (hasS (hasS (hasS has0)))) (pv 4)) tx_non) (TW.pu (tw_and1 (tq_cmp o_le (tx_get (d := default) (tx_var (hasS (hasS (hasS (hasS has0)))) (pv 4))) (tx_ixT (tx_var (hasS (hasS (hasS (hasS (hasS (hasS has0)))))) (pv 6)) (atS (atc (tp_lenc tp_len1)))))) (by rfl) (by rfl)))) (TX.pu (tx_var (hasS (hasS (hasS (hasS has0)))) (pv 4)) (by rfl) (by rfl)) (TX.pu (tx_none (r := rInt)) (by rfl) (by rfl))) (putS (putS (putS (putS (putS (putS (putS put0))))))) nd (by rfl) (by exact .inl rfl))
  (ts_ifR (TW.tq (tw_and (tq_cmp o_isN (tx_var (hasS (hasS (hasS (hasS (hasS (hasS (hasS has0))))))) (pv 7)) tx_non) (TW.pu (tw_and1 (tq_cmp o_isN (tx_ixT (tx_var (hasS (hasS (hasS (hasS (hasS (hasS has0)))))) (pv 6)) (atS (atS (atS at1)))) tx_non)) (by rfl) (by rfl)))) (ts_retM (tx_none (r := rInt)) has0) (fun _ _ h => by cases h)
  (ts_seq (tl_aug ip_add (tx_call (ok_cost_for fa) hr (by decide) (by rfl) fa.g_cost_for fa.f_cost_for.kp fa.b_cost_for (ta_cons (tx_var (hasS (hasS (hasS (hasS (hasS (hasS has0)))))) (pv 6)) (ta_one (tx_var (hasS (hasS (hasS (hasS (hasS (hasS (hasS has0))))))) (pv 7))))) (hasS (hasS (hasS (hasS (hasS has0))))) (putS (putS (putS (putS (putS put0))))) nd (by rfl) (by exact .inl rfl))
  (ts_gh (gh_trans (gh_un (hasS (hasS (hasS (hasS (hasS (hasS has0)))))) (putS (putS (putS (putS (putS (putS put0))))))) (gh_un (hasS (hasS (hasS (hasS (hasS (hasS (hasS has0))))))) (putS (putS (putS (putS (putS (putS (putS put0))))))))) ts_nil)))) (ts_gh (gh_un (hasS (hasS (hasS (hasS (hasS (hasS has0)))))) (putS (putS (putS (putS (putS (putS put0))))))) ts_nil))) PassesOwn.never (by rfl))
  (ts_retM (tx_some (tx_var (hasS (hasS (hasS (hasS (hasS has0))))) (pv 5))) has0))))))) (fun _ _ => by kernel_rfl) (fun _ _ => by kernel_rfl) (.inr ends_Links_link)
/-! ### Links.__init__ -/
theorem sc_Links_init : FnScope ["self", "charges", "tariff", "charge", "begins", "begin", "price", "spot", "count", "low", "high"] ["self", "charges", "tariff"] (defScope s_Links_init) := ⟨rfl, rfl, rfl, by decide +kernel, rfl, by decide +kernel, by decide +kernel⟩
def Links_init_c13 (e : (((List (Int × Int × Int × (Option Int))) × (List Int) × (List Int) × Unit × Unit × Unit) × (List (Int × (Int × Int × Int × (Option Int)))) × (List (Int × Int)) × Unit × (List Int) × Unit × Unit × Unit × Int × Int × Unit × Unit)) (x10 : Int) : Option (Option Int) × (((List (Int × Int × Int × (Option Int))) × (List Int) × (List Int) × Unit × Unit × Unit) × (List (Int × (Int × Int × Int × (Option Int)))) × (List (Int × Int)) × Unit × (List Int) × Unit × Unit × Unit × Int × Int × Unit × Unit) := let r12 := Links_link e.1 (e.2.2.2.2.2.2.2.2.2.1, x10); (some r12.1, (r12.2, e.2.1, e.2.2.1, (), e.2.2.2.2.1, (), (), (), e.2.2.2.2.2.2.2.2.1, e.2.2.2.2.2.2.2.2.2.1, (), ()))
def Links_init_c13_p (e : (((List (Int × Int × Int × (Option Int))) × (List Int) × (List Int) × Unit × Unit × Unit) × (List (Int × (Int × Int × Int × (Option Int)))) × (List (Int × Int)) × Unit × (List Int) × Unit × Unit × Unit × Int × Int × Unit × Unit)) (x10 : Int) : Prop := let r12 := Links_link e.1 (e.2.2.2.2.2.2.2.2.2.1, x10); True ∧ ((true : Bool) = true → ((True ∧ True) ∧ (Links_link_pre e.1 (e.2.2.2.2.2.2.2.2.2.1, x10))))
def Links_init_c18 (e : (((List (Int × Int × Int × (Option Int))) × (List Int) × (List Int) × Unit × Unit × Unit) × (List (Int × (Int × Int × Int × (Option Int)))) × (List (Int × Int)) × Unit × (List Int) × Unit × Unit × Unit × Int × Int × Unit × Unit)) (x15 : Int) : Option (Option Int) × (((List (Int × Int × Int × (Option Int))) × (List Int) × (List Int) × Unit × Unit × Unit) × (List (Int × (Int × Int × Int × (Option Int)))) × (List (Int × Int)) × Unit × (List Int) × Unit × Unit × Unit × Int × Int × Unit × Unit) := let r17 := Links_link e.1 (e.2.2.2.2.2.2.2.2.2.1, x15); (some r17.1, (r17.2, e.2.1, e.2.2.1, (), e.2.2.2.2.1, (), (), (), e.2.2.2.2.2.2.2.2.1, e.2.2.2.2.2.2.2.2.2.1, (), ()))
def Links_init_c18_p (e : (((List (Int × Int × Int × (Option Int))) × (List Int) × (List Int) × Unit × Unit × Unit) × (List (Int × (Int × Int × Int × (Option Int)))) × (List (Int × Int)) × Unit × (List Int) × Unit × Unit × Unit × Int × Int × Unit × Unit)) (x15 : Int) : Prop := let r17 := Links_link e.1 (e.2.2.2.2.2.2.2.2.2.1, x15); True ∧ ((true : Bool) = true → ((True ∧ True) ∧ (Links_link_pre e.1 (e.2.2.2.2.2.2.2.2.2.1, x15))))
def Links_init_c20 (e : (((List (Int × Int × Int × (Option Int))) × (List Int) × (List Int) × Unit × Unit × Unit) × (List (Int × (Int × Int × Int × (Option Int)))) × (List (Int × Int)) × Unit × (List Int) × Unit × Unit × Unit × Int × Unit × Unit × Unit)) (x9 : Int) : Option (List (Option Int)) × (((List (Int × Int × Int × (Option Int))) × (List Int) × (List Int) × Unit × Unit × Unit) × (List (Int × (Int × Int × Int × (Option Int)))) × (List (Int × Int)) × Unit × (List Int) × Unit × Unit × Unit × Int × Unit × Unit × Unit) := let r19 := lcG Links_init_c18 (rng 0 ((e.2.2.2.2.2.2.2.2.1 + (1 : Int))).toNat) (e.1, e.2.1, e.2.2.1, (), e.2.2.2.2.1, (), (), (), e.2.2.2.2.2.2.2.2.1, x9, (), ()); (some r19.1, (r19.2.1, r19.2.2.1, r19.2.2.2.1, (), r19.2.2.2.2.2.1, (), (), (), r19.2.2.2.2.2.2.2.2.2.1, (), (), ()))
def Links_init_c20_p (e : (((List (Int × Int × Int × (Option Int))) × (List Int) × (List Int) × Unit × Unit × Unit) × (List (Int × (Int × Int × Int × (Option Int)))) × (List (Int × Int)) × Unit × (List Int) × Unit × Unit × Unit × Int × Unit × Unit × Unit)) (x9 : Int) : Prop := let r19 := lcG Links_init_c18 (rng 0 ((e.2.2.2.2.2.2.2.2.1 + (1 : Int))).toNat) (e.1, e.2.1, e.2.2.1, (), e.2.2.2.2.1, (), (), (), e.2.2.2.2.2.2.2.2.1, x9, (), ()); True ∧ ((true : Bool) = true → (((True ∧ True ∧ True) ∧ (-LIM ≤ (e.2.2.2.2.2.2.2.2.1 + (1 : Int))) ∧ ((e.2.2.2.2.2.2.2.2.1 + (1 : Int)) ≤ LIM)) ∧ (lcP Links_init_c18 Links_init_c18_p (rng 0 ((e.2.2.2.2.2.2.2.2.1 + (1 : Int))).toNat) (e.1, e.2.1, e.2.2.1, (), e.2.2.2.2.1, (), (), (), e.2.2.2.2.2.2.2.2.1, x9, (), ()))))
def Links_init_o (s : (Unit × Unit × Unit × Unit × Unit × Unit)) (z : (List (Int × (Int × Int × Int × (Option Int)))) × (List (Int × Int))) : Out (Links_F × (List (Int × (Int × Int × Int × (Option Int)))) × (List (Int × Int)) × Unit × (List Int) × Unit × Unit × Unit × Int × Unit × Unit × Unit) (Unit × Links_F) := let self1 := (((z.1.map fun (x : Int × (Int × Int × Int × (Option Int))) => x.2), s.2.1, s.2.2.1, s.2.2.2.1, s.2.2.2.2.1, s.2.2.2.2.2) : ((List (Int × Int × Int × (Option Int))) × Unit × Unit × Unit × Unit × Unit)); let begins3 := (self1.1.map fun (x2 : (Int × Int × Int × (Option Int))) => x2.1); let self5 := ((self1.1, (uniq (begins3 ++ ((z.2.map fun (x4 : (Int × Int)) => x4.1) ++ []))), self1.2.2.1, self1.2.2.2.1, self1.2.2.2.2.1, self1.2.2.2.2.2) : ((List (Int × Int × Int × (Option Int))) × (List Int) × Unit × Unit × Unit × Unit)); let self7 := ((self5.1, self5.2.1, (self5.2.1.map fun (x6 : Int) => (price_at (z.2, x6))), self5.2.2.2.1, self5.2.2.2.2.1, self5.2.2.2.2.2) : ((List (Int × Int × Int × (Option Int))) × (List Int) × (List Int) × Unit × Unit × Unit)); let count8 := (self7.2.1.length : Int); let r21 := lcG Links_init_c20 (rng (-(1 : Int)) (count8 - (-(1 : Int))).toNat) (self7, z.1, z.2, (), begins3, (), (), (), count8, (), (), ()); let self22 := ((r21.2.1.1, r21.2.1.2.1, r21.2.1.2.2.1, r21.1, r21.2.1.2.2.2.2.1, r21.2.1.2.2.2.2.2) : ((List (Int × Int × Int × (Option Int))) × (List Int) × (List Int) × (List (List (Option Int))) × Unit × Unit)); let self23 := ((self22.1, self22.2.1, self22.2.2.1, self22.2.2.2.1, ([] : (List (Int × (List (Option Int))))), self22.2.2.2.2.2) : ((List (Int × Int × Int × (Option Int))) × (List Int) × (List Int) × (List (List (Option Int))) × (List (Int × (List (Option Int)))) × Unit)); .nx (self23, r21.2.2.1, r21.2.2.2.1, (), r21.2.2.2.2.2.1, (), (), (), r21.2.2.2.2.2.2.2.2.2.1, (), (), ())
def Links_init (s : (Unit × Unit × Unit × Unit × Unit × Unit)) (z : (List (Int × (Int × Int × Int × (Option Int)))) × (List (Int × Int))) : (Unit × Links_F) := (Links_init_o s z).get (fun e => ((), e.1))
def Links_init_pre (s : (Unit × Unit × Unit × Unit × Unit × Unit)) (z : (List (Int × (Int × Int × Int × (Option Int)))) × (List (Int × Int))) : Prop := let self1 := (((z.1.map fun (x : Int × (Int × Int × Int × (Option Int))) => x.2), s.2.1, s.2.2.1, s.2.2.2.1, s.2.2.2.2.1, s.2.2.2.2.2) : ((List (Int × Int × Int × (Option Int))) × Unit × Unit × Unit × Unit × Unit)); True ∧ (let begins3 := (self1.1.map fun (x2 : (Int × Int × Int × (Option Int))) => x2.1); (True ∧ (∀ x2 ∈ self1.1, True)) ∧ (let self5 := ((self1.1, (uniq (begins3 ++ ((z.2.map fun (x4 : (Int × Int)) => x4.1) ++ []))), self1.2.2.1, self1.2.2.2.1, self1.2.2.2.2.1, self1.2.2.2.2.2) : ((List (Int × Int × Int × (Option Int))) × (List Int) × Unit × Unit × Unit × Unit)); (((True ∧ ((True ∧ (∀ x4 ∈ z.2, True)) ∧ True)) ∧ ((begins3 ++ ((z.2.map fun (x4 : (Int × Int)) => x4.1) ++ [])).length ≤ LIM)) ∧ ((begins3 ++ ((z.2.map fun (x4 : (Int × Int)) => x4.1) ++ [])).length < 64)) ∧ (let self7 := ((self5.1, self5.2.1, (self5.2.1.map fun (x6 : Int) => (price_at (z.2, x6))), self5.2.2.2.1, self5.2.2.2.2.1, self5.2.2.2.2.2) : ((List (Int × Int × Int × (Option Int))) × (List Int) × (List Int) × Unit × Unit × Unit)); (True ∧ (∀ x6 ∈ self5.2.1, (True ∧ True) ∧ (price_at_pre (z.2, x6)))) ∧ (let count8 := (self7.2.1.length : Int); (True ∧ True) ∧ (let r21 := lcG Links_init_c20 (rng (-(1 : Int)) (count8 - (-(1 : Int))).toNat) (self7, z.1, z.2, (), begins3, (), (), (), count8, (), (), ()); let self22 := ((r21.2.1.1, r21.2.1.2.1, r21.2.1.2.2.1, r21.1, r21.2.1.2.2.2.2.1, r21.2.1.2.2.2.2.2) : ((List (Int × Int × Int × (Option Int))) × (List Int) × (List Int) × (List (List (Option Int))) × Unit × Unit)); (((True ∧ True) ∧ (-(2 ^ 62) ≤ (-(1 : Int)) ∧ (-(1 : Int)) < 2 ^ 62 ∧ -(2 ^ 62) ≤ count8 ∧ count8 < 2 ^ 62) ∧ (count8 - (-(1 : Int)) ≤ LIM)) ∧ (lcP Links_init_c20 Links_init_c20_p (rng (-(1 : Int)) (count8 - (-(1 : Int))).toNat) (self7, z.1, z.2, (), begins3, (), (), (), count8, (), (), ()))) ∧ (let self23 := ((self22.1, self22.2.1, self22.2.2.1, self22.2.2.2.1, ([] : (List (Int × (List (Option Int))))), self22.2.2.2.2.2) : ((List (Int × Int × Int × (Option Int))) × (List Int) × (List Int) × (List (List (Option Int))) × (List (Int × (List (Option Int)))) × Unit)); True ∧ True))))))
theorem ok_Links_init (fa : Fa K mg a) : FnOk P w0 K mg base CX0 3 a.Links_init a.Links_init_d ["self", "charges", "tariff"] (spM (ob a.Links Links_ns (ec un (ec un (ec un (ec un (ec un en)))))) (Links_S a) (tpc (rDict kInt (rTup (tpc rInt (tpc rInt (tpc rInt (tp1 (rOpt rInt))))))) (tp1 (rList (rTup (tpc rInt (tp1 rInt)))))) rsN Links_init_pre Links_init) := by
  have nd := sc_Links_init.nd
  exact fnM2 (R1 := (fun v0 => (ec (pin v0 (Links_S a)) (ec (fr (rDict kInt (rTup (tpc rInt (tpc rInt (tpc rInt (tp1 (rOpt rInt)))))))) (ec (fr (rList (rTup (tpc rInt (tp1 rInt))))) (ec un (ec (fr (rList rInt)) (ec un (ec un (ec un (ec (fr rInt) (ec un (ec un en))))))))))))) (fo := Links_init_o) (fin := (fun e => ((), e.1))) fa.f_Links_init sc_Links_init (fun _ _ _ h => congrArg (· + 1) ((tp_lenc tp_len1) _ _ _ h)) (st0_cons (st0_one (st1_un (st1_un (st1_un (st1_un (st1_un (st1_un (st1_un (st1_un st1_nil)))))))))) (by decide) (fun v0 cdv A outer s H Ex hr =>
  (ts_seq (tl_fldset (ty_fr (tx_newL (tn_listVals (by rfl) (tx_var (hasS has0) (pv 1)) (by rfl) fa.n_list))) has0p chg0p put0 (by decide +kernel) (by decide) (by rfl) fa.c_Links fa.na_Links_lots (pv 0))
  (ts_seq (tl_setLcF (lcM (own := [("charge", 3)]) (ti_list (tx_at (tl_fld (tl_slot has0p (pv 0)) has0 (by rfl) fa.c_Links fa.na_Links_lots))) (m := [false, false, false, true, false, false, false, false, false, false, false]) (ins_keep (ins_keep (ins_keep (ins_un (ins_keep (ins_keep (ins_keep (ins_keep (ins_keep (ins_keep (ins_keep ins_nil))))))))))) (by decide) (fun _ _ _ _ _ => (tg_name (putS (putS (putS put0))) (putS (putS (putS put0))) (hasS (hasS (hasS has0))) (by decide) nd (by rfl) (by first | exact .inl rfl | exact .inr rfl))) (by intros; rfl) (fun _ _ _ _ _ => (TX.pu (tx_ixT (tx_var (hasS (hasS (hasS has0))) (pv 3)) (atc (tp_lenc (tp_lenc tp_len1)))) (by rfl) (by rfl)))) (putS (putS (putS (putS put0)))) (by rfl) nd (by rfl) (by rfl) (by rfl) (by rfl) (by rfl) (by kernel_rfl))
  (ts_seq (tl_fldset (ty_fr (tx_newL (tn_sortSet (by rfl) (ta_one (tx_newL (tn_listS (tls_star (tx_var (hasS (hasS (hasS (hasS has0)))) (pv 4)) (tls_star (tx_newL (tn_lc (lcM (own := [("begin", 5), ("price", 6)]) (ti_list (tx_var (hasS (hasS has0)) (pv 2))) (m := [false, false, false, false, false, true, true, false, false, false, false]) (ins_keep (ins_keep (ins_keep (ins_keep (ins_keep (ins_un (ins_un (ins_keep (ins_keep (ins_keep (ins_keep ins_nil))))))))))) (by decide) (fun _ _ _ _ _ => (tg_tup (tgs_cons (tg_name (putS (putS (putS (putS (putS put0))))) (putS (putS (putS (putS (putS put0))))) (hasS (hasS (hasS (hasS (hasS has0))))) (by decide) nd (by rfl) (by first | exact .inl rfl | exact .inr rfl)) (tgs_one (tg_name (putS (putS (putS (putS (putS (putS put0)))))) (putS (putS (putS (putS (putS (putS put0)))))) (hasS (hasS (hasS (hasS (hasS (hasS has0)))))) (by decide) nd (by rfl) (by first | exact .inl rfl | exact .inr rfl)))) (by rfl) (tp_lenc tp_len1))) (by intros; rfl) (fun _ _ _ _ _ => (TX.pu (tx_var (hasS (hasS (hasS (hasS (hasS has0))))) (pv 5)) (by rfl) (by rfl)))) (by rfl) nd (by kernel_rfl))) tls_nil))))) (by rfl) fa.n_sorted (by rfl) fa.n_set))) has0p chg0p (putS put0) (by decide +kernel) (by decide) (by rfl) fa.c_Links fa.na_Links_spots (pv 0))
  (ts_seq (tl_fldset (ty_fr (tx_newL (tn_lc (lcM (own := [("spot", 7)]) (ti_list (tx_at (tl_fld (tl_slot has0p (pv 0)) (hasS has0) (by rfl) fa.c_Links fa.na_Links_spots))) (m := [false, false, false, false, false, false, false, true, false, false, false]) (ins_keep (ins_keep (ins_keep (ins_keep (ins_keep (ins_keep (ins_keep (ins_un (ins_keep (ins_keep (ins_keep ins_nil))))))))))) (by decide) (fun _ _ _ _ _ => (tg_name (putS (putS (putS (putS (putS (putS (putS put0))))))) (putS (putS (putS (putS (putS (putS (putS put0))))))) (hasS (hasS (hasS (hasS (hasS (hasS (hasS has0))))))) (by decide) nd (by rfl) (by first | exact .inl rfl | exact .inr rfl))) (by intros; rfl) (fun _ _ _ _ _ => (TX.pu (tx_call (ok_price_at fa) hr (by decide) (by rfl) fa.g_price_at fa.f_price_at.kp fa.b_price_at (ta_cons (tx_var (hasS (hasS has0)) (pv 2)) (ta_one (tx_var (hasS (hasS (hasS (hasS (hasS (hasS (hasS has0))))))) (pv 7))))) (by rfl) (by rfl)))) (by rfl) nd (by kernel_rfl)))) has0p chg0p (putS (putS put0)) (by decide +kernel) (by decide) (by rfl) fa.c_Links fa.na_Links_tolls (pv 0))
  (ts_seq (tl_set (tx_callB c_lenL (by rfl) fa.n_len PySem.boot_len (ta_one (tx_at (tl_fld (tl_slot has0p (pv 0)) (hasS has0) (by rfl) fa.c_Links fa.na_Links_spots)))) (putS (putS (putS (putS (putS (putS (putS (putS put0)))))))) nd (by rfl) (by exact .inr rfl))
  (ts_seq (tl_fldset (ty_fr (tx_newL (tn_lc (lcE (own := [("low", 9)]) (ti_range2 (ta_cons (tx_neg tx_int) (ta_one (tx_var (hasS (hasS (hasS (hasS (hasS (hasS (hasS (hasS has0)))))))) (pv 8)))) (by rfl) fa.n_range) rfl (m := [false, false, false, false, false, false, false, false, false, true, false]) (ins_keep (ins_keep (ins_keep (ins_keep (ins_keep (ins_keep (ins_keep (ins_keep (ins_keep (ins_un (ins_keep ins_nil))))))))))) (by decide) (fun _ _ _ _ _ => (tg_name (putS (putS (putS (putS (putS (putS (putS (putS (putS put0))))))))) (putS (putS (putS (putS (putS (putS (putS (putS (putS put0))))))))) (hasS (hasS (hasS (hasS (hasS (hasS (hasS (hasS (hasS has0))))))))) (by decide) nd (by rfl) (by first | exact .inl rfl | exact .inr rfl))) (fun _ _ _ _ _ => tps_nil) (fun _ _ _ _ _ => (tx_newL (tn_lc (lcE (own := [("high", 10)]) (ti_range1 (ta_one (tx_op o_add (tx_var (hasS (hasS (hasS (hasS (hasS (hasS (hasS (hasS has0)))))))) (pv 8)) tx_int)) (by rfl) fa.n_range) rfl (m := [false, false, false, false, false, false, false, false, false, false, true]) (ins_keep (ins_keep (ins_keep (ins_keep (ins_keep (ins_keep (ins_keep (ins_keep (ins_keep (ins_keep (ins_un ins_nil))))))))))) (by decide) (fun _ _ _ _ _ => (tg_name (putS (putS (putS (putS (putS (putS (putS (putS (putS (putS put0)))))))))) (putS (putS (putS (putS (putS (putS (putS (putS (putS (putS put0)))))))))) (hasS (hasS (hasS (hasS (hasS (hasS (hasS (hasS (hasS (hasS has0)))))))))) (by decide) nd (by rfl) (by first | exact .inl rfl | exact .inr rfl))) (fun _ _ _ _ _ => tps_nil) (fun _ _ _ _ _ => (tx_meth (tl_slot has0p (pv 0)) (ok_Links_link fa) hr (by decide) fa.c_Links fa.me_Links_link (by decide +kernel) fa.b_Links_link (ta_cons (tx_var (hasS (hasS (hasS (hasS (hasS (hasS (hasS (hasS (hasS has0))))))))) (pv 9)) (ta_one (tx_var (hasS (hasS (hasS (hasS (hasS (hasS (hasS (hasS (hasS (hasS has0)))))))))) (pv 10)))) (.inl rfl)))) (by rfl) nd (by kernel_rfl))))) (by rfl) nd (by kernel_rfl)))) has0p chg0p (putS (putS (putS put0))) (by decide +kernel) (by decide) (by rfl) fa.c_Links fa.na_Links_costs (pv 0))
  (ts_seq (tl_fldset (ty_newD (tm_nil (kk := kInt) (s := (rList (rOpt rInt))))) has0p chg0p (putS (putS (putS (putS put0)))) (by decide +kernel) (by decide) (by rfl) fa.c_Links fa.na_Links_known (pv 0))
  ts_nil)))))))) (fun _ _ => by kernel_rfl) (fun _ _ => by kernel_rfl) (.inl fun v0 => fin_none has0)
/-! ### Links.can_go -/
theorem sc_Links_can_go : FnScope ["self", "costs", "behind", "high"] ["self", "costs", "behind", "high"] (defScope s_Links_can_go) := ⟨rfl, rfl, rfl, by decide +kernel, rfl, by decide +kernel, by decide +kernel⟩
def Links_can_go_o (z : Unit × (List (Option Int)) × (List (Option Int)) × Int) : Out Unit Bool := .rt ((geti z.2.1 z.2.2.2).isSome && (geti z.2.2.1 (z.2.2.2 + (1 : Int))).isSome)
def Links_can_go (z : Unit × (List (Option Int)) × (List (Option Int)) × Int) : Bool := (Links_can_go_o z).get (fun _ => default)
def Links_can_go_pre (z : Unit × (List (Option Int)) × (List (Option Int)) × Int) : Prop := ((True ∧ True ∧ ((at? z.2.1 z.2.2.2).isSome = true)) ∧ True ∧ True) ∧ ((geti z.2.1 z.2.2.2).isSome = true → ((True ∧ (True ∧ True ∧ True) ∧ ((at? z.2.2.1 (z.2.2.2 + (1 : Int))).isSome = true)) ∧ True ∧ True))
theorem ends_Links_can_go (z : Unit × (List (Option Int)) × (List (Option Int)) × Int) : NN (Links_can_go_o z) := by
  unfold Links_can_go_o
  repeat (first | with_reducible exact nn_rt | with_reducible refine nn_if ?_ ?_ | with_reducible refine nn_bind fun _ => ?_ | with_reducible refine nn_match fun _ => ?_ | dsimp only)
theorem ok_Links_can_go (fa : Fa K mg a) : FnOk P w0 K mg base CX0 1 a.Links_can_go a.Links_can_go_d ["self", "costs", "behind", "high"] (spP (tpc rAny (tpc (rList (rOpt rInt)) (tpc (rList (rOpt rInt)) (tp1 rInt)))) (rsF rBool) Links_can_go_pre Links_can_go) := by
  have nd := sc_Links_can_go.nd
  exact fnP2 (R1 := en) (fo := Links_can_go_o) (fin := (fun _ => default)) fa.f_Links_can_go sc_Links_can_go (tp_lenc (tp_lenc (tp_lenc tp_len1))) (st0_cons (st0_cons (st0_cons (st0_one st1_nil)))) (fun cdv A outer s H Ex hr =>
  (ts_ret (tx_and (tx_cmp o_notN (tx_ixL (tx_var (hasS has0) (pv 1)) (tx_var (hasS (hasS (hasS has0))) (pv 3))) tx_non) (TX.pu (tx_one (tx_cmp o_notN (tx_ixL (tx_var (hasS (hasS has0)) (pv 2)) (tx_op o_add (tx_var (hasS (hasS (hasS has0))) (pv 3)) tx_int)) tx_non)) (by rfl) (by rfl))))) (fun _ => by kernel_rfl) (fun _ => by kernel_rfl) (.inr ends_Links_can_go)
/-! ### Links.least_from -/
theorem sc_Links_least_from : FnScope ["self", "place", "behind", "costs", "high", "fit"] ["self", "place", "behind"] (defScope s_Links_least_from) := ⟨rfl, rfl, rfl, by decide +kernel, rfl, by decide +kernel, by decide +kernel⟩
def Links_least_from_o (s : Links_F) (z : Int × (List (Option Int))) : Out Unit ((Option Int) × Links_F) := let costs1 := (geti s.2.2.2.1 z.1); let fit3 := (((rng z.1 ((s.2.1.length : Int) - z.1).toNat).filter fun (x2 : Int) => (Links_can_go ((), costs1, z.2, x2))).map fun (x2 : Int) => x2); .rt ((lminO (fit3.map fun (x4 : Int) => (((geti costs1 x4).getD default) + ((geti z.2 (x4 + (1 : Int))).getD default)))), s)
def Links_least_from (s : Links_F) (z : Int × (List (Option Int))) : ((Option Int) × Links_F) := (Links_least_from_o s z).get (fun _ => default)
def Links_least_from_pre (s : Links_F) (z : Int × (List (Option Int))) : Prop := let costs1 := (geti s.2.2.2.1 z.1); (True ∧ True ∧ ((at? s.2.2.2.1 z.1).isSome = true)) ∧ (let fit3 := (((rng z.1 ((s.2.1.length : Int) - z.1).toNat).filter fun (x2 : Int) => (Links_can_go ((), costs1, z.2, x2))).map fun (x2 : Int) => x2); (((True ∧ (True ∧ True)) ∧ (-(2 ^ 62) ≤ z.1 ∧ z.1 < 2 ^ 62 ∧ -(2 ^ 62) ≤ (s.2.1.length : Int) ∧ (s.2.1.length : Int) < 2 ^ 62) ∧ ((s.2.1.length : Int) - z.1 ≤ LIM)) ∧ (∀ x2 ∈ (rng z.1 ((s.2.1.length : Int) - z.1).toNat), ((True ∧ (True ∧ True)) ∧ (Links_can_go_pre ((), costs1, z.2, x2))) ∧ ((Links_can_go ((), costs1, z.2, x2)) = true → True))) ∧ (True ∧ (∀ x4 ∈ fit3, ((True ∧ True ∧ ((at? costs1 x4).isSome = true)) ∧ ((geti costs1 x4).isSome = true)) ∧ ((True ∧ (True ∧ True ∧ True) ∧ ((at? z.2 (x4 + (1 : Int))).isSome = true)) ∧ ((geti z.2 (x4 + (1 : Int))).isSome = true)) ∧ True)))
theorem ends_Links_least_from (s : Links_F) (z : Int × (List (Option Int))) : NN (Links_least_from_o s z) := by
  unfold Links_least_from_o
  repeat (first | with_reducible exact nn_rt | with_reducible refine nn_if ?_ ?_ | with_reducible refine nn_bind fun _ => ?_ | with_reducible refine nn_match fun _ => ?_ | dsimp only)
theorem ok_Links_least_from (fa : Fa K mg a) : FnOk P w0 K mg base CX0 2 a.Links_least_from a.Links_least_from_d ["self", "place", "behind"] (spM (Links_S a) (Links_S a) (tpc rInt (tp1 (rList (rOpt rInt)))) (rsF (rOpt rInt)) Links_least_from_pre Links_least_from) := by
  have nd := sc_Links_least_from.nd
  exact fnM2 (R1 := (fun _ => en)) (fo := Links_least_from_o) (fin := (fun _ => default)) fa.f_Links_least_from sc_Links_least_from (fun _ _ _ h => congrArg (· + 1) ((tp_lenc tp_len1) _ _ _ h)) (st0_cons (st0_one (st1_un (st1_un (st1_un st1_nil))))) (by decide) (fun v0 cdv A outer s H Ex hr =>
  (ts_seq (tl_set (tx_ixL (tx_at (tl_fld (tl_slot has0p (pv 0)) (hasS (hasS (hasS has0))) (by rfl) fa.c_Links fa.na_Links_costs)) (tx_var (hasS has0) (pv 1))) (putS (putS (putS put0))) nd (by rfl) (by exact .inr rfl))
  (ts_seq (tl_setLcF (lcF (own := [("high", 4)]) (ti_range2 (ta_cons (tx_var (hasS has0) (pv 1)) (ta_one (tx_callB c_lenL (by rfl) fa.n_len PySem.boot_len (ta_one (tx_at (tl_fld (tl_slot has0p (pv 0)) (hasS has0) (by rfl) fa.c_Links fa.na_Links_spots)))))) (by rfl) fa.n_range) (m := [false, false, false, false, true, false]) (ins_keep (ins_keep (ins_keep (ins_keep (ins_un (ins_keep ins_nil)))))) (by decide) (fun _ _ _ _ _ => (tg_name (putS (putS (putS (putS put0)))) (putS (putS (putS (putS put0)))) (hasS (hasS (hasS (hasS has0)))) (by decide) nd (by rfl) (by first | exact .inl rfl | exact .inr rfl))) (by intros; rfl) (fun _ _ _ _ _ => (tps_one (TQ.pu (tq_val (tx_methA (tl_slot has0p (pv 0)) (ok_Links_can_go fa) hr (by decide) fa.c_Links fa.me_Links_can_go (by decide +kernel) fa.b_Links_can_go (ta_cons (tx_var (hasS (hasS (hasS has0))) (pv 3)) (ta_cons (tx_var (hasS (hasS has0)) (pv 2)) (ta_one (tx_var (hasS (hasS (hasS (hasS has0)))) (pv 4))))))) (by rfl) (by rfl)))) (fun _ _ _ _ _ => (TX.pu (tx_var (hasS (hasS (hasS (hasS has0)))) (pv 4)) (by rfl) (by rfl)))) (putS (putS (putS (putS (putS put0))))) (by rfl) nd (by rfl) (by rfl) (by rfl) (by rfl) (by rfl) (by kernel_rfl))
  (ts_retM (tx_minN (by rfl) (hu_of hr) (ta_one (tx_newL (tn_lc (lcM (own := [("high", 4)]) (ti_list (tx_var (hasS (hasS (hasS (hasS (hasS has0))))) (pv 5))) (m := [false, false, false, false, true, false]) (ins_keep (ins_keep (ins_keep (ins_keep (ins_un (ins_keep ins_nil)))))) (by decide) (fun _ _ _ _ _ => (tg_name (putS (putS (putS (putS put0)))) (putS (putS (putS (putS put0)))) (hasS (hasS (hasS (hasS has0)))) (by decide) nd (by rfl) (by first | exact .inl rfl | exact .inr rfl))) (by intros; rfl) (fun _ _ _ _ _ => (TX.pu (tx_op o_add (tx_get (d := default) (tx_ixL (tx_var (hasS (hasS (hasS has0))) (pv 3)) (tx_var (hasS (hasS (hasS (hasS has0)))) (pv 4)))) (tx_get (d := default) (tx_ixL (tx_var (hasS (hasS has0)) (pv 2)) (tx_op o_add (tx_var (hasS (hasS (hasS (hasS has0)))) (pv 4)) tx_int)))) (by rfl) (by rfl)))) (by rfl) nd (by kernel_rfl)))) (by rfl) fa.n_min) has0)))) (fun _ _ => by kernel_rfl) (fun _ _ => by kernel_rfl) (.inr ends_Links_least_from)
/-! ### Links.row -/
theorem sc_Links_row : FnScope ["self", "count", "size", "place", "found", "behind"] ["self", "count"] (defScope s_Links_row) := ⟨rfl, rfl, rfl, by decide +kernel, rfl, by decide +kernel, by decide +kernel⟩
def Links_row_c8 (e : (Links_F × Int × Int × Unit × Unit × (List (Option Int)) × Unit)) (x5 : Int) : Option (Option Int) × (Links_F × Int × Int × Unit × Unit × (List (Option Int)) × Unit) := let r7 := Links_least_from e.1 (x5, e.2.2.2.2.2.1); (some r7.1, (r7.2, e.2.1, e.2.2.1, (), (), e.2.2.2.2.2.1, ()))
def Links_row_c8_p (e : (Links_F × Int × Int × Unit × Unit × (List (Option Int)) × Unit)) (x5 : Int) : Prop := let r7 := Links_least_from e.1 (x5, e.2.2.2.2.2.1); True ∧ ((true : Bool) = true → ((True ∧ True) ∧ (Links_least_from_pre e.1 (x5, e.2.2.2.2.2.1))))
def Links_row_f : Nat → (Links_F) → (Int) → ((List (Option Int)) × Links_F)
  | 0, _, _ => default
  | n + 1, s, z => Out.get (E := Unit) ((((if (!(dget s.2.2.2.2.1 z).isSome) = true then (let size1 := (s.2.1.length : Int); (((if decide (z = (0 : Int)) = true then (let found3 := ((rng 0 ((size1 + (1 : Int))).toNat).map fun (x2 : Int) => (geti (geti s.2.2.2.1 x2) size1)); .nx (s, z, size1, (), found3, (), ())) else (let r4 := Links_row_f n s (z - (1 : Int)); let r9 := lcG Links_row_c8 (rng 0 ((size1 + (1 : Int))).toNat) (r4.2, z, size1, (), (), r4.1, ()); .nx (r9.2.1, r9.2.2.1, r9.2.2.2.1, (), r9.1, (), ()))) : Out (Links_F × Int × Int × Unit × (List (Option Int)) × Unit × Unit) ((List (Option Int)) × Links_F)).bind fun e10 => let d11 := dput e10.1.2.2.2.2.1 e10.2.1 e10.2.2.2.2.1; .nx ((e10.1.1, e10.1.2.1, e10.1.2.2.1, e10.1.2.2.2.1, d11, e10.1.2.2.2.2.2), e10.2.1, (), (), (), (), ()))) else (.nx (s, z, (), (), (), (), ()))) : Out (Links_F × Int × Unit × Unit × Unit × Unit × Unit) ((List (Option Int)) × Links_F)).bind fun e13 => .rt (((dget e13.1.2.2.2.2.1 e13.2.1).getD default), e13.1))) (fun _ => default)
def Links_row_f_pre : Nat → (Links_F) → (Int) → Prop
  | 0, _, _ => False
  | n + 1, s, z => ((True ∧ True) ∧ ((!(dget s.2.2.2.2.1 z).isSome) = true → (let size1 := (s.2.1.length : Int); (True ∧ True) ∧ (((True ∧ True ∧ True) ∧ (decide (z = (0 : Int)) = true → (let found3 := ((rng 0 ((size1 + (1 : Int))).toNat).map fun (x2 : Int) => (geti (geti s.2.2.2.1 x2) size1)); (((True ∧ True ∧ True) ∧ (-LIM ≤ (size1 + (1 : Int))) ∧ ((size1 + (1 : Int)) ≤ LIM)) ∧ (∀ x2 ∈ (rng 0 ((size1 + (1 : Int))).toNat), (True ∧ True ∧ ((at? s.2.2.2.1 x2).isSome = true)) ∧ True ∧ ((at? (geti s.2.2.2.1 x2) size1).isSome = true))) ∧ True)) ∧ (decide (z = (0 : Int)) = false → (let r4 := Links_row_f n s (z - (1 : Int)); ((True ∧ True ∧ True) ∧ (Links_row_f_pre n s (z - (1 : Int)))) ∧ (let r9 := lcG Links_row_c8 (rng 0 ((size1 + (1 : Int))).toNat) (r4.2, z, size1, (), (), r4.1, ()); (((True ∧ True ∧ True) ∧ (-LIM ≤ (size1 + (1 : Int))) ∧ ((size1 + (1 : Int)) ≤ LIM)) ∧ (lcP Links_row_c8 Links_row_c8_p (rng 0 ((size1 + (1 : Int))).toNat) (r4.2, z, size1, (), (), r4.1, ()))) ∧ True)))) ∧ ∀ e10 : (Links_F × Int × Int × Unit × (List (Option Int)) × Unit × Unit), ((if decide (z = (0 : Int)) = true then (let found3 := ((rng 0 ((size1 + (1 : Int))).toNat).map fun (x2 : Int) => (geti (geti s.2.2.2.1 x2) size1)); .nx (s, z, size1, (), found3, (), ())) else (let r4 := Links_row_f n s (z - (1 : Int)); let r9 := lcG Links_row_c8 (rng 0 ((size1 + (1 : Int))).toNat) (r4.2, z, size1, (), (), r4.1, ()); .nx (r9.2.1, r9.2.2.1, r9.2.2.2.1, (), r9.1, (), ()))) : Out (Links_F × Int × Int × Unit × (List (Option Int)) × Unit × Unit) ((List (Option Int)) × Links_F)) = .nx e10 → (let d11 := dput e10.1.2.2.2.2.1 e10.2.1 e10.2.2.2.2.1; (True ∧ True ∧ (e10.1.2.2.2.2.1.length < LIM)) ∧ True)))) ∧ ((!(dget s.2.2.2.2.1 z).isSome) = false → True)) ∧ ∀ e13 : (Links_F × Int × Unit × Unit × Unit × Unit × Unit), ((if (!(dget s.2.2.2.2.1 z).isSome) = true then (let size1 := (s.2.1.length : Int); (((if decide (z = (0 : Int)) = true then (let found3 := ((rng 0 ((size1 + (1 : Int))).toNat).map fun (x2 : Int) => (geti (geti s.2.2.2.1 x2) size1)); .nx (s, z, size1, (), found3, (), ())) else (let r4 := Links_row_f n s (z - (1 : Int)); let r9 := lcG Links_row_c8 (rng 0 ((size1 + (1 : Int))).toNat) (r4.2, z, size1, (), (), r4.1, ()); .nx (r9.2.1, r9.2.2.1, r9.2.2.2.1, (), r9.1, (), ()))) : Out (Links_F × Int × Int × Unit × (List (Option Int)) × Unit × Unit) ((List (Option Int)) × Links_F)).bind fun e10 => let d11 := dput e10.1.2.2.2.2.1 e10.2.1 e10.2.2.2.2.1; .nx ((e10.1.1, e10.1.2.1, e10.1.2.2.1, e10.1.2.2.2.1, d11, e10.1.2.2.2.2.2), e10.2.1, (), (), (), (), ()))) else (.nx (s, z, (), (), (), (), ()))) : Out (Links_F × Int × Unit × Unit × Unit × Unit × Unit) ((List (Option Int)) × Links_F)) = .nx e13 → (True ∧ ((dget e13.1.2.2.2.2.1 e13.2.1).isSome = true))
theorem ok_Links_row (fa : Fa K mg a) (n : Nat) : FnOk P w0 K mg base CX0 (2 + 1 + n) a.Links_row a.Links_row_d ["self", "count"] (spM (Links_S a) (Links_S a) (tp1 rInt) (rsF (rList (rOpt rInt))) (Links_row_f_pre n) (Links_row_f n)) := by
  have nd := sc_Links_row.nd
  exact (match n with
  | 0 => fn_false
  | n + 1 => fnM (R1 := (fun _ => en)) (fin := (fun _ => default)) fa.f_Links_row sc_Links_row (fun _ _ _ h => congrArg (· + 1) (tp_len1 _ _ _ h)) (st0_one (st1_un (st1_un (st1_un (st1_un st1_nil))))) (by decide) (fun v0 cdv A outer s H Ex hr =>
  (ts_cons (t1_if (tq_dnin kk_int (hu_of hr) (tx_var (hasS has0) (pv 1)) (tx_atD (tl_fld (tl_slot has0p (pv 0)) (hasS (hasS (hasS (hasS has0)))) (by rfl) fa.c_Links fa.na_Links_known))) (ts_seq (tl_set (tx_callB c_lenL (by rfl) fa.n_len PySem.boot_len (ta_one (tx_at (tl_fld (tl_slot has0p (pv 0)) (hasS has0) (by rfl) fa.c_Links fa.na_Links_spots)))) (putS (putS put0)) nd (by rfl) (by exact .inr rfl))
  (ts_cons (t1_if (tq_cmp o_eq (tx_var (hasS has0) (pv 1)) tx_int) (ts_seq (tl_setLcF (lcM (own := [("place", 3)]) (ti_range1 (ta_one (tx_op o_add (tx_var (hasS (hasS has0)) (pv 2)) tx_int)) (by rfl) fa.n_range) (m := [false, false, false, true, false, false]) (ins_keep (ins_keep (ins_keep (ins_un (ins_keep (ins_keep ins_nil)))))) (by decide) (fun _ _ _ _ _ => (tg_name (putS (putS (putS put0))) (putS (putS (putS put0))) (hasS (hasS (hasS has0))) (by decide) nd (by rfl) (by first | exact .inl rfl | exact .inr rfl))) (by intros; rfl) (fun _ _ _ _ _ => (TX.pu (tx_ixL (tx_ixL (tx_at (tl_fld (tl_slot has0p (pv 0)) (hasS (hasS (hasS has0))) (by rfl) fa.c_Links fa.na_Links_costs)) (tx_var (hasS (hasS (hasS has0))) (pv 3))) (tx_var (hasS (hasS has0)) (pv 2))) (by rfl) (by rfl)))) (putS (putS (putS (putS put0)))) (by rfl) nd (by rfl) (by rfl) (by rfl) (by rfl) (by rfl) (by kernel_rfl))
  ts_nil) (ts_seq (tl_set (tx_meth (tl_slot has0p (pv 0)) (ok_Links_row fa n) hr (Nat.le_refl _) fa.c_Links fa.me_Links_row (by decide +kernel) fa.b_Links_row (ta_one (tx_op o_sub (tx_var (hasS has0) (pv 1)) tx_int)) (.inl rfl)) (putS (putS (putS (putS (putS put0))))) nd (by rfl) (by exact .inr rfl))
  (ts_seq (tl_setLcF (lcE (own := [("place", 3)]) (ti_range1 (ta_one (tx_op o_add (tx_var (hasS (hasS has0)) (pv 2)) tx_int)) (by rfl) fa.n_range) rfl (m := [false, false, false, true, false, false]) (ins_keep (ins_keep (ins_keep (ins_un (ins_keep (ins_keep ins_nil)))))) (by decide) (fun _ _ _ _ _ => (tg_name (putS (putS (putS put0))) (putS (putS (putS put0))) (hasS (hasS (hasS has0))) (by decide) nd (by rfl) (by first | exact .inl rfl | exact .inr rfl))) (fun _ _ _ _ _ => tps_nil) (fun _ _ _ _ _ => (tx_meth (tl_slot has0p (pv 0)) (ok_Links_least_from fa) hr (lvr (by decide)) fa.c_Links fa.me_Links_least_from (by decide +kernel) fa.b_Links_least_from (ta_cons (tx_var (hasS (hasS (hasS has0))) (pv 3)) (ta_one (tx_var (hasS (hasS (hasS (hasS (hasS has0))))) (pv 5)))) (.inl rfl)))) (putS (putS (putS (putS put0)))) (by rfl) nd (by rfl) (by rfl) (by rfl) (by rfl) (by rfl) (by kernel_rfl))
  (ts_gh (gh_un (hasS (hasS (hasS (hasS (hasS has0))))) (putS (putS (putS (putS (putS put0)))))) ts_nil))))
  (ts_seq (tl_dput (tl_fld (tl_slot has0p (pv 0)) (hasS (hasS (hasS (hasS has0)))) (by rfl) fa.c_Links fa.na_Links_known) kk_int (hu_of hr) (tx_var (hasS (hasS (hasS (hasS has0)))) (pv 4)) (TX.pu (tx_var (hasS has0) (pv 1)) (by rfl) (by rfl)))
  (ts_gh (gh_trans (gh_un (hasS (hasS has0)) (putS (putS put0))) (gh_un (hasS (hasS (hasS (hasS has0)))) (putS (putS (putS (putS put0)))))) ts_nil)))) ts_nil)
  (ts_retM (tx_dgetAt kk_int (hu_of hr) (tl_fld (tl_slot has0p (pv 0)) (hasS (hasS (hasS (hasS has0)))) (by rfl) fa.c_Links fa.na_Links_known) (tx_var (hasS has0) (pv 1)) (.inl rfl)) has0))) (.inr (by intro s z; repeat (first | exact nn_rt | (refine nn_if ?_ ?_) | (refine nn_bind fun _ => ?_) | (refine nn_match fun _ => ?_) | dsimp only))) (fun _ _ h => h) (fun _ _ _ => rfl))
/-! ### Links.cost -/
theorem sc_Links_cost : FnScope ["self", "count"] ["self", "count"] (defScope s_Links_cost) := ⟨rfl, rfl, rfl, by decide +kernel, rfl, by decide +kernel, by decide +kernel⟩
def Links_cost_o (s : Links_F) (z : Int) : Out Unit ((Option Int) × Links_F) := let r1 := Links_row_f 100 s z; .rt ((geti r1.1 (0 : Int)), r1.2)
def Links_cost (s : Links_F) (z : Int) : ((Option Int) × Links_F) := (Links_cost_o s z).get (fun _ => default)
def Links_cost_pre (s : Links_F) (z : Int) : Prop := let r1 := Links_row_f 100 s z; (True ∧ (Links_row_f_pre 100 s z)) ∧ True ∧ ((at? r1.1 (0 : Int)).isSome = true)
theorem ends_Links_cost (s : Links_F) (z : Int) : NN (Links_cost_o s z) := by
  unfold Links_cost_o
  repeat (first | with_reducible exact nn_rt | with_reducible refine nn_if ?_ ?_ | with_reducible refine nn_bind fun _ => ?_ | with_reducible refine nn_match fun _ => ?_ | dsimp only)
theorem ok_Links_cost (fa : Fa K mg a) : FnOk P w0 K mg base CX0 104 a.Links_cost a.Links_cost_d ["self", "count"] (spM (Links_S a) (Links_S a) (tp1 rInt) (rsF (rOpt rInt)) Links_cost_pre Links_cost) := by
  have nd := sc_Links_cost.nd
  exact fnM2 (R1 := (fun _ => en)) (fo := Links_cost_o) (fin := (fun _ => default)) fa.f_Links_cost sc_Links_cost (fun _ _ _ h => congrArg (· + 1) (tp_len1 _ _ _ h)) (st0_one st1_nil) (by decide) (fun v0 cdv A outer s H Ex hr =>
  (ts_retM (tx_ixL (tx_meth (tl_slot has0p (pv 0)) (ok_Links_row fa 100) hr (by decide) fa.c_Links fa.me_Links_row (by decide +kernel) fa.b_Links_row (ta_one (tx_var (hasS has0) (pv 1))) (.inl rfl)) tx_int) has0)) (fun _ _ => by kernel_rfl) (fun _ _ => by kernel_rfl) (.inr ends_Links_cost)
/-! ### Links.counts -/
theorem sc_Links_counts : FnScope ["self", "count", "found", "cost"] ["self"] (defScope s_Links_counts) := ⟨rfl, rfl, rfl, by decide +kernel, rfl, by decide +kernel, by decide +kernel⟩
def Links_counts_w4_c (e : (Links_F × Int × Unit × Unit × Unit)) : Bool := let r3 := Links_cost e.1 e.2.1; r3.1.isNone
def Links_counts_w4_g (e : (Links_F × Int × Unit × Unit × Unit)) : (Links_F × Int × Unit × Unit × Unit) := let r3 := Links_cost e.1 e.2.1; (r3.2, e.2.1, (), (), ())
def Links_counts_w4_q (e : (Links_F × Int × Unit × Unit × Unit)) : Prop := let r3 := Links_cost e.1 e.2.1; (True ∧ (Links_cost_pre e.1 e.2.1)) ∧ True ∧ True
def Links_counts_w4 (e : (Links_F × Int × Unit × Unit × Unit)) : Out (Links_F × Int × Unit × Unit × Unit) ((List (Int × Int)) × Links_F) := let count5 := (e.2.1 + (1 : Int)); .nx (e.1, count5, (), (), ())
def Links_counts_w4_p (e : (Links_F × Int × Unit × Unit × Unit)) : Prop := let count5 := (e.2.1 + (1 : Int)); True ∧ True
def Links_counts_w9_c (e : (Links_F × Int × (List (Int × Int)) × Unit × Unit)) : Bool := decide (e.2.1 < (e.1.2.1.length : Int))
def Links_counts_w9_g (e : (Links_F × Int × (List (Int × Int)) × Unit × Unit)) : (Links_F × Int × (List (Int × Int)) × Unit × Unit) := (e.1, e.2.1, e.2.2.1, (), ())
def Links_counts_w9_q (e : (Links_F × Int × (List (Int × Int)) × Unit × Unit)) : Prop := True ∧ (True ∧ True) ∧ True
def Links_counts_w9 (e : (Links_F × Int × (List (Int × Int)) × Unit × Unit)) : Out (Links_F × Int × (List (Int × Int)) × Unit × Unit) ((List (Int × Int)) × Links_F) := let count10 := (e.2.1 + (1 : Int)); let r11 := Links_cost e.1 count10; (if (r11.1.isNone || decide (((geti e.2.2.1 (-(1 : Int))).2) ≤ (r11.1.getD default))) = true then (.rt (e.2.2.1, r11.2)) else let l12 := e.2.2.1 ++ [(count10, (r11.1.getD default))]; .nx (r11.2, count10, l12, (), ()))
def Links_counts_w9_p (e : (Links_F × Int × (List (Int × Int)) × Unit × Unit)) : Prop := let count10 := (e.2.1 + (1 : Int)); True ∧ (let r11 := Links_cost e.1 count10; (True ∧ (Links_cost_pre e.1 count10)) ∧ (((True ∧ True ∧ True) ∧ (r11.1.isNone = false → ((True ∧ (r11.1.isSome = true)) ∧ (True ∧ ((at? e.2.2.1 (-(1 : Int))).isSome = true)) ∧ True))) ∧ ((r11.1.isNone || decide (((geti e.2.2.1 (-(1 : Int))).2) ≤ (r11.1.getD default))) = true → True) ∧ ((r11.1.isNone || decide (((geti e.2.2.1 (-(1 : Int))).2) ≤ (r11.1.getD default))) = false → (let l12 := e.2.2.1 ++ [(count10, (r11.1.getD default))]; ((True ∧ (True ∧ (r11.1.isSome = true))) ∧ (e.2.2.1.length < LIM)) ∧ True))))
def Links_counts_o (s : Links_F) (z : Unit) : Out Unit ((List (Int × Int)) × Links_F) := let count1 := (0 : Int); (((whL Links_counts_w4_c Links_counts_w4_g Links_counts_w4 ((fun _ => 100 : (Links_F × Int × Unit × Unit × Unit) → Nat) (s, count1, (), (), ())) (s, count1, (), (), ())) : Out (Links_F × Int × Unit × Unit × Unit) ((List (Int × Int)) × Links_F)).bind fun e6 => let r7 := Links_cost e6.1 e6.2.1; let found8 := [(e6.2.1, (r7.1.getD default))]; (((whL Links_counts_w9_c Links_counts_w9_g Links_counts_w9 ((fun _ => 100 : (Links_F × Int × (List (Int × Int)) × Unit × Unit) → Nat) (r7.2, e6.2.1, found8, (), ())) (r7.2, e6.2.1, found8, (), ())) : Out (Links_F × Int × (List (Int × Int)) × Unit × Unit) ((List (Int × Int)) × Links_F)).bind fun e13 => .rt (e13.2.2.1, e13.1)))
def Links_counts (s : Links_F) (z : Unit) : ((List (Int × Int)) × Links_F) := (Links_counts_o s z).get (fun _ => default)
def Links_counts_pre (s : Links_F) (z : Unit) : Prop := let count1 := (0 : Int); True ∧ ((whP Links_counts_w4_c Links_counts_w4_g Links_counts_w4 Links_counts_w4_q Links_counts_w4_p ((fun _ => 100 : (Links_F × Int × Unit × Unit × Unit) → Nat) (s, count1, (), (), ())) (s, count1, (), (), ())) ∧ ∀ e6 : (Links_F × Int × Unit × Unit × Unit), ((whL Links_counts_w4_c Links_counts_w4_g Links_counts_w4 ((fun _ => 100 : (Links_F × Int × Unit × Unit × Unit) → Nat) (s, count1, (), (), ())) (s, count1, (), (), ())) : Out (Links_F × Int × Unit × Unit × Unit) ((List (Int × Int)) × Links_F)) = .nx e6 → (let r7 := Links_cost e6.1 e6.2.1; let found8 := [(e6.2.1, (r7.1.getD default))]; (True ∧ ((True ∧ (Links_cost_pre e6.1 e6.2.1)) ∧ (r7.1.isSome = true))) ∧ ((whP Links_counts_w9_c Links_counts_w9_g Links_counts_w9 Links_counts_w9_q Links_counts_w9_p ((fun _ => 100 : (Links_F × Int × (List (Int × Int)) × Unit × Unit) → Nat) (r7.2, e6.2.1, found8, (), ())) (r7.2, e6.2.1, found8, (), ())) ∧ ∀ e13 : (Links_F × Int × (List (Int × Int)) × Unit × Unit), ((whL Links_counts_w9_c Links_counts_w9_g Links_counts_w9 ((fun _ => 100 : (Links_F × Int × (List (Int × Int)) × Unit × Unit) → Nat) (r7.2, e6.2.1, found8, (), ())) (r7.2, e6.2.1, found8, (), ())) : Out (Links_F × Int × (List (Int × Int)) × Unit × Unit) ((List (Int × Int)) × Links_F)) = .nx e13 → True)))
theorem ends_Links_counts (s : Links_F) (z : Unit) : NN (Links_counts_o s z) := by
  unfold Links_counts_o
  repeat (first | with_reducible exact nn_rt | with_reducible refine nn_if ?_ ?_ | with_reducible refine nn_bind fun _ => ?_ | with_reducible refine nn_match fun _ => ?_ | dsimp only)
theorem ok_Links_counts (fa : Fa K mg a) : FnOk P w0 K mg base CX0 105 a.Links_counts a.Links_counts_d ["self"] (spM (Links_S a) (Links_S a) tp0 (rsF (rList (rTup (tpc rInt (tp1 rInt))))) Links_counts_pre Links_counts) := by
  have nd := sc_Links_counts.nd
  exact fnM2 (R1 := (fun _ => en)) (fo := Links_counts_o) (fin := (fun _ => default)) fa.f_Links_counts sc_Links_counts (fun _ _ _ h => congrArg (· + 1) (tp_len0 _ _ _ h)) (st0_nil (st1_un (st1_un (st1_un st1_nil)))) (by decide) (fun v0 cdv A outer s H Ex hr =>
  (ts_seq (tl_set tx_int (putS put0) nd (by rfl) (by exact .inl rfl))
  (ts_cons (t1_while (tq_cmp o_isN (tx_meth (tl_slot has0p (pv 0)) (ok_Links_cost fa) hr (by decide) fa.c_Links fa.me_Links_cost (by decide +kernel) fa.b_Links_cost (ta_one (tx_var (hasS has0) (pv 1))) (.inl rfl)) tx_non) (ts_seq (tl_aug ip_add tx_int (hasS has0) (putS put0) nd (by rfl) (by exact .inl rfl))
  ts_nil) PassesOwn.never (fun _ => 100))
  (ts_seq (tl_setY (ty_newL (tn_list (ta_one (tx_tup (ta_cons (tx_var (hasS has0) (pv 1)) (ta_one (tx_get (d := default) (tx_meth (tl_slot has0p (pv 0)) (ok_Links_cost fa) hr (by decide) fa.c_Links fa.me_Links_cost (by decide +kernel) fa.b_Links_cost (ta_one (tx_var (hasS has0) (pv 1))) (.inl rfl))))) (tp_lenc tp_len1))) row1)) (putS (putS put0)) nd (by rfl) (by exact .inl rfl))
  (ts_cons (t1_while (tq_cmp o_lt (tx_var (hasS has0) (pv 1)) (tx_callB c_lenL (by rfl) fa.n_len PySem.boot_len (ta_one (tx_at (tl_fld (tl_slot has0p (pv 0)) (hasS has0) (by rfl) fa.c_Links fa.na_Links_spots))))) (ts_seq (tl_aug ip_add tx_int (hasS has0) (putS put0) nd (by rfl) (by exact .inl rfl))
  (ts_seq (tl_set (tx_meth (tl_slot has0p (pv 0)) (ok_Links_cost fa) hr (by decide) fa.c_Links fa.me_Links_cost (by decide +kernel) fa.b_Links_cost (ta_one (tx_var (hasS has0) (pv 1))) (.inl rfl)) (putS (putS (putS put0))) nd (by rfl) (by exact .inl rfl))
  (ts_ifR (TW.tq (tw_or (tq_cmp o_isN (tx_var (hasS (hasS (hasS has0))) (pv 3)) tx_non) (TW.pu (tw_or1 (tq_cmp o_ge (tx_get (d := default) (tx_var (hasS (hasS (hasS has0))) (pv 3))) (tx_ixT (tx_ixAt (tl_slot (hasS (hasS has0)) (pv 2)) (tx_neg tx_int) (.inl rfl)) (atS at1)))) (by rfl) (by rfl)))) (ts_gh (gh_frL (hasS (hasS has0)) (putS (putS put0))) (ts_retM (tx_var (hasS (hasS has0)) (pv 2)) has0)) (fun _ _ h => by cases h)
  (ts_seq (tl_appendT (tl_slot (hasS (hasS has0)) (pv 2)) (ta_one (tx_tup (ta_cons (tx_var (hasS has0) (pv 1)) (ta_one (tx_get (d := default) (tx_var (hasS (hasS (hasS has0))) (pv 3))))) (tp_lenc tp_len1))) (.inl rfl) (fun _ _ h1 h2 => pe_bm PySem.F.plainAttrs_list PySem.F.slot_list_append PySem.F.type_list_append mt_append h1 h2))
  (ts_gh (gh_un (hasS (hasS (hasS has0))) (putS (putS (putS put0)))) ts_nil))))) PassesOwn.never (fun _ => 100))
  (ts_gh (gh_frL (hasS (hasS has0)) (putS (putS put0))) (ts_retM (tx_var (hasS (hasS has0)) (pv 2)) has0))))))) (fun _ _ => by kernel_rfl) (fun _ _ => by kernel_rfl) (.inr ends_Links_counts)
/-! ### Links.times -/
theorem sc_Links_times : FnScope ["self", "count", "found", "place", "left", "behind", "costs", "due", "high", "fit"] ["self", "count"] (defScope s_Links_times) := ⟨rfl, rfl, rfl, by decide +kernel, rfl, by decide +kernel, by decide +kernel⟩
def Links_times_b12 (e : (Links_F × Int × (List Int) × Int × Unit × Unit × Unit × Unit × Unit × Unit × Unit)) (x3 : Int) : Out (Links_F × Int × (List Int) × Int × Unit × Unit × Unit × Unit × Unit × Unit × Unit) ((List Int) × Links_F) := let r4 := Links_row_f 100 e.1 (x3 - (1 : Int)); let r5 := Links_row_f 100 r4.2 x3; let u6 := (r4.1, (geti r4.2.2.2.2.1 e.2.2.2.1), (geti r5.1 e.2.2.2.1)); let fit8 := (((rng e.2.2.2.1 ((r5.2.2.1.length : Int) - e.2.2.2.1).toNat).filter fun (x7 : Int) => (Links_can_go ((), u6.2.1, u6.1, x7))).map fun (x7 : Int) => x7); let place10 := (geti ((fit8.filter fun (x9 : Int) => decide ((some (((geti u6.2.1 x9).getD default) + ((geti u6.1 (x9 + (1 : Int))).getD default))) = u6.2.2)).map fun (x9 : Int) => (x9 + (1 : Int))) (0 : Int)); let l11 := e.2.2.1 ++ [(geti r5.2.2.1 (place10 - (1 : Int)))]; .nx (r5.2, e.2.1, l11, place10, (), (), (), (), (), (), ())
def Links_times_b12_p (e : (Links_F × Int × (List Int) × Int × Unit × Unit × Unit × Unit × Unit × Unit × Unit)) (x3 : Int) : Prop := let r4 := Links_row_f 100 e.1 (x3 - (1 : Int)); let r5 := Links_row_f 100 r4.2 x3; let u6 := (r4.1, (geti r4.2.2.2.2.1 e.2.2.2.1), (geti r5.1 e.2.2.2.1)); (((True ∧ True ∧ True) ∧ (Links_row_f_pre 100 e.1 (x3 - (1 : Int)))) ∧ ((True ∧ True ∧ ((at? r4.2.2.2.2.1 e.2.2.2.1).isSome = true)) ∧ ((True ∧ (Links_row_f_pre 100 r4.2 x3)) ∧ True ∧ ((at? r5.1 e.2.2.2.1).isSome = true)))) ∧ (let fit8 := (((rng e.2.2.2.1 ((r5.2.2.1.length : Int) - e.2.2.2.1).toNat).filter fun (x7 : Int) => (Links_can_go ((), u6.2.1, u6.1, x7))).map fun (x7 : Int) => x7); (((True ∧ (True ∧ True)) ∧ (-(2 ^ 62) ≤ e.2.2.2.1 ∧ e.2.2.2.1 < 2 ^ 62 ∧ -(2 ^ 62) ≤ (r5.2.2.1.length : Int) ∧ (r5.2.2.1.length : Int) < 2 ^ 62) ∧ ((r5.2.2.1.length : Int) - e.2.2.2.1 ≤ LIM)) ∧ (∀ x7 ∈ (rng e.2.2.2.1 ((r5.2.2.1.length : Int) - e.2.2.2.1).toNat), ((True ∧ (True ∧ True)) ∧ (Links_can_go_pre ((), u6.2.1, u6.1, x7))) ∧ ((Links_can_go ((), u6.2.1, u6.1, x7)) = true → True))) ∧ (let place10 := (geti ((fit8.filter fun (x9 : Int) => decide ((some (((geti u6.2.1 x9).getD default) + ((geti u6.1 (x9 + (1 : Int))).getD default))) = u6.2.2)).map fun (x9 : Int) => (x9 + (1 : Int))) (0 : Int)); ((True ∧ (∀ x9 ∈ fit8, ((((True ∧ True ∧ ((at? u6.2.1 x9).isSome = true)) ∧ ((geti u6.2.1 x9).isSome = true)) ∧ ((True ∧ (True ∧ True ∧ True) ∧ ((at? u6.1 (x9 + (1 : Int))).isSome = true)) ∧ ((geti u6.1 (x9 + (1 : Int))).isSome = true)) ∧ True) ∧ True ∧ True) ∧ (decide ((some (((geti u6.2.1 x9).getD default) + ((geti u6.1 (x9 + (1 : Int))).getD default))) = u6.2.2) = true → (True ∧ True ∧ True)))) ∧ True ∧ ((at? ((fit8.filter fun (x9 : Int) => decide ((some (((geti u6.2.1 x9).getD default) + ((geti u6.1 (x9 + (1 : Int))).getD default))) = u6.2.2)).map fun (x9 : Int) => (x9 + (1 : Int))) (0 : Int)).isSome = true)) ∧ (let l11 := e.2.2.1 ++ [(geti r5.2.2.1 (place10 - (1 : Int)))]; ((True ∧ (True ∧ True ∧ True) ∧ ((at? r5.2.2.1 (place10 - (1 : Int))).isSome = true)) ∧ (e.2.2.1.length < LIM)) ∧ True)))
def Links_times_o (s : Links_F) (z : Int) : Out Unit ((List Int) × Links_F) := let found1 := ([] : (List Int)); let place2 := (0 : Int); (((forL Links_times_b12 (rngD z (0 : Int)) (s, z, found1, place2, (), (), (), (), (), (), ())) : Out (Links_F × Int × (List Int) × Int × Unit × Unit × Unit × Unit × Unit × Unit × Unit) ((List Int) × Links_F)).bind fun e13 => .rt (e13.2.2.1, e13.1))
def Links_times (s : Links_F) (z : Int) : ((List Int) × Links_F) := (Links_times_o s z).get (fun _ => default)
def Links_times_pre (s : Links_F) (z : Int) : Prop := let found1 := ([] : (List Int)); let place2 := (0 : Int); (True ∧ True) ∧ ((((True ∧ (True ∧ True)) ∧ ((-(1 : Int)) = -1) ∧ (-(2 ^ 62) ≤ z ∧ z < 2 ^ 62 ∧ -(2 ^ 62) ≤ (0 : Int) ∧ (0 : Int) < 2 ^ 62) ∧ (z - (0 : Int) ≤ LIM)) ∧ (forP Links_times_b12 Links_times_b12_p (rngD z (0 : Int)) (s, z, found1, place2, (), (), (), (), (), (), ()))) ∧ ∀ e13 : (Links_F × Int × (List Int) × Int × Unit × Unit × Unit × Unit × Unit × Unit × Unit), ((forL Links_times_b12 (rngD z (0 : Int)) (s, z, found1, place2, (), (), (), (), (), (), ())) : Out (Links_F × Int × (List Int) × Int × Unit × Unit × Unit × Unit × Unit × Unit × Unit) ((List Int) × Links_F)) = .nx e13 → True)
theorem ends_Links_times (s : Links_F) (z : Int) : NN (Links_times_o s z) := by
  unfold Links_times_o
  repeat (first | with_reducible exact nn_rt | with_reducible refine nn_if ?_ ?_ | with_reducible refine nn_bind fun _ => ?_ | with_reducible refine nn_match fun _ => ?_ | dsimp only)
theorem ok_Links_times (fa : Fa K mg a) : FnOk P w0 K mg base CX0 104 a.Links_times a.Links_times_d ["self", "count"] (spM (Links_S a) (Links_S a) (tp1 rInt) (rsF (rList rInt)) Links_times_pre Links_times) := by
  have nd := sc_Links_times.nd
  exact fnM2 (R1 := (fun _ => en)) (fo := Links_times_o) (fin := (fun _ => default)) fa.f_Links_times sc_Links_times (fun _ _ _ h => congrArg (· + 1) (tp_len1 _ _ _ h)) (st0_one (st1_un (st1_un (st1_un (st1_un (st1_un (st1_un (st1_un (st1_un st1_nil))))))))) (by decide) (fun v0 cdv A outer s H Ex hr =>
  (ts_seq (tl_par (ty_newL (tn_list (r := rInt) (ta_nil (lv := true)) row0)) (ty_fr tx_int) (putS (putS put0)) (putS (putS (putS put0))) (by rfl) nd (by rfl) (by rfl) (by decide) (by rfl) (by rfl) (by rfl))
  (ts_cons (t1_for (vs := [4]) (ti_rangeD (ta_cons (tx_var (hasS has0) (pv 1)) (ta_cons tx_int (ta_one (tx_neg tx_int)))) (by rfl) fa.n_range) (tg_name (putS (putS (putS (putS put0)))) (putS (putS (putS (putS put0)))) (hasS (hasS (hasS (hasS has0)))) (by decide) nd (by rfl) (by exact .inl rfl)) (ts_seq (tl_unpack (vs := [5, 6, 7]) (tx_tup (ta_cons (tx_meth (tl_slot has0p (pv 0)) (ok_Links_row fa 100) hr (by decide) fa.c_Links fa.me_Links_row (by decide +kernel) fa.b_Links_row (ta_one (tx_op o_sub (tx_var (hasS (hasS (hasS (hasS has0)))) (pv 4)) tx_int)) (.inl rfl)) (ta_cons (tx_ixL (tx_at (tl_fld (tl_slot has0p (pv 0)) (hasS (hasS (hasS has0))) (by rfl) fa.c_Links fa.na_Links_costs)) (tx_var (hasS (hasS (hasS has0))) (pv 3))) (ta_one (tx_ixL (tx_meth (tl_slot has0p (pv 0)) (ok_Links_row fa 100) hr (by decide) fa.c_Links fa.me_Links_row (by decide +kernel) fa.b_Links_row (ta_one (tx_var (hasS (hasS (hasS (hasS has0)))) (pv 4))) (.inl rfl)) (tx_var (hasS (hasS (hasS has0))) (pv 3)))))) (tp_lenc (tp_lenc tp_len1))) (tg_tup (tgs_cons (tg_name (putS (putS (putS (putS (putS put0))))) (putS (putS (putS (putS (putS put0))))) (hasS (hasS (hasS (hasS (hasS has0))))) (by decide) nd (by rfl) (by exact .inr rfl)) (tgs_cons (tg_name (putS (putS (putS (putS (putS (putS put0)))))) (putS (putS (putS (putS (putS (putS put0)))))) (hasS (hasS (hasS (hasS (hasS (hasS has0)))))) (by decide) nd (by rfl) (by exact .inr rfl)) (tgs_one (tg_name (putS (putS (putS (putS (putS (putS (putS put0))))))) (putS (putS (putS (putS (putS (putS (putS put0))))))) (hasS (hasS (hasS (hasS (hasS (hasS (hasS has0))))))) (by decide) nd (by rfl) (by exact .inr rfl))))) (by rfl) (tp_lenc (tp_lenc tp_len1))))
  (ts_seq (tl_setLcF (lcF (own := [("high", 8)]) (ti_range2 (ta_cons (tx_var (hasS (hasS (hasS has0))) (pv 3)) (ta_one (tx_callB c_lenL (by rfl) fa.n_len PySem.boot_len (ta_one (tx_at (tl_fld (tl_slot has0p (pv 0)) (hasS has0) (by rfl) fa.c_Links fa.na_Links_spots)))))) (by rfl) fa.n_range) (m := [false, false, false, false, false, false, false, false, true, false]) (ins_keep (ins_keep (ins_keep (ins_keep (ins_keep (ins_keep (ins_keep (ins_keep (ins_un (ins_keep ins_nil)))))))))) (by decide) (fun _ _ _ _ _ => (tg_name (putS (putS (putS (putS (putS (putS (putS (putS put0)))))))) (putS (putS (putS (putS (putS (putS (putS (putS put0)))))))) (hasS (hasS (hasS (hasS (hasS (hasS (hasS (hasS has0)))))))) (by decide) nd (by rfl) (by first | exact .inl rfl | exact .inr rfl))) (by intros; rfl) (fun _ _ _ _ _ => (tps_one (TQ.pu (tq_val (tx_methA (tl_slot has0p (pv 0)) (ok_Links_can_go fa) hr (by decide) fa.c_Links fa.me_Links_can_go (by decide +kernel) fa.b_Links_can_go (ta_cons (tx_var (hasS (hasS (hasS (hasS (hasS (hasS has0)))))) (pv 6)) (ta_cons (tx_var (hasS (hasS (hasS (hasS (hasS has0))))) (pv 5)) (ta_one (tx_var (hasS (hasS (hasS (hasS (hasS (hasS (hasS (hasS has0)))))))) (pv 8))))))) (by rfl) (by rfl)))) (fun _ _ _ _ _ => (TX.pu (tx_var (hasS (hasS (hasS (hasS (hasS (hasS (hasS (hasS has0)))))))) (pv 8)) (by rfl) (by rfl)))) (putS (putS (putS (putS (putS (putS (putS (putS (putS put0))))))))) (by rfl) nd (by rfl) (by rfl) (by rfl) (by rfl) (by rfl) (by kernel_rfl))
  (ts_seq (tl_set (tx_ixL (tx_newL (tn_lc (lcF (own := [("high", 8)]) (ti_list (tx_var (hasS (hasS (hasS (hasS (hasS (hasS (hasS (hasS (hasS has0))))))))) (pv 9))) (m := [false, false, false, false, false, false, false, false, true, false]) (ins_keep (ins_keep (ins_keep (ins_keep (ins_keep (ins_keep (ins_keep (ins_keep (ins_un (ins_keep ins_nil)))))))))) (by decide) (fun _ _ _ _ _ => (tg_name (putS (putS (putS (putS (putS (putS (putS (putS put0)))))))) (putS (putS (putS (putS (putS (putS (putS (putS put0)))))))) (hasS (hasS (hasS (hasS (hasS (hasS (hasS (hasS has0)))))))) (by decide) nd (by rfl) (by first | exact .inl rfl | exact .inr rfl))) (by intros; rfl) (fun _ _ _ _ _ => (tps_one (TQ.pu (tq_cmp (o_eqD hr.units) (tx_some (tx_op o_add (tx_get (d := default) (tx_ixL (tx_var (hasS (hasS (hasS (hasS (hasS (hasS has0)))))) (pv 6)) (tx_var (hasS (hasS (hasS (hasS (hasS (hasS (hasS (hasS has0)))))))) (pv 8)))) (tx_get (d := default) (tx_ixL (tx_var (hasS (hasS (hasS (hasS (hasS has0))))) (pv 5)) (tx_op o_add (tx_var (hasS (hasS (hasS (hasS (hasS (hasS (hasS (hasS has0)))))))) (pv 8)) tx_int))))) (tx_var (hasS (hasS (hasS (hasS (hasS (hasS (hasS has0))))))) (pv 7))) (by rfl) (by rfl)))) (fun _ _ _ _ _ => (TX.pu (tx_op o_add (tx_var (hasS (hasS (hasS (hasS (hasS (hasS (hasS (hasS has0)))))))) (pv 8)) tx_int) (by rfl) (by rfl)))) (by rfl) nd (by kernel_rfl))) tx_int) (putS (putS (putS put0))) nd (by rfl) (by exact .inl rfl))
  (ts_seq (tl_appendT (tl_slot (hasS (hasS has0)) (pv 2)) (ta_one (tx_ixL (tx_at (tl_fld (tl_slot has0p (pv 0)) (hasS has0) (by rfl) fa.c_Links fa.na_Links_spots)) (tx_op o_sub (tx_var (hasS (hasS (hasS has0))) (pv 3)) tx_int))) (.inl rfl) (fun _ _ h1 h2 => pe_bm PySem.F.plainAttrs_list PySem.F.slot_list_append PySem.F.type_list_append mt_append h1 h2))
  (ts_gh (gh_trans (gh_trans (gh_trans (gh_trans (gh_un (hasS (hasS (hasS (hasS has0)))) (putS (putS (putS (putS put0))))) (gh_un (hasS (hasS (hasS (hasS (hasS has0))))) (putS (putS (putS (putS (putS put0))))))) (gh_un (hasS (hasS (hasS (hasS (hasS (hasS has0)))))) (putS (putS (putS (putS (putS (putS put0)))))))) (gh_un (hasS (hasS (hasS (hasS (hasS (hasS (hasS has0))))))) (putS (putS (putS (putS (putS (putS (putS put0))))))))) (gh_un (hasS (hasS (hasS (hasS (hasS (hasS (hasS (hasS (hasS has0))))))))) (putS (putS (putS (putS (putS (putS (putS (putS (putS put0))))))))))) ts_nil))))) PassesOwn.never (by rfl))
  (ts_gh (gh_frL (hasS (hasS has0)) (putS (putS put0))) (ts_retM (tx_var (hasS (hasS has0)) (pv 2)) has0))))) (fun _ _ => by kernel_rfl) (fun _ _ => by kernel_rfl) (.inr ends_Links_times)
/-! ### least_cost -/
theorem sc_least_cost : FnScope ["charges", "tariff"] ["charges", "tariff"] (defScope s_least_cost) := ⟨rfl, rfl, rfl, by decide +kernel, rfl, by decide +kernel, by decide +kernel⟩
def least_cost_o (z : (List (Int × (Int × Int × Int × (Option Int)))) × (List (Int × Int))) : Out Unit Int := .rt ((geti ((Links_counts ((Links_init Links_0 (z.1, z.2)).2) ()).1) (-(1 : Int))).2)
def least_cost (z : (List (Int × (Int × Int × Int × (Option Int)))) × (List (Int × Int))) : Int := (least_cost_o z).get (fun _ => default)
def least_cost_pre (z : (List (Int × (Int × Int × Int × (Option Int)))) × (List (Int × Int))) : Prop := (((True ∧ True) ∧ (Links_init_pre Links_0 (z.1, z.2))) ∧ (Links_counts_pre ((Links_init Links_0 (z.1, z.2)).2) ())) ∧ True ∧ ((at? ((Links_counts ((Links_init Links_0 (z.1, z.2)).2) ()).1) (-(1 : Int))).isSome = true)
theorem ends_least_cost (z : (List (Int × (Int × Int × Int × (Option Int)))) × (List (Int × Int))) : NN (least_cost_o z) := by
  unfold least_cost_o
  repeat (first | with_reducible exact nn_rt | with_reducible refine nn_if ?_ ?_ | with_reducible refine nn_bind fun _ => ?_ | with_reducible refine nn_match fun _ => ?_ | dsimp only)
theorem ok_least_cost (fa : Fa K mg a) : FnOk P w0 K mg base CX0 106 a.least_cost a.least_cost_d ["charges", "tariff"] (spP (tpc (rDict kInt (rTup (tpc rInt (tpc rInt (tpc rInt (tp1 (rOpt rInt))))))) (tp1 (rList (rTup (tpc rInt (tp1 rInt)))))) (rsF rInt) least_cost_pre least_cost) := by
  have nd := sc_least_cost.nd
  exact fnP2 (R1 := en) (fo := least_cost_o) (fin := (fun _ => default)) fa.f_least_cost sc_least_cost (tp_lenc tp_len1) (st0_cons (st0_one st1_nil)) (fun cdv A outer s H Ex hr =>
  (ts_ret (tx_ixT (tx_ixL (tx_methH (th_make Links_st1 fa.m_Links (ok_Links_init fa) hr (by decide) (by rfl) fa.g_Links fa.b_Links_init (ta_cons (tx_var has0 (pv 0)) (ta_one (tx_var (hasS has0) (pv 1))))) (ok_Links_counts fa) hr (by decide) fa.c_Links fa.me_Links_counts (by decide +kernel) fa.b_Links_counts) (tx_neg tx_int)) (atS at1)))) (fun _ => by kernel_rfl) (fun _ => by kernel_rfl) (.inr ends_least_cost)
/-! ### cost_alone -/
theorem sc_cost_alone : FnScope ["charges", "tariff", "row_id"] ["charges", "tariff", "row_id"] (defScope s_cost_alone) := ⟨rfl, rfl, rfl, by decide +kernel, rfl, by decide +kernel, by decide +kernel⟩
def cost_alone_o (z : (List (Int × (Int × Int × Int × (Option Int)))) × (List (Int × Int)) × Int) : Out Unit Int := .rt (least_cost ((dmerge [] ((z.2.2, ((dget z.1 z.2.2).getD default)) :: [])), z.2.1))
def cost_alone (z : (List (Int × (Int × Int × Int × (Option Int)))) × (List (Int × Int)) × Int) : Int := (cost_alone_o z).get (fun _ => default)
def cost_alone_pre (z : (List (Int × (Int × Int × Int × (Option Int)))) × (List (Int × Int)) × Int) : Prop := ((True ∧ (True ∧ True ∧ ((dget z.1 z.2.2).isSome = true)) ∧ True) ∧ True) ∧ (least_cost_pre ((dmerge [] ((z.2.2, ((dget z.1 z.2.2).getD default)) :: [])), z.2.1))
theorem ends_cost_alone (z : (List (Int × (Int × Int × Int × (Option Int)))) × (List (Int × Int)) × Int) : NN (cost_alone_o z) := by
  unfold cost_alone_o
  repeat (first | with_reducible exact nn_rt | with_reducible refine nn_if ?_ ?_ | with_reducible refine nn_bind fun _ => ?_ | with_reducible refine nn_match fun _ => ?_ | dsimp only)
theorem ok_cost_alone (fa : Fa K mg a) : FnOk P w0 K mg base CX0 107 a.cost_alone a.cost_alone_d ["charges", "tariff", "row_id"] (spP (tpc (rDict kInt (rTup (tpc rInt (tpc rInt (tpc rInt (tp1 (rOpt rInt))))))) (tpc (rList (rTup (tpc rInt (tp1 rInt)))) (tp1 rInt))) (rsF rInt) cost_alone_pre cost_alone) := by
  have nd := sc_cost_alone.nd
  exact fnP2 (R1 := en) (fo := cost_alone_o) (fin := (fun _ => default)) fa.f_cost_alone sc_cost_alone (tp_lenc (tp_lenc tp_len1)) (st0_cons (st0_cons (st0_one st1_nil))) (fun cdv A outer s H Ex hr =>
  (ts_ret (tx_call (ok_least_cost fa) hr (by decide) (by rfl) fa.g_least_cost fa.f_least_cost.kp fa.b_least_cost (ta_cons (tx_newD (tm_disp (kk := kInt) (tds_cons kk_int (tx_var (hasS (hasS has0)) (pv 2)) (tx_dget kk_int (hu_of hr) (tx_var has0 (pv 0)) (tx_var (hasS (hasS has0)) (pv 2))) tds_nil) (by simp) (by decide))) (ta_one (tx_var (hasS has0) (pv 1))))))) (fun _ => by kernel_rfl) (fun _ => by kernel_rfl) (.inr ends_cost_alone)
/-! ### is_integer -/
theorem sc_is_integer : FnScope ["value", "low", "high"] ["value", "low", "high"] (defScope s_is_integer) := ⟨rfl, rfl, rfl, by decide +kernel, rfl, by decide +kernel, by decide +kernel⟩
def is_integer_o (z : Int × Int × Int) : Out Unit Bool := .rt (true && ((!false) && (decide (z.2.1 ≤ z.1) && decide (z.1 ≤ z.2.2))))
def is_integer (z : Int × Int × Int) : Bool := (is_integer_o z).get (fun _ => default)
def is_integer_pre (z : Int × Int × Int) : Prop := True ∧ (true = true → (True ∧ ((!false) = true → (True ∧ True ∧ True ∧ (decide (z.2.1 ≤ z.1) = true → True ∧ True)))))
theorem ends_is_integer (z : Int × Int × Int) : NN (is_integer_o z) := by
  unfold is_integer_o
  repeat (first | with_reducible exact nn_rt | with_reducible refine nn_if ?_ ?_ | with_reducible refine nn_bind fun _ => ?_ | with_reducible refine nn_match fun _ => ?_ | dsimp only)
theorem ok_is_integer (fa : Fa K mg a) : FnOk P w0 K mg base CX0 1 a.is_integer a.is_integer_d ["value", "low", "high"] (spP (tpc rInt (tpc rInt (tp1 rInt))) (rsF rBool) is_integer_pre is_integer) := by
  have nd := sc_is_integer.nd
  exact fnP2 (R1 := en) (fo := is_integer_o) (fin := (fun _ => default)) fa.f_is_integer sc_is_integer (tp_lenc (tp_lenc tp_len1)) (st0_cons (st0_cons (st0_one st1_nil))) (fun cdv A outer s H Ex hr =>
  (ts_ret (tx_and (tx_isi (b := true) (tx_var has0 (pv 0)) (by rfl) fa.n_int rfl (by decide +kernel) (by rfl) fa.n_isinstance) (TX.pu (tx_and (tx_not (tx_isi (b := false) (tx_var has0 (pv 0)) (by rfl) fa.n_bool rfl (by decide +kernel) (by rfl) fa.n_isinstance)) (TX.pu (tx_one (tx_chain o_le o_le (tx_var (hasS has0) (pv 1)) (TX.pu (tx_var has0 (pv 0)) (by rfl) (by rfl)) (TX.pu (tx_var (hasS (hasS has0)) (pv 2)) (by rfl) (by rfl)))) (by rfl) (by rfl))) (by rfl) (by rfl))))) (fun _ => by kernel_rfl) (fun _ => by kernel_rfl) (.inr ends_is_integer)
/-! ### is_id -/
theorem sc_is_id : FnScope ["value"] ["value"] (defScope s_is_id) := ⟨rfl, rfl, rfl, by decide +kernel, rfl, by decide +kernel, by decide +kernel⟩
def is_id_o (z : Int) : Out Unit Bool := .rt (is_integer (z, (1 : Int), (1000000 : Int)))
def is_id (z : Int) : Bool := (is_id_o z).get (fun _ => default)
def is_id_pre (z : Int) : Prop := (True ∧ (True ∧ True)) ∧ (is_integer_pre (z, (1 : Int), (1000000 : Int)))
theorem ends_is_id (z : Int) : NN (is_id_o z) := by
  unfold is_id_o
  repeat (first | with_reducible exact nn_rt | with_reducible refine nn_if ?_ ?_ | with_reducible refine nn_bind fun _ => ?_ | with_reducible refine nn_match fun _ => ?_ | dsimp only)
theorem ok_is_id (fa : Fa K mg a) : FnOk P w0 K mg base CX0 2 a.is_id a.is_id_d ["value"] (spP (tp1 rInt) (rsF rBool) is_id_pre is_id) := by
  have nd := sc_is_id.nd
  exact fnP2 (R1 := en) (fo := is_id_o) (fin := (fun _ => default)) fa.f_is_id sc_is_id tp_len1 (st0_one st1_nil) (fun cdv A outer s H Ex hr =>
  (ts_ret (tx_call (ok_is_integer fa) hr (by decide) (by rfl) fa.g_is_integer fa.f_is_integer.kp fa.b_is_integer (ta_cons (tx_var has0 (pv 0)) (ta_cons tx_int (ta_one (tx_gint (by rfl) fa.k_GREATEST_ID))))))) (fun _ => by kernel_rfl) (fun _ => by kernel_rfl) (.inr ends_is_id)
/-! ### offer -/
theorem sc_offer : FnScope ["charge", "share", "moment"] ["charge", "share", "moment"] (defScope s_offer) := ⟨rfl, rfl, rfl, by decide +kernel, rfl, by decide +kernel, by decide +kernel⟩
def offer_o (z : (Int × Int × Int × (Option Int)) × Int × Int) : Out Unit Int := .rt (max2 (0 : Int) (z.2.1 - (z.1.2.2.1 * (z.2.2 - z.1.1))))
def offer (z : (Int × Int × Int × (Option Int)) × Int × Int) : Int := (offer_o z).get (fun _ => default)
def offer_pre (z : (Int × Int × Int × (Option Int)) × Int × Int) : Prop := (True ∧ (True ∧ (True ∧ (True ∧ True ∧ True) ∧ (CMul z.1.2.2.1 (z.2.2 - z.1.1))) ∧ True)) ∧ True
theorem ends_offer (z : (Int × Int × Int × (Option Int)) × Int × Int) : NN (offer_o z) := by
  unfold offer_o
  repeat (first | with_reducible exact nn_rt | with_reducible refine nn_if ?_ ?_ | with_reducible refine nn_bind fun _ => ?_ | with_reducible refine nn_match fun _ => ?_ | dsimp only)
theorem ok_offer (fa : Fa K mg a) : FnOk P w0 K mg base CX0 1 a.offer a.offer_d ["charge", "share", "moment"] (spP (tpc (rTup (tpc rInt (tpc rInt (tpc rInt (tp1 (rOpt rInt)))))) (tpc rInt (tp1 rInt))) (rsF rInt) offer_pre offer) := by
  have nd := sc_offer.nd
  exact fnP2 (R1 := en) (fo := offer_o) (fin := (fun _ => default)) fa.f_offer sc_offer (tp_lenc (tp_lenc tp_len1)) (st0_cons (st0_cons (st0_one st1_nil))) (fun cdv A outer s H Ex hr =>
  (ts_ret (tx_callB (c_max2 (by rfl)) (by rfl) fa.n_max rfl (ta_cons tx_int (ta_one (tx_op o_sub (tx_var (hasS has0) (pv 1)) (tx_op o_mul (tx_ixT (tx_var has0 (pv 0)) (atS (atS (atc tp_len1)))) (tx_op o_sub (tx_var (hasS (hasS has0)) (pv 2)) (tx_ixT (tx_var has0 (pv 0)) (atc (tp_lenc (tp_lenc tp_len1)))))))))))) (fun _ => by kernel_rfl) (fun _ => by kernel_rfl) (.inr ends_offer)
/-! ### greatest_share -/
theorem sc_greatest_share : FnScope ["charge", "begin", "end", "wait", "fine"] ["charge"] (defScope s_greatest_share) := ⟨rfl, rfl, rfl, by decide +kernel, rfl, by decide +kernel, by decide +kernel⟩
def greatest_share_o (z : (Int × Int × Int × (Option Int))) : Out Unit (Option Int) := .rt (if z.2.2.2.isNone = true then (none : (Option Int)) else (some ((z.2.2.1 * (z.2.1 - z.1)) + (z.2.2.2.getD default))))
def greatest_share (z : (Int × Int × Int × (Option Int))) : (Option Int) := (greatest_share_o z).get (fun _ => default)
def greatest_share_pre (z : (Int × Int × Int × (Option Int))) : Prop := True ∧ ((True ∧ True ∧ True) ∧ (z.2.2.2.isNone = true → True) ∧ (z.2.2.2.isNone = false → ((True ∧ (True ∧ True ∧ True) ∧ (CMul z.2.2.1 (z.2.1 - z.1))) ∧ (True ∧ (z.2.2.2.isSome = true)) ∧ True)))
theorem ends_greatest_share (z : (Int × Int × Int × (Option Int))) : NN (greatest_share_o z) := by
  unfold greatest_share_o
  repeat (first | with_reducible exact nn_rt | with_reducible refine nn_if ?_ ?_ | with_reducible refine nn_bind fun _ => ?_ | with_reducible refine nn_match fun _ => ?_ | dsimp only)
theorem ok_greatest_share (fa : Fa K mg a) : FnOk P w0 K mg base CX0 1 a.greatest_share a.greatest_share_d ["charge"] (spP (tp1 (rTup (tpc rInt (tpc rInt (tpc rInt (tp1 (rOpt rInt))))))) (rsF (rOpt rInt)) greatest_share_pre greatest_share) := by
  have nd := sc_greatest_share.nd
  exact fnP2 (R1 := en) (fo := greatest_share_o) (fin := (fun _ => default)) fa.f_greatest_share sc_greatest_share tp_len1 (st0_one (st1_un (st1_un (st1_un (st1_un st1_nil))))) (fun cdv A outer s H Ex hr =>
  (ts_seq (tl_unpack (vs := [1, 2, 3, 4]) (tx_var has0 (pv 0)) (tg_tup (tgs_cons (tg_name (putS put0) (putS put0) (hasS has0) (by decide) nd (by rfl) (by exact .inl rfl)) (tgs_cons (tg_name (putS (putS put0)) (putS (putS put0)) (hasS (hasS has0)) (by decide) nd (by rfl) (by exact .inl rfl)) (tgs_cons (tg_name (putS (putS (putS put0))) (putS (putS (putS put0))) (hasS (hasS (hasS has0))) (by decide) nd (by rfl) (by exact .inl rfl)) (tgs_one (tg_name (putS (putS (putS (putS put0)))) (putS (putS (putS (putS put0)))) (hasS (hasS (hasS (hasS has0)))) (by decide) nd (by rfl) (by exact .inl rfl)))))) (by rfl) (tp_lenc (tp_lenc (tp_lenc tp_len1)))))
  (ts_ret (tx_if (tq_cmp o_isN (tx_var (hasS (hasS (hasS (hasS has0)))) (pv 4)) tx_non) (TX.pu (tx_none (r := rInt)) (by rfl) (by rfl)) (TX.pu (tx_some (tx_op o_add (tx_op o_mul (tx_var (hasS (hasS (hasS has0))) (pv 3)) (tx_op o_sub (tx_var (hasS (hasS has0)) (pv 2)) (tx_var (hasS has0) (pv 1)))) (tx_get (d := default) (tx_var (hasS (hasS (hasS (hasS has0)))) (pv 4))))) (by rfl) (by rfl)))))) (fun _ => by kernel_rfl) (fun _ => by kernel_rfl) (.inr ends_greatest_share)
/-! ### spots_of -/
theorem sc_spots_of : FnScope ["charges", "tariff", "charge", "begin", "price"] ["charges", "tariff"] (defScope s_spots_of) := ⟨rfl, rfl, rfl, by decide +kernel, rfl, by decide +kernel, by decide +kernel⟩
def spots_of_o (z : (List (Int × (Int × Int × Int × (Option Int)))) × (List (Int × Int))) : Out Unit (List Int) := .rt (uniq (((z.1.map fun (x : Int × (Int × Int × Int × (Option Int))) => x.2).map fun (x1 : (Int × Int × Int × (Option Int))) => x1.1) ++ ((z.2.map fun (x2 : (Int × Int)) => x2.1) ++ [])))
def spots_of (z : (List (Int × (Int × Int × Int × (Option Int)))) × (List (Int × Int))) : (List Int) := (spots_of_o z).get (fun _ => default)
def spots_of_pre (z : (List (Int × (Int × Int × Int × (Option Int)))) × (List (Int × Int))) : Prop := (((True ∧ (∀ x1 ∈ (z.1.map fun (x : Int × (Int × Int × Int × (Option Int))) => x.2), True)) ∧ ((True ∧ (∀ x2 ∈ z.2, True)) ∧ True)) ∧ ((((z.1.map fun (x : Int × (Int × Int × Int × (Option Int))) => x.2).map fun (x1 : (Int × Int × Int × (Option Int))) => x1.1) ++ ((z.2.map fun (x2 : (Int × Int)) => x2.1) ++ [])).length ≤ LIM)) ∧ ((((z.1.map fun (x : Int × (Int × Int × Int × (Option Int))) => x.2).map fun (x1 : (Int × Int × Int × (Option Int))) => x1.1) ++ ((z.2.map fun (x2 : (Int × Int)) => x2.1) ++ [])).length < 64)
theorem ends_spots_of (z : (List (Int × (Int × Int × Int × (Option Int)))) × (List (Int × Int))) : NN (spots_of_o z) := by
  unfold spots_of_o
  repeat (first | with_reducible exact nn_rt | with_reducible refine nn_if ?_ ?_ | with_reducible refine nn_bind fun _ => ?_ | with_reducible refine nn_match fun _ => ?_ | dsimp only)
theorem ok_spots_of (fa : Fa K mg a) : FnOk P w0 K mg base CX0 1 a.spots_of a.spots_of_d ["charges", "tariff"] (spP (tpc (rDict kInt (rTup (tpc rInt (tpc rInt (tpc rInt (tp1 (rOpt rInt))))))) (tp1 (rList (rTup (tpc rInt (tp1 rInt)))))) (rsF (rList rInt)) spots_of_pre spots_of) := by
  have nd := sc_spots_of.nd
  exact fnP2 (R1 := en) (fo := spots_of_o) (fin := (fun _ => default)) fa.f_spots_of sc_spots_of (tp_lenc tp_len1) (st0_cons (st0_one (st1_un (st1_un (st1_un st1_nil))))) (fun cdv A outer s H Ex hr =>
  (ts_ret (tx_newL (tn_sortSet (by rfl) (ta_one (tx_newL (tn_listS (tls_star (tx_newL (tn_lc (lcM (own := [("charge", 2)]) (ti_values (tx_var has0 (pv 0))) (m := [false, false, true, false, false]) (ins_keep (ins_keep (ins_un (ins_keep (ins_keep ins_nil))))) (by decide) (fun _ _ _ _ _ => (tg_name (putS (putS put0)) (putS (putS put0)) (hasS (hasS has0)) (by decide) nd (by rfl) (by first | exact .inl rfl | exact .inr rfl))) (by intros; rfl) (fun _ _ _ _ _ => (TX.pu (tx_ixT (tx_var (hasS (hasS has0)) (pv 2)) (atc (tp_lenc (tp_lenc tp_len1)))) (by rfl) (by rfl)))) (by rfl) nd (by kernel_rfl))) (tls_star (tx_newL (tn_lc (lcM (own := [("begin", 3), ("price", 4)]) (ti_list (tx_var (hasS has0) (pv 1))) (m := [false, false, false, true, true]) (ins_keep (ins_keep (ins_keep (ins_un (ins_un ins_nil))))) (by decide) (fun _ _ _ _ _ => (tg_tup (tgs_cons (tg_name (putS (putS (putS put0))) (putS (putS (putS put0))) (hasS (hasS (hasS has0))) (by decide) nd (by rfl) (by first | exact .inl rfl | exact .inr rfl)) (tgs_one (tg_name (putS (putS (putS (putS put0)))) (putS (putS (putS (putS put0)))) (hasS (hasS (hasS (hasS has0)))) (by decide) nd (by rfl) (by first | exact .inl rfl | exact .inr rfl)))) (by rfl) (tp_lenc tp_len1))) (by intros; rfl) (fun _ _ _ _ _ => (TX.pu (tx_var (hasS (hasS (hasS has0))) (pv 3)) (by rfl) (by rfl)))) (by rfl) nd (by kernel_rfl))) tls_nil))))) (by rfl) fa.n_sorted (by rfl) fa.n_set)))) (fun _ => by kernel_rfl) (fun _ => by kernel_rfl) (.inr ends_spots_of)
/-! ### offers_at -/
theorem sc_offers_at : FnScope ["charges", "shares", "moment", "found", "row_id"] ["charges", "shares", "moment"] (defScope s_offers_at) := ⟨rfl, rfl, rfl, by decide +kernel, rfl, by decide +kernel, by decide +kernel⟩
def offers_at_b4 (e : ((List (Int × (Int × Int × Int × (Option Int)))) × (List (Int × Int)) × Int × (List (Int × Int)) × Unit × Unit)) (x2 : Int) : Out ((List (Int × (Int × Int × Int × (Option Int)))) × (List (Int × Int)) × Int × (List (Int × Int)) × Unit × Unit) (List (Int × Int)) := (if ((decide ((((dget e.1 x2).getD default).1) ≤ e.2.2.1) && decide (e.2.2.1 ≤ (((dget e.1 x2).getD default).2.1))) && decide ((0 : Int) < (offer (((dget e.1 x2).getD default), ((dget e.2.1 x2).getD default), e.2.2.1)))) = true then (let d3 := dput e.2.2.2.1 x2 (offer (((dget e.1 x2).getD default), ((dget e.2.1 x2).getD default), e.2.2.1)); .nx (e.1, e.2.1, e.2.2.1, d3, (), ())) else (.nx (e.1, e.2.1, e.2.2.1, e.2.2.2.1, (), ())))
def offers_at_b4_p (e : ((List (Int × (Int × Int × Int × (Option Int)))) × (List (Int × Int)) × Int × (List (Int × Int)) × Unit × Unit)) (x2 : Int) : Prop := (((True ∧ True ∧ ((dget e.1 x2).isSome = true)) ∧ True ∧ True ∧ (decide ((((dget e.1 x2).getD default).1) ≤ e.2.2.1) = true → (True ∧ True ∧ ((dget e.1 x2).isSome = true)) ∧ True)) ∧ ((decide ((((dget e.1 x2).getD default).1) ≤ e.2.2.1) && decide (e.2.2.1 ≤ (((dget e.1 x2).getD default).2.1))) = true → ((((True ∧ True ∧ ((dget e.1 x2).isSome = true)) ∧ ((True ∧ True ∧ ((dget e.2.1 x2).isSome = true)) ∧ True)) ∧ (offer_pre (((dget e.1 x2).getD default), ((dget e.2.1 x2).getD default), e.2.2.1))) ∧ True ∧ True))) ∧ (((decide ((((dget e.1 x2).getD default).1) ≤ e.2.2.1) && decide (e.2.2.1 ≤ (((dget e.1 x2).getD default).2.1))) && decide ((0 : Int) < (offer (((dget e.1 x2).getD default), ((dget e.2.1 x2).getD default), e.2.2.1)))) = true → (let d3 := dput e.2.2.2.1 x2 (offer (((dget e.1 x2).getD default), ((dget e.2.1 x2).getD default), e.2.2.1)); ((((True ∧ True ∧ ((dget e.1 x2).isSome = true)) ∧ ((True ∧ True ∧ ((dget e.2.1 x2).isSome = true)) ∧ True)) ∧ (offer_pre (((dget e.1 x2).getD default), ((dget e.2.1 x2).getD default), e.2.2.1))) ∧ True ∧ (e.2.2.2.1.length < LIM)) ∧ True)) ∧ (((decide ((((dget e.1 x2).getD default).1) ≤ e.2.2.1) && decide (e.2.2.1 ≤ (((dget e.1 x2).getD default).2.1))) && decide ((0 : Int) < (offer (((dget e.1 x2).getD default), ((dget e.2.1 x2).getD default), e.2.2.1)))) = false → True)
def offers_at_o (z : (List (Int × (Int × Int × Int × (Option Int)))) × (List (Int × Int)) × Int) : Out Unit (List (Int × Int)) := let found1 := ([] : (List (Int × Int))); (((forL offers_at_b4 (srt (z.1.map fun (x : Int × (Int × Int × Int × (Option Int))) => x.1)) (z.1, z.2.1, z.2.2, found1, (), ())) : Out ((List (Int × (Int × Int × Int × (Option Int)))) × (List (Int × Int)) × Int × (List (Int × Int)) × Unit × Unit) (List (Int × Int))).bind fun e5 => .rt e5.2.2.2.1)
def offers_at (z : (List (Int × (Int × Int × Int × (Option Int)))) × (List (Int × Int)) × Int) : (List (Int × Int)) := (offers_at_o z).get (fun _ => default)
def offers_at_pre (z : (List (Int × (Int × Int × Int × (Option Int)))) × (List (Int × Int)) × Int) : Prop := let found1 := ([] : (List (Int × Int))); True ∧ (((True ∧ (z.1.length < 64)) ∧ (forP offers_at_b4 offers_at_b4_p (srt (z.1.map fun (x : Int × (Int × Int × Int × (Option Int))) => x.1)) (z.1, z.2.1, z.2.2, found1, (), ()))) ∧ ∀ e5 : ((List (Int × (Int × Int × Int × (Option Int)))) × (List (Int × Int)) × Int × (List (Int × Int)) × Unit × Unit), ((forL offers_at_b4 (srt (z.1.map fun (x : Int × (Int × Int × Int × (Option Int))) => x.1)) (z.1, z.2.1, z.2.2, found1, (), ())) : Out ((List (Int × (Int × Int × Int × (Option Int)))) × (List (Int × Int)) × Int × (List (Int × Int)) × Unit × Unit) (List (Int × Int))) = .nx e5 → True)
theorem ends_offers_at (z : (List (Int × (Int × Int × Int × (Option Int)))) × (List (Int × Int)) × Int) : NN (offers_at_o z) := by
  unfold offers_at_o
  repeat (first | with_reducible exact nn_rt | with_reducible refine nn_if ?_ ?_ | with_reducible refine nn_bind fun _ => ?_ | with_reducible refine nn_match fun _ => ?_ | dsimp only)
theorem ok_offers_at (fa : Fa K mg a) : FnOk P w0 K mg base CX0 2 a.offers_at a.offers_at_d ["charges", "shares", "moment"] (spP (tpc (rDict kInt (rTup (tpc rInt (tpc rInt (tpc rInt (tp1 (rOpt rInt))))))) (tpc (rDict kInt rInt) (tp1 rInt))) (rsF (rDict kInt rInt)) offers_at_pre offers_at) := by
  have nd := sc_offers_at.nd
  exact fnP2 (R1 := en) (fo := offers_at_o) (fin := (fun _ => default)) fa.f_offers_at sc_offers_at (tp_lenc (tp_lenc tp_len1)) (st0_cons (st0_cons (st0_one (st1_un (st1_un st1_nil))))) (fun cdv A outer s H Ex hr =>
  (ts_seq (tl_setY (ty_newD (tm_nil (kk := kInt) (s := rInt))) (putS (putS (putS put0))) nd (by rfl) (by exact .inl rfl))
  (ts_cons (t1_for (vs := [4]) (ti_list (tx_newL (tn_callB (c_sortD (by rfl)) (by rfl) fa.n_sorted rfl (ta_one (tx_var has0 (pv 0)))))) (tg_name (putS (putS (putS (putS put0)))) (putS (putS (putS (putS put0)))) (hasS (hasS (hasS (hasS has0)))) (by decide) nd (by rfl) (by exact .inl rfl)) (ts_one (t1_if (TW.tq (tw_and (tq_chain o_le o_le (tx_ixT (tx_dget kk_int (hu_of hr) (tx_var has0 (pv 0)) (tx_var (hasS (hasS (hasS (hasS has0)))) (pv 4))) (atc (tp_lenc (tp_lenc tp_len1)))) (TX.pu (tx_var (hasS (hasS has0)) (pv 2)) (by rfl) (by rfl)) (TX.pu (tx_ixT (tx_dget kk_int (hu_of hr) (tx_var has0 (pv 0)) (tx_var (hasS (hasS (hasS (hasS has0)))) (pv 4))) (atS (atc (tp_lenc tp_len1)))) (by rfl) (by rfl))) (TW.pu (tw_and1 (tq_cmp o_gt (tx_call (ok_offer fa) hr (by decide) (by rfl) fa.g_offer fa.f_offer.kp fa.b_offer (ta_cons (tx_dget kk_int (hu_of hr) (tx_var has0 (pv 0)) (tx_var (hasS (hasS (hasS (hasS has0)))) (pv 4))) (ta_cons (tx_dget kk_int (hu_of hr) (tx_var (hasS has0) (pv 1)) (tx_var (hasS (hasS (hasS (hasS has0)))) (pv 4))) (ta_one (tx_var (hasS (hasS has0)) (pv 2)))))) tx_int)) (by rfl) (by rfl)))) (ts_seq (tl_dput (tl_slot (hasS (hasS (hasS has0))) (pv 3)) kk_int (hu_of hr) (tx_call (ok_offer fa) hr (by decide) (by rfl) fa.g_offer fa.f_offer.kp fa.b_offer (ta_cons (tx_dget kk_int (hu_of hr) (tx_var has0 (pv 0)) (tx_var (hasS (hasS (hasS (hasS has0)))) (pv 4))) (ta_cons (tx_dget kk_int (hu_of hr) (tx_var (hasS has0) (pv 1)) (tx_var (hasS (hasS (hasS (hasS has0)))) (pv 4))) (ta_one (tx_var (hasS (hasS has0)) (pv 2)))))) (TX.pu (tx_var (hasS (hasS (hasS (hasS has0)))) (pv 4)) (by rfl) (by rfl)))
  (ts_gh (gh_un (hasS (hasS (hasS (hasS has0)))) (putS (putS (putS (putS put0))))) ts_nil)) (ts_gh (gh_un (hasS (hasS (hasS (hasS has0)))) (putS (putS (putS (putS put0))))) ts_nil))) PassesOwn.never (by rfl))
  (ts_gh (gh_frD (hasS (hasS (hasS has0))) (putS (putS (putS put0)))) (ts_ret (tx_var (hasS (hasS (hasS has0))) (pv 3))))))) (fun _ => by kernel_rfl) (fun _ => by kernel_rfl) (.inr ends_offers_at)
/-! ### leavers -/
theorem sc_leavers : FnScope ["charges", "tariff", "shares", "row_id", "most", "spot", "offers"] ["charges", "tariff", "shares"] (defScope s_leavers) := ⟨rfl, rfl, rfl, by decide +kernel, rfl, by decide +kernel, by decide +kernel⟩
def leavers_b3 (e : ((List (Int × (Int × Int × Int × (Option Int)))) × (List (Int × Int)) × (List (Int × Int)) × Unit × Unit × Unit × Unit × Unit)) (x1 : Int) : Out ((List (Int × (Int × Int × Int × (Option Int)))) × (List (Int × Int)) × (List (Int × Int)) × Unit × Unit × Unit × Unit × Unit) (Option ((List Int) × (Option Int))) := let most2 := (greatest_share ((dget e.1 x1).getD default)); (if (most2.isSome && decide ((most2.getD default) < ((dget e.2.2.1 x1).getD default))) = true then (.rt (some ([x1], (none : (Option Int))))) else .nx (e.1, e.2.1, e.2.2.1, (), (), (), (), ()))
def leavers_b3_p (e : ((List (Int × (Int × Int × Int × (Option Int)))) × (List (Int × Int)) × (List (Int × Int)) × Unit × Unit × Unit × Unit × Unit)) (x1 : Int) : Prop := let most2 := (greatest_share ((dget e.1 x1).getD default)); ((True ∧ True ∧ ((dget e.1 x1).isSome = true)) ∧ (greatest_share_pre ((dget e.1 x1).getD default))) ∧ (((True ∧ True ∧ True) ∧ (most2.isSome = true → ((True ∧ True ∧ ((dget e.2.2.1 x1).isSome = true)) ∧ (True ∧ (most2.isSome = true)) ∧ True))) ∧ ((most2.isSome && decide ((most2.getD default) < ((dget e.2.2.1 x1).getD default))) = true → (True ∧ True)) ∧ ((most2.isSome && decide ((most2.getD default) < ((dget e.2.2.1 x1).getD default))) = false → True))
def leavers_b7 (e : ((List (Int × (Int × Int × Int × (Option Int)))) × (List (Int × Int)) × (List (Int × Int)) × Unit × Unit × Unit × Unit × Unit)) (x5 : Int) : Out ((List (Int × (Int × Int × Int × (Option Int)))) × (List (Int × Int)) × (List (Int × Int)) × Unit × Unit × Unit × Unit × Unit) (Option ((List Int) × (Option Int))) := let offers6 := (offers_at (e.1, e.2.2.1, x5)); (if decide ((price_at (e.2.1, x5)) < ((offers6.map fun (x : Int × Int) => x.2).sum)) = true then (.rt (some ((offers6.map fun (x : Int × Int) => x.1), (some x5)))) else .nx (e.1, e.2.1, e.2.2.1, (), (), (), (), ()))
def leavers_b7_p (e : ((List (Int × (Int × Int × Int × (Option Int)))) × (List (Int × Int)) × (List (Int × Int)) × Unit × Unit × Unit × Unit × Unit)) (x5 : Int) : Prop := let offers6 := (offers_at (e.1, e.2.2.1, x5)); ((True ∧ (True ∧ True)) ∧ (offers_at_pre (e.1, e.2.2.1, x5))) ∧ ((True ∧ ((True ∧ True) ∧ (price_at_pre (e.2.1, x5))) ∧ True) ∧ (decide ((price_at (e.2.1, x5)) < ((offers6.map fun (x : Int × Int) => x.2).sum)) = true → ((True ∧ True) ∧ True)) ∧ (decide ((price_at (e.2.1, x5)) < ((offers6.map fun (x : Int × Int) => x.2).sum)) = false → True))
def leavers_o (z : (List (Int × (Int × Int × Int × (Option Int)))) × (List (Int × Int)) × (List (Int × Int))) : Out Unit (Option ((List Int) × (Option Int))) := (((forL leavers_b3 (srt (z.1.map fun (x : Int × (Int × Int × Int × (Option Int))) => x.1)) (z.1, z.2.1, z.2.2, (), (), (), (), ())) : Out ((List (Int × (Int × Int × Int × (Option Int)))) × (List (Int × Int)) × (List (Int × Int)) × Unit × Unit × Unit × Unit × Unit) (Option ((List Int) × (Option Int)))).bind fun e4 => (((forL leavers_b7 (spots_of (e4.1, e4.2.1)) (e4.1, e4.2.1, e4.2.2.1, (), (), (), (), ())) : Out ((List (Int × (Int × Int × Int × (Option Int)))) × (List (Int × Int)) × (List (Int × Int)) × Unit × Unit × Unit × Unit × Unit) (Option ((List Int) × (Option Int)))).bind fun e8 => .rt (none : (Option ((List Int) × (Option Int))))))
def leavers (z : (List (Int × (Int × Int × Int × (Option Int)))) × (List (Int × Int)) × (List (Int × Int))) : (Option ((List Int) × (Option Int))) := (leavers_o z).get (fun _ => default)
def leavers_pre (z : (List (Int × (Int × Int × Int × (Option Int)))) × (List (Int × Int)) × (List (Int × Int))) : Prop := ((True ∧ (z.1.length < 64)) ∧ (forP leavers_b3 leavers_b3_p (srt (z.1.map fun (x : Int × (Int × Int × Int × (Option Int))) => x.1)) (z.1, z.2.1, z.2.2, (), (), (), (), ()))) ∧ ∀ e4 : ((List (Int × (Int × Int × Int × (Option Int)))) × (List (Int × Int)) × (List (Int × Int)) × Unit × Unit × Unit × Unit × Unit), ((forL leavers_b3 (srt (z.1.map fun (x : Int × (Int × Int × Int × (Option Int))) => x.1)) (z.1, z.2.1, z.2.2, (), (), (), (), ())) : Out ((List (Int × (Int × Int × Int × (Option Int)))) × (List (Int × Int)) × (List (Int × Int)) × Unit × Unit × Unit × Unit × Unit) (Option ((List Int) × (Option Int)))) = .nx e4 → ((((True ∧ True) ∧ (spots_of_pre (e4.1, e4.2.1))) ∧ (forP leavers_b7 leavers_b7_p (spots_of (e4.1, e4.2.1)) (e4.1, e4.2.1, e4.2.2.1, (), (), (), (), ()))) ∧ ∀ e8 : ((List (Int × (Int × Int × Int × (Option Int)))) × (List (Int × Int)) × (List (Int × Int)) × Unit × Unit × Unit × Unit × Unit), ((forL leavers_b7 (spots_of (e4.1, e4.2.1)) (e4.1, e4.2.1, e4.2.2.1, (), (), (), (), ())) : Out ((List (Int × (Int × Int × Int × (Option Int)))) × (List (Int × Int)) × (List (Int × Int)) × Unit × Unit × Unit × Unit × Unit) (Option ((List Int) × (Option Int)))) = .nx e8 → True)
theorem ends_leavers (z : (List (Int × (Int × Int × Int × (Option Int)))) × (List (Int × Int)) × (List (Int × Int))) : NN (leavers_o z) := by
  unfold leavers_o
  repeat (first | with_reducible exact nn_rt | with_reducible refine nn_if ?_ ?_ | with_reducible refine nn_bind fun _ => ?_ | with_reducible refine nn_match fun _ => ?_ | dsimp only)
theorem ok_leavers (fa : Fa K mg a) : FnOk P w0 K mg base CX0 3 a.leavers a.leavers_d ["charges", "tariff", "shares"] (spP (tpc (rDict kInt (rTup (tpc rInt (tpc rInt (tpc rInt (tp1 (rOpt rInt))))))) (tpc (rList (rTup (tpc rInt (tp1 rInt)))) (tp1 (rDict kInt rInt)))) (rsF (rOpt (rTup (tpc (rList rInt) (tp1 (rOpt rInt)))))) leavers_pre leavers) := by
  have nd := sc_leavers.nd
  exact fnP2 (R1 := en) (fo := leavers_o) (fin := (fun _ => default)) fa.f_leavers sc_leavers (tp_lenc (tp_lenc tp_len1)) (st0_cons (st0_cons (st0_one (st1_un (st1_un (st1_un (st1_un st1_nil))))))) (fun cdv A outer s H Ex hr =>
  (ts_cons (t1_for (vs := [3]) (ti_list (tx_newL (tn_callB (c_sortD (by rfl)) (by rfl) fa.n_sorted rfl (ta_one (tx_var has0 (pv 0)))))) (tg_name (putS (putS (putS put0))) (putS (putS (putS put0))) (hasS (hasS (hasS has0))) (by decide) nd (by rfl) (by exact .inl rfl)) (ts_seq (tl_set (tx_call (ok_greatest_share fa) hr (by decide) (by rfl) fa.g_greatest_share fa.f_greatest_share.kp fa.b_greatest_share (ta_one (tx_dget kk_int (hu_of hr) (tx_var has0 (pv 0)) (tx_var (hasS (hasS (hasS has0))) (pv 3))))) (putS (putS (putS (putS put0)))) nd (by rfl) (by exact .inl rfl))
  (ts_ifR (TW.tq (tw_and (tq_cmp o_notN (tx_var (hasS (hasS (hasS (hasS has0)))) (pv 4)) tx_non) (TW.pu (tw_and1 (tq_cmp o_gt (tx_dget kk_int (hu_of hr) (tx_var (hasS (hasS has0)) (pv 2)) (tx_var (hasS (hasS (hasS has0))) (pv 3))) (tx_get (d := default) (tx_var (hasS (hasS (hasS (hasS has0)))) (pv 4))))) (by rfl) (by rfl)))) (ts_ret (tx_some (tx_tup (ta_cons (tx_newL (tn_list (ta_one (tx_var (hasS (hasS (hasS has0))) (pv 3))) row1)) (ta_one (tx_none (r := rInt)))) (tp_lenc tp_len1)))) (fun _ _ h => by cases h)
  (ts_gh (gh_trans (gh_un (hasS (hasS (hasS has0))) (putS (putS (putS put0)))) (gh_un (hasS (hasS (hasS (hasS has0)))) (putS (putS (putS (putS put0)))))) ts_nil))) PassesOwn.never (by rfl))
  (ts_cons (t1_for (vs := [5]) (ti_list (tx_call (ok_spots_of fa) hr (by decide) (by rfl) fa.g_spots_of fa.f_spots_of.kp fa.b_spots_of (ta_cons (tx_var has0 (pv 0)) (ta_one (tx_var (hasS has0) (pv 1)))))) (tg_name (putS (putS (putS (putS (putS put0))))) (putS (putS (putS (putS (putS put0))))) (hasS (hasS (hasS (hasS (hasS has0))))) (by decide) nd (by rfl) (by exact .inl rfl)) (ts_seq (tl_set (tx_call (ok_offers_at fa) hr (by decide) (by rfl) fa.g_offers_at fa.f_offers_at.kp fa.b_offers_at (ta_cons (tx_var has0 (pv 0)) (ta_cons (tx_var (hasS (hasS has0)) (pv 2)) (ta_one (tx_var (hasS (hasS (hasS (hasS (hasS has0))))) (pv 5)))))) (putS (putS (putS (putS (putS (putS put0)))))) nd (by rfl) (by exact .inl rfl))
  (ts_ifR (tq_cmp o_gt (tx_sumVals (by rfl) (tx_var (hasS (hasS (hasS (hasS (hasS (hasS has0)))))) (pv 6)) (by rfl) fa.n_sum) (tx_call (ok_price_at fa) hr (by decide) (by rfl) fa.g_price_at fa.f_price_at.kp fa.b_price_at (ta_cons (tx_var (hasS has0) (pv 1)) (ta_one (tx_var (hasS (hasS (hasS (hasS (hasS has0))))) (pv 5)))))) (ts_ret (tx_some (tx_tup (ta_cons (tx_newL (tn_callT (c_listD (rk := rInt) (by rfl) hk_int) (by rfl) fa.n_list rfl (ta_one (tx_var (hasS (hasS (hasS (hasS (hasS (hasS has0)))))) (pv 6))))) (ta_one (tx_some (tx_var (hasS (hasS (hasS (hasS (hasS has0))))) (pv 5))))) (tp_lenc tp_len1)))) (fun _ _ h => by cases h)
  (ts_gh (gh_trans (gh_un (hasS (hasS (hasS (hasS (hasS has0))))) (putS (putS (putS (putS (putS put0)))))) (gh_un (hasS (hasS (hasS (hasS (hasS (hasS has0)))))) (putS (putS (putS (putS (putS (putS put0)))))))) ts_nil))) PassesOwn.never (by rfl))
  (ts_ret (tx_none (r := (rTup (tpc (rList rInt) (tp1 (rOpt rInt)))))))))) (fun _ => by kernel_rfl) (fun _ => by kernel_rfl) (.inr ends_leavers)
/-! ### is_share -/
theorem sc_is_share : FnScope ["value"] ["value"] (defScope s_is_share) := ⟨rfl, rfl, rfl, by decide +kernel, rfl, by decide +kernel, by decide +kernel⟩
def is_share_o (z : Int) : Out Unit Bool := .rt (true && ((!false) && decide ((0 : Int) ≤ z)))
def is_share (z : Int) : Bool := (is_share_o z).get (fun _ => default)
def is_share_pre (z : Int) : Prop := True ∧ (true = true → (True ∧ ((!false) = true → (True ∧ True ∧ True))))
theorem ends_is_share (z : Int) : NN (is_share_o z) := by
  unfold is_share_o
  repeat (first | with_reducible exact nn_rt | with_reducible refine nn_if ?_ ?_ | with_reducible refine nn_bind fun _ => ?_ | with_reducible refine nn_match fun _ => ?_ | dsimp only)
theorem ok_is_share (fa : Fa K mg a) : FnOk P w0 K mg base CX0 1 a.is_share a.is_share_d ["value"] (spP (tp1 rInt) (rsF rBool) is_share_pre is_share) := by
  have nd := sc_is_share.nd
  exact fnP2 (R1 := en) (fo := is_share_o) (fin := (fun _ => default)) fa.f_is_share sc_is_share tp_len1 (st0_one st1_nil) (fun cdv A outer s H Ex hr =>
  (ts_ret (tx_and (tx_isi (b := true) (tx_var has0 (pv 0)) (by rfl) fa.n_int rfl (by decide +kernel) (by rfl) fa.n_isinstance) (TX.pu (tx_and (tx_not (tx_isi (b := false) (tx_var has0 (pv 0)) (by rfl) fa.n_bool rfl (by decide +kernel) (by rfl) fa.n_isinstance)) (TX.pu (tx_one (tx_cmp o_ge (tx_var has0 (pv 0)) tx_int)) (by rfl) (by rfl))) (by rfl) (by rfl))))) (fun _ => by kernel_rfl) (fun _ => by kernel_rfl) (.inr ends_is_share)
/-! ### are_formed -/
theorem sc_are_formed : FnScope ["charges", "value", "row_id", "share"] ["charges", "value"] (defScope s_are_formed) := ⟨rfl, rfl, rfl, by decide +kernel, rfl, by decide +kernel, by decide +kernel⟩
def are_formed_o (z : (List (Int × (Int × Int × Int × (Option Int)))) × (List (Int × Int))) : Out Unit Bool := (if ((!true) || (!decide ((z.2.length : Int) = (z.1.length : Int)))) = true then (.rt false) else .rt ((z.2.map fun (x1 : (Int × Int)) => ((is_id x1.1) && ((dget z.1 x1.1).isSome && (is_share x1.2)))).all id))
def are_formed (z : (List (Int × (Int × Int × Int × (Option Int)))) × (List (Int × Int))) : Bool := (are_formed_o z).get (fun _ => default)
def are_formed_pre (z : (List (Int × (Int × Int × Int × (Option Int)))) × (List (Int × Int))) : Prop := (True ∧ ((!true) = false → ((True ∧ True) ∧ (True ∧ True) ∧ True))) ∧ (((!true) || (!decide ((z.2.length : Int) = (z.1.length : Int)))) = true → True) ∧ (((!true) || (!decide ((z.2.length : Int) = (z.1.length : Int)))) = false → ((True ∧ (∀ x1 ∈ z.2, (True ∧ (is_id_pre x1.1)) ∧ ((is_id x1.1) = true → ((True ∧ True) ∧ ((dget z.1 x1.1).isSome = true → (True ∧ (is_share_pre x1.2))))))) ∧ True))
theorem ends_are_formed (z : (List (Int × (Int × Int × Int × (Option Int)))) × (List (Int × Int))) : NN (are_formed_o z) := by
  unfold are_formed_o
  repeat (first | with_reducible exact nn_rt | with_reducible refine nn_if ?_ ?_ | with_reducible refine nn_bind fun _ => ?_ | with_reducible refine nn_match fun _ => ?_ | dsimp only)
theorem ok_are_formed (fa : Fa K mg a) : FnOk P w0 K mg base CX0 3 a.are_formed a.are_formed_d ["charges", "value"] (spP (tpc (rDict kInt (rTup (tpc rInt (tpc rInt (tpc rInt (tp1 (rOpt rInt))))))) (tp1 (rDict kInt rInt))) (rsF rBool) are_formed_pre are_formed) := by
  have nd := sc_are_formed.nd
  exact fnP2 (R1 := en) (fo := are_formed_o) (fin := (fun _ => default)) fa.f_are_formed sc_are_formed (tp_lenc tp_len1) (st0_cons (st0_one (st1_un (st1_un st1_nil)))) (fun cdv A outer s H Ex hr =>
  (ts_ifR (TW.tq (tw_or (tq_not (tq_val (tx_isi (b := true) (tx_var (hasS has0) (pv 1)) (by rfl) fa.n_dict rfl (by decide +kernel) (by rfl) fa.n_isinstance))) (TW.pu (tw_or1 (tq_cmp o_ne (tx_callB c_lenD (by rfl) fa.n_len PySem.boot_len (ta_one (tx_var (hasS has0) (pv 1)))) (tx_callB c_lenD (by rfl) fa.n_len PySem.boot_len (ta_one (tx_var has0 (pv 0)))))) (by rfl) (by rfl)))) (ts_ret tx_bl) (fun _ _ h => by cases h)
  (ts_ret (tx_callB (c_all (by rfl)) (by rfl) fa.n_all rfl (ta_one (tx_newL (tn_lc (lcM (own := [("row_id", 2), ("share", 3)]) (ti_items (tx_var (hasS has0) (pv 1)) rInt hk_int) (m := [false, false, true, true]) (ins_keep (ins_keep (ins_un (ins_un ins_nil)))) (by decide) (fun _ _ _ _ _ => (tg_tup (tgs_cons (tg_name (putS (putS put0)) (putS (putS put0)) (hasS (hasS has0)) (by decide) nd (by rfl) (by first | exact .inl rfl | exact .inr rfl)) (tgs_one (tg_name (putS (putS (putS put0))) (putS (putS (putS put0))) (hasS (hasS (hasS has0))) (by decide) nd (by rfl) (by first | exact .inl rfl | exact .inr rfl)))) (by rfl) (tp_lenc tp_len1))) (by intros; rfl) (fun _ _ _ _ _ => (TX.pu (tx_and (tx_call (ok_is_id fa) hr (by decide) (by rfl) fa.g_is_id fa.f_is_id.kp fa.b_is_id (ta_one (tx_var (hasS (hasS has0)) (pv 2)))) (TX.pu (tx_and (tx_din kk_int (hu_of hr) (tx_var (hasS (hasS has0)) (pv 2)) (tx_var has0 (pv 0))) (TX.pu (tx_one (tx_call (ok_is_share fa) hr (by decide) (by rfl) fa.g_is_share fa.f_is_share.kp fa.b_is_share (ta_one (tx_var (hasS (hasS (hasS has0))) (pv 3))))) (by rfl) (by rfl))) (by rfl) (by rfl))) (by rfl) (by rfl)))) (by rfl) nd (by kernel_rfl)))))))) (fun _ => by kernel_rfl) (fun _ => by kernel_rfl) (.inr ends_are_formed)
/-! ### are_right -/
theorem sc_are_right : FnScope ["charges", "tariff", "value"] ["charges", "tariff", "value"] (defScope s_are_right) := ⟨rfl, rfl, rfl, by decide +kernel, rfl, by decide +kernel, by decide +kernel⟩
def are_right_o (z : (List (Int × (Int × Int × Int × (Option Int)))) × (List (Int × Int)) × (List (Int × Int))) : Out Unit Bool := .rt ((are_formed (z.1, z.2.2)) && (leavers (z.1, z.2.1, z.2.2)).isNone)
def are_right (z : (List (Int × (Int × Int × Int × (Option Int)))) × (List (Int × Int)) × (List (Int × Int))) : Bool := (are_right_o z).get (fun _ => default)
def are_right_pre (z : (List (Int × (Int × Int × Int × (Option Int)))) × (List (Int × Int)) × (List (Int × Int))) : Prop := ((True ∧ True) ∧ (are_formed_pre (z.1, z.2.2))) ∧ ((are_formed (z.1, z.2.2)) = true → (((True ∧ (True ∧ True)) ∧ (leavers_pre (z.1, z.2.1, z.2.2))) ∧ True ∧ True))
theorem ends_are_right (z : (List (Int × (Int × Int × Int × (Option Int)))) × (List (Int × Int)) × (List (Int × Int))) : NN (are_right_o z) := by
  unfold are_right_o
  repeat (first | with_reducible exact nn_rt | with_reducible refine nn_if ?_ ?_ | with_reducible refine nn_bind fun _ => ?_ | with_reducible refine nn_match fun _ => ?_ | dsimp only)
theorem ok_are_right (fa : Fa K mg a) : FnOk P w0 K mg base CX0 4 a.are_right a.are_right_d ["charges", "tariff", "value"] (spP (tpc (rDict kInt (rTup (tpc rInt (tpc rInt (tpc rInt (tp1 (rOpt rInt))))))) (tpc (rList (rTup (tpc rInt (tp1 rInt)))) (tp1 (rDict kInt rInt)))) (rsF rBool) are_right_pre are_right) := by
  have nd := sc_are_right.nd
  exact fnP2 (R1 := en) (fo := are_right_o) (fin := (fun _ => default)) fa.f_are_right sc_are_right (tp_lenc (tp_lenc tp_len1)) (st0_cons (st0_cons (st0_one st1_nil))) (fun cdv A outer s H Ex hr =>
  (ts_ret (tx_and (tx_call (ok_are_formed fa) hr (by decide) (by rfl) fa.g_are_formed fa.f_are_formed.kp fa.b_are_formed (ta_cons (tx_var has0 (pv 0)) (ta_one (tx_var (hasS (hasS has0)) (pv 2))))) (TX.pu (tx_one (tx_cmp o_isN (tx_call (ok_leavers fa) hr (by decide) (by rfl) fa.g_leavers fa.f_leavers.kp fa.b_leavers (ta_cons (tx_var has0 (pv 0)) (ta_cons (tx_var (hasS has0) (pv 1)) (ta_one (tx_var (hasS (hasS has0)) (pv 2)))))) tx_non)) (by rfl) (by rfl))))) (fun _ => by kernel_rfl) (fun _ => by kernel_rfl) (.inr ends_are_right)
/-! ### Raising.spots_for -/
theorem sc_Raising_spots_for : FnScope ["self", "row_id", "moment", "spot"] ["self", "row_id", "moment"] (defScope s_Raising_spots_for) := ⟨rfl, rfl, rfl, by decide +kernel, rfl, by decide +kernel, by decide +kernel⟩
def Raising_spots_for_o (s : Raising_F) (z : Int × Int) : Out Unit ((List Int) × Raising_F) := .rt ((((s.2.1.map fun (x : Int × Int) => x.1).filter fun (x1 : Int) => (decide ((((dget s.1 z.1).getD default).1) ≤ x1) && decide (x1 ≤ z.2))).map fun (x1 : Int) => x1), s)
def Raising_spots_for (s : Raising_F) (z : Int × Int) : ((List Int) × Raising_F) := (Raising_spots_for_o s z).get (fun _ => default)
def Raising_spots_for_pre (s : Raising_F) (z : Int × Int) : Prop := True ∧ (∀ x1 ∈ (s.2.1.map fun (x : Int × Int) => x.1), ((True ∧ True ∧ ((dget s.1 z.1).isSome = true)) ∧ True ∧ True ∧ (decide ((((dget s.1 z.1).getD default).1) ≤ x1) = true → True ∧ True)) ∧ ((decide ((((dget s.1 z.1).getD default).1) ≤ x1) && decide (x1 ≤ z.2)) = true → True))
theorem ends_Raising_spots_for (s : Raising_F) (z : Int × Int) : NN (Raising_spots_for_o s z) := by
  unfold Raising_spots_for_o
  repeat (first | with_reducible exact nn_rt | with_reducible refine nn_if ?_ ?_ | with_reducible refine nn_bind fun _ => ?_ | with_reducible refine nn_match fun _ => ?_ | dsimp only)
theorem ok_Raising_spots_for (fa : Fa K mg a) : FnOk P w0 K mg base CX0 1 a.Raising_spots_for a.Raising_spots_for_d ["self", "row_id", "moment"] (spM (Raising_S a) (Raising_S a) (tpc rInt (tp1 rInt)) (rsF (rList rInt)) Raising_spots_for_pre Raising_spots_for) := by
  have nd := sc_Raising_spots_for.nd
  exact fnM2 (R1 := (fun _ => en)) (fo := Raising_spots_for_o) (fin := (fun _ => default)) fa.f_Raising_spots_for sc_Raising_spots_for (fun _ _ _ h => congrArg (· + 1) ((tp_lenc tp_len1) _ _ _ h)) (st0_cons (st0_one (st1_un st1_nil))) (by decide) (fun v0 cdv A outer s H Ex hr =>
  (ts_retM (tx_newL (tn_lock (lkH (lk_pin (lk_ob (lkS lk0)))) (tn_lc (lcF (own := [("spot", 3)]) (ti_keysO (tl_fld (tl_slot has0p (pv 0)) (hasS has0) (by rfl) fa.c_Raising fa.na_Raising_room) rInt hk_int) (m := [false, false, false, true]) (ins_keep (ins_keep (ins_keep (ins_un ins_nil)))) (by decide) (fun _ _ _ _ _ => (tg_name (putS (putS (putS put0))) (putS (putS (putS put0))) (hasS (hasS (hasS has0))) (by decide) nd (by rfl) (by first | exact .inl rfl | exact .inr rfl))) (by intros; rfl) (fun _ _ _ _ _ => (tps_one (TQ.pu (tq_chain o_le o_le (tx_ixT (tx_dget kk_int (hu_of hr) (tx_at (tl_fld (tl_slot has0p (pv 0)) has0 (by rfl) fa.c_Raising fa.na_Raising_lots)) (tx_var (hasS has0) (pv 1))) (atc (tp_lenc (tp_lenc tp_len1)))) (TX.pu (tx_var (hasS (hasS (hasS has0))) (pv 3)) (by rfl) (by rfl)) (TX.pu (tx_var (hasS (hasS has0)) (pv 2)) (by rfl) (by rfl))) (by rfl) (by rfl)))) (fun _ _ _ _ _ => (TX.pu (tx_var (hasS (hasS (hasS has0))) (pv 3)) (by rfl) (by rfl)))) (by rfl) nd (by kernel_rfl)))) has0)) (fun _ _ => by kernel_rfl) (fun _ _ => by kernel_rfl) (.inr ends_Raising_spots_for)
/-! ### Raising.add -/
theorem sc_Raising_add : FnScope ["self", "row_id", "moment", "part", "spot"] ["self", "row_id", "moment", "part"] (defScope s_Raising_add) := ⟨rfl, rfl, rfl, by decide +kernel, rfl, by decide +kernel, by decide +kernel⟩
def Raising_add_b5 (e : (Raising_F × Int × Int × Int × Unit × Unit)) (x3 : Int) : Out (Raising_F × Int × Int × Int × Unit × Unit) (Unit × Raising_F) := let d4 := dput e.1.2.1 x3 ((dget e.1.2.1 x3).getD default - e.2.2.2.1); .nx ((e.1.1, d4, e.1.2.2.1, e.1.2.2.2.1, e.1.2.2.2.2.1, e.1.2.2.2.2.2), e.2.1, e.2.2.1, e.2.2.2.1, (), ())
def Raising_add_b5_p (e : (Raising_F × Int × Int × Int × Unit × Unit)) (x3 : Int) : Prop := let d4 := dput e.1.2.1 x3 ((dget e.1.2.1 x3).getD default - e.2.2.2.1); (True ∧ True ∧ ((dget e.1.2.1 x3).isSome = true)) ∧ True
def Raising_add_o (s : Raising_F) (z : Int × Int × Int) : Out (Raising_F × Int × Int × Int × Unit × Unit) (Unit × Raising_F) := let d1 := dput s.2.2.1 z.1 ((dget s.2.2.1 z.1).getD default + z.2.2); let r2 := Raising_spots_for (s.1, s.2.1, d1, s.2.2.2.1, s.2.2.2.2.1, s.2.2.2.2.2) (z.1, z.2.1); (forL Raising_add_b5 r2.1 (r2.2, z.1, z.2.1, z.2.2, (), ()))
def Raising_add (s : Raising_F) (z : Int × Int × Int) : (Unit × Raising_F) := (Raising_add_o s z).get (fun e => ((), e.1))
def Raising_add_pre (s : Raising_F) (z : Int × Int × Int) : Prop := let d1 := dput s.2.2.1 z.1 ((dget s.2.2.1 z.1).getD default + z.2.2); (True ∧ True ∧ ((dget s.2.2.1 z.1).isSome = true)) ∧ (let r2 := Raising_spots_for (s.1, s.2.1, d1, s.2.2.2.1, s.2.2.2.2.1, s.2.2.2.2.2) (z.1, z.2.1); ((True ∧ True) ∧ (Raising_spots_for_pre (s.1, s.2.1, d1, s.2.2.2.1, s.2.2.2.2.1, s.2.2.2.2.2) (z.1, z.2.1))) ∧ (forP Raising_add_b5 Raising_add_b5_p r2.1 (r2.2, z.1, z.2.1, z.2.2, (), ())))
theorem ok_Raising_add (fa : Fa K mg a) : FnOk P w0 K mg base CX0 2 a.Raising_add a.Raising_add_d ["self", "row_id", "moment", "part"] (spM (Raising_S a) (Raising_S a) (tpc rInt (tpc rInt (tp1 rInt))) rsN Raising_add_pre Raising_add) := by
  have nd := sc_Raising_add.nd
  exact fnM2 (R1 := (fun v0 => (ec (pin v0 (Raising_S a)) (ec (fr rInt) (ec (fr rInt) (ec (fr rInt) (ec un en))))))) (fo := Raising_add_o) (fin := (fun e => ((), e.1))) fa.f_Raising_add sc_Raising_add (fun _ _ _ h => congrArg (· + 1) ((tp_lenc (tp_lenc tp_len1)) _ _ _ h)) (st0_cons (st0_cons (st0_one (st1_un st1_nil)))) (by decide) (fun v0 cdv A outer s H Ex hr =>
  (ts_seq (tl_daug (tl_fld (tl_slot has0p (pv 0)) (hasS (hasS has0)) (by rfl) fa.c_Raising fa.na_Raising_held) ip_add kk_int (hu_of hr) (TX.pu (tx_var (hasS (hasS (hasS has0))) (pv 3)) (by rfl) (by rfl)) (TX.pu (tx_var (hasS has0) (pv 1)) (by rfl) (by rfl)))
  (ts_one (t1_for (vs := [4]) (ti_list (tx_meth (tl_slot has0p (pv 0)) (ok_Raising_spots_for fa) hr (by decide) fa.c_Raising fa.me_Raising_spots_for (by decide +kernel) fa.b_Raising_spots_for (ta_cons (tx_var (hasS has0) (pv 1)) (ta_one (tx_var (hasS (hasS has0)) (pv 2)))) (.inl rfl))) (tg_name (putS (putS (putS (putS put0)))) (putS (putS (putS (putS put0)))) (hasS (hasS (hasS (hasS has0)))) (by decide) nd (by rfl) (by exact .inl rfl)) (ts_seq (tl_daug (tl_fld (tl_slot has0p (pv 0)) (hasS has0) (by rfl) fa.c_Raising fa.na_Raising_room) ip_sub kk_int (hu_of hr) (TX.pu (tx_var (hasS (hasS (hasS has0))) (pv 3)) (by rfl) (by rfl)) (TX.pu (tx_var (hasS (hasS (hasS (hasS has0)))) (pv 4)) (by rfl) (by rfl)))
  (ts_gh (gh_un (hasS (hasS (hasS (hasS has0)))) (putS (putS (putS (putS put0))))) ts_nil)) PassesOwn.never (by rfl))))) (fun _ _ => by kernel_rfl) (fun _ _ => by kernel_rfl) (.inl fun v0 => fin_none has0)
/-! ### Raising.stop -/
theorem sc_Raising_stop : FnScope ["self", "row_id", "moment", "is_short", "spot", "full"] ["self", "row_id", "moment", "is_short"] (defScope s_Raising_stop) := ⟨rfl, rfl, rfl, by decide +kernel, rfl, by decide +kernel, by decide +kernel⟩
def Raising_stop_o (s : Raising_F) (z : Int × Int × Bool) : Out (Raising_F × Int × Int × Bool × Unit × Unit × Unit) (Unit × Raising_F) := let l1 := s.2.2.2.1.erase z.1; (if z.2.2 = true then (let r2 := Raising_spots_for (s.1, s.2.1, s.2.2.1, l1, s.2.2.2.2.1, s.2.2.2.2.2) (z.1, z.2.1); let full4 := ((r2.1.filter fun (x3 : Int) => decide (((dget r2.2.2.1 x3).getD default) = (0 : Int))).map fun (x3 : Int) => x3); let l5 := r2.2.2.2.2.2.1 ++ [(z.2.1, z.1, (lmax full4))]; .nx ((r2.2.1, r2.2.2.1, r2.2.2.2.1, r2.2.2.2.2.1, l5, r2.2.2.2.2.2.2), z.1, z.2.1, z.2.2, (), (), ())) else (.nx ((s.1, s.2.1, s.2.2.1, l1, s.2.2.2.2.1, s.2.2.2.2.2), z.1, z.2.1, z.2.2, (), (), ())))
def Raising_stop (s : Raising_F) (z : Int × Int × Bool) : (Unit × Raising_F) := (Raising_stop_o s z).get (fun e => ((), e.1))
def Raising_stop_pre (s : Raising_F) (z : Int × Int × Bool) : Prop := let l1 := s.2.2.2.1.erase z.1; (True ∧ (z.1 ∈ s.2.2.2.1)) ∧ (True ∧ (z.2.2 = true → (let r2 := Raising_spots_for (s.1, s.2.1, s.2.2.1, l1, s.2.2.2.2.1, s.2.2.2.2.2) (z.1, z.2.1); let full4 := ((r2.1.filter fun (x3 : Int) => decide (((dget r2.2.2.1 x3).getD default) = (0 : Int))).map fun (x3 : Int) => x3); (((True ∧ True) ∧ (Raising_spots_for_pre (s.1, s.2.1, s.2.2.1, l1, s.2.2.2.2.1, s.2.2.2.2.2) (z.1, z.2.1))) ∧ (∀ x3 ∈ r2.1, ((True ∧ ((dget r2.2.2.1 x3).isSome = true)) ∧ True ∧ True) ∧ (decide (((dget r2.2.2.1 x3).getD default) = (0 : Int)) = true → True))) ∧ (let l5 := r2.2.2.2.2.2.1 ++ [(z.2.1, z.1, (lmax full4))]; ((True ∧ (True ∧ (True ∧ (full4 ≠ [])))) ∧ (r2.2.2.2.2.2.1.length < LIM)) ∧ True))) ∧ (z.2.2 = false → True))
theorem ok_Raising_stop (fa : Fa K mg a) : FnOk P w0 K mg base CX0 2 a.Raising_stop a.Raising_stop_d ["self", "row_id", "moment", "is_short"] (spM (Raising_S a) (Raising_S a) (tpc rInt (tpc rInt (tp1 rBool))) rsN Raising_stop_pre Raising_stop) := by
  have nd := sc_Raising_stop.nd
  exact fnM2 (R1 := (fun v0 => (ec (pin v0 (Raising_S a)) (ec (fr rInt) (ec (fr rInt) (ec (fr rBool) (ec un (ec un en)))))))) (fo := Raising_stop_o) (fin := (fun e => ((), e.1))) fa.f_Raising_stop sc_Raising_stop (fun _ _ _ h => congrArg (· + 1) ((tp_lenc (tp_lenc tp_len1)) _ _ _ h)) (st0_cons (st0_cons (st0_one (st1_un (st1_un st1_nil))))) (by decide) (fun v0 cdv A outer s H Ex hr =>
  (ts_seq (tl_remove (by rfl) (tl_fld (tl_slot has0p (pv 0)) (hasS (hasS (hasS has0))) (by rfl) fa.c_Raising fa.na_Raising_going) (TX.pu (tx_var (hasS has0) (pv 1)) (by rfl) (by rfl)))
  (ts_one (t1_if (tq_val (tx_var (hasS (hasS (hasS has0))) (pv 3))) (ts_seq (tl_setLcF (lcF (own := [("spot", 4)]) (ti_list (tx_meth (tl_slot has0p (pv 0)) (ok_Raising_spots_for fa) hr (by decide) fa.c_Raising fa.me_Raising_spots_for (by decide +kernel) fa.b_Raising_spots_for (ta_cons (tx_var (hasS has0) (pv 1)) (ta_one (tx_var (hasS (hasS has0)) (pv 2)))) (.inl rfl))) (m := [false, false, false, false, true, false]) (ins_keep (ins_keep (ins_keep (ins_keep (ins_un (ins_keep ins_nil)))))) (by decide) (fun _ _ _ _ _ => (tg_name (putS (putS (putS (putS put0)))) (putS (putS (putS (putS put0)))) (hasS (hasS (hasS (hasS has0)))) (by decide) nd (by rfl) (by first | exact .inl rfl | exact .inr rfl))) (by intros; rfl) (fun _ _ _ _ _ => (tps_one (TQ.pu (tq_cmp o_eq (tx_dgetAt kk_int (hu_of hr) (tl_fld (tl_slot has0p (pv 0)) (hasS has0) (by rfl) fa.c_Raising fa.na_Raising_room) (tx_var (hasS (hasS (hasS (hasS has0)))) (pv 4)) (.inl rfl)) tx_int) (by rfl) (by rfl)))) (fun _ _ _ _ _ => (TX.pu (tx_var (hasS (hasS (hasS (hasS has0)))) (pv 4)) (by rfl) (by rfl)))) (putS (putS (putS (putS (putS put0))))) (by rfl) nd (by rfl) (by rfl) (by rfl) (by rfl) (by rfl) (by kernel_rfl))
  (ts_seq (tl_appendT (tl_fld (tl_slot has0p (pv 0)) (hasS (hasS (hasS (hasS has0)))) (by rfl) fa.c_Raising fa.na_Raising_stops) (ta_one (tx_tup (ta_cons (tx_var (hasS (hasS has0)) (pv 2)) (ta_cons (tx_var (hasS has0) (pv 1)) (ta_one (tx_callB (c_maxL (by rfl)) (by rfl) fa.n_max rfl (ta_one (tx_var (hasS (hasS (hasS (hasS (hasS has0))))) (pv 5))))))) (tp_lenc (tp_lenc tp_len1)))) (.inl rfl) (fun _ _ h1 h2 => pe_bm PySem.F.plainAttrs_list PySem.F.slot_list_append PySem.F.type_list_append mt_append h1 h2))
  (ts_gh (gh_un (hasS (hasS (hasS (hasS (hasS has0))))) (putS (putS (putS (putS (putS put0)))))) ts_nil))) ts_nil)))) (fun _ _ => by kernel_rfl) (fun _ _ => by kernel_rfl) (.inl fun v0 => fin_none has0)
/-! ### Raising.raise_at -/
theorem sc_Raising_raise_at : FnScope ["self", "moment", "row_id", "begin", "end", "wait", "fine", "most", "spot", "left", "part", "is_short"] ["self", "moment"] (defScope s_Raising_raise_at) := ⟨rfl, rfl, rfl, by decide +kernel, rfl, by decide +kernel, by decide +kernel⟩
def Raising_raise_at_b12 (e : (Raising_F × Int × Unit × Unit × Unit × Unit × Unit × Unit × Unit × Unit × Unit × Unit × Unit)) (x2 : Int) : Out (Raising_F × Int × Unit × Unit × Unit × Unit × Unit × Unit × Unit × Unit × Unit × Unit × Unit) (Unit × Raising_F) := let u3 := ((dget e.1.1 x2).getD default); let most4 := (if decide (e.2.1 < u3.2.1) = true then (some u3.2.2.1) else u3.2.2.2); let r5 := Raising_spots_for e.1 (x2, e.2.1); let left7 := (lmin (r5.1.map fun (x6 : Int) => ((dget r5.2.2.1 x6).getD default))); let part8 := (if most4.isNone = true then left7 else (min2 left7 (most4.getD default))); let r9 := Raising_add r5.2 (x2, e.2.1, part8); let is_short10 := (most4.isNone || decide (part8 < (most4.getD default))); (if (is_short10 || decide (e.2.1 = u3.2.1)) = true then (let r11 := Raising_stop r9.2 (x2, e.2.1, is_short10); .nx (r11.2, e.2.1, (), (), (), (), (), (), (), (), (), (), ())) else (.nx (r9.2, e.2.1, (), (), (), (), (), (), (), (), (), (), ())))
def Raising_raise_at_b12_p (e : (Raising_F × Int × Unit × Unit × Unit × Unit × Unit × Unit × Unit × Unit × Unit × Unit × Unit)) (x2 : Int) : Prop := let u3 := ((dget e.1.1 x2).getD default); (True ∧ True ∧ ((dget e.1.1 x2).isSome = true)) ∧ (let most4 := (if decide (e.2.1 < u3.2.1) = true then (some u3.2.2.1) else u3.2.2.2); ((True ∧ True ∧ True) ∧ (decide (e.2.1 < u3.2.1) = true → True) ∧ (decide (e.2.1 < u3.2.1) = false → True)) ∧ (let r5 := Raising_spots_for e.1 (x2, e.2.1); let left7 := (lmin (r5.1.map fun (x6 : Int) => ((dget r5.2.2.1 x6).getD default))); ((((True ∧ True) ∧ (Raising_spots_for_pre e.1 (x2, e.2.1))) ∧ (∀ x6 ∈ r5.1, True ∧ ((dget r5.2.2.1 x6).isSome = true))) ∧ ((r5.1.map fun (x6 : Int) => ((dget r5.2.2.1 x6).getD default)) ≠ [])) ∧ (let part8 := (if most4.isNone = true then left7 else (min2 left7 (most4.getD default))); ((True ∧ True ∧ True) ∧ (most4.isNone = true → True) ∧ (most4.isNone = false → ((True ∧ (True ∧ (most4.isSome = true))) ∧ True))) ∧ (let r9 := Raising_add r5.2 (x2, e.2.1, part8); ((True ∧ (True ∧ True)) ∧ (Raising_add_pre r5.2 (x2, e.2.1, part8))) ∧ (let is_short10 := (most4.isNone || decide (part8 < (most4.getD default))); ((True ∧ True ∧ True) ∧ (most4.isNone = false → (True ∧ (True ∧ (most4.isSome = true)) ∧ True))) ∧ ((True ∧ (is_short10 = false → (True ∧ True ∧ True))) ∧ ((is_short10 || decide (e.2.1 = u3.2.1)) = true → (let r11 := Raising_stop r9.2 (x2, e.2.1, is_short10); ((True ∧ (True ∧ True)) ∧ (Raising_stop_pre r9.2 (x2, e.2.1, is_short10))) ∧ True)) ∧ ((is_short10 || decide (e.2.1 = u3.2.1)) = false → True)))))))
def Raising_raise_at_o (s : Raising_F) (z : Int) : Out (Raising_F × Int × Unit × Unit × Unit × Unit × Unit × Unit × Unit × Unit × Unit × Unit × Unit) (Unit × Raising_F) := (forL Raising_raise_at_b12 ((s.2.2.2.1.filter fun (x1 : Int) => decide ((((dget s.1 x1).getD default).1) ≤ z)).map fun (x1 : Int) => x1) (s, z, (), (), (), (), (), (), (), (), (), (), ()))
def Raising_raise_at (s : Raising_F) (z : Int) : (Unit × Raising_F) := (Raising_raise_at_o s z).get (fun e => ((), e.1))
def Raising_raise_at_pre (s : Raising_F) (z : Int) : Prop := (True ∧ (∀ x1 ∈ s.2.2.2.1, ((True ∧ True ∧ ((dget s.1 x1).isSome = true)) ∧ True ∧ True) ∧ (decide ((((dget s.1 x1).getD default).1) ≤ z) = true → True))) ∧ (forP Raising_raise_at_b12 Raising_raise_at_b12_p ((s.2.2.2.1.filter fun (x1 : Int) => decide ((((dget s.1 x1).getD default).1) ≤ z)).map fun (x1 : Int) => x1) (s, z, (), (), (), (), (), (), (), (), (), (), ()))
theorem ok_Raising_raise_at (fa : Fa K mg a) : FnOk P w0 K mg base CX0 3 a.Raising_raise_at a.Raising_raise_at_d ["self", "moment"] (spM (Raising_S a) (Raising_S a) (tp1 rInt) rsN Raising_raise_at_pre Raising_raise_at) := by
  have nd := sc_Raising_raise_at.nd
  exact fnM2 (R1 := (fun v0 => (ec (pin v0 (Raising_S a)) (ec (fr rInt) (ec un (ec un (ec un (ec un (ec un (ec un (ec un (ec un (ec un (ec un en)))))))))))))) (fo := Raising_raise_at_o) (fin := (fun e => ((), e.1))) fa.f_Raising_raise_at sc_Raising_raise_at (fun _ _ _ h => congrArg (· + 1) (tp_len1 _ _ _ h)) (st0_one (st1_un (st1_un (st1_un (st1_un (st1_un (st1_un (st1_un (st1_un (st1_un (st1_un st1_nil))))))))))) (by decide) (fun v0 cdv A outer s H Ex hr =>
  (ts_one (t1_for (vs := [2]) (ti_list (tx_newL (tn_lc (lcF (own := [("row_id", 2)]) (ti_list (tx_atL (tl_fld (tl_slot has0p (pv 0)) (hasS (hasS (hasS has0))) (by rfl) fa.c_Raising fa.na_Raising_going))) (m := [false, false, true, false, false, false, false, false, false, false, false, false]) (ins_keep (ins_keep (ins_un (ins_keep (ins_keep (ins_keep (ins_keep (ins_keep (ins_keep (ins_keep (ins_keep (ins_keep ins_nil)))))))))))) (by decide) (fun _ _ _ _ _ => (tg_name (putS (putS put0)) (putS (putS put0)) (hasS (hasS has0)) (by decide) nd (by rfl) (by first | exact .inl rfl | exact .inr rfl))) (by intros; rfl) (fun _ _ _ _ _ => (tps_one (TQ.pu (tq_cmp o_le (tx_ixT (tx_dget kk_int (hu_of hr) (tx_at (tl_fld (tl_slot has0p (pv 0)) has0 (by rfl) fa.c_Raising fa.na_Raising_lots)) (tx_var (hasS (hasS has0)) (pv 2))) (atc (tp_lenc (tp_lenc tp_len1)))) (tx_var (hasS has0) (pv 1))) (by rfl) (by rfl)))) (fun _ _ _ _ _ => (TX.pu (tx_var (hasS (hasS has0)) (pv 2)) (by rfl) (by rfl)))) (by rfl) nd (by kernel_rfl)))) (tg_name (putS (putS put0)) (putS (putS put0)) (hasS (hasS has0)) (by decide) nd (by rfl) (by exact .inl rfl)) (ts_seq (tl_unpack (vs := [3, 4, 5, 6]) (tx_dget kk_int (hu_of hr) (tx_at (tl_fld (tl_slot has0p (pv 0)) has0 (by rfl) fa.c_Raising fa.na_Raising_lots)) (tx_var (hasS (hasS has0)) (pv 2))) (tg_tup (tgs_cons (tg_name (putS (putS (putS put0))) (putS (putS (putS put0))) (hasS (hasS (hasS has0))) (by decide) nd (by rfl) (by exact .inl rfl)) (tgs_cons (tg_name (putS (putS (putS (putS put0)))) (putS (putS (putS (putS put0)))) (hasS (hasS (hasS (hasS has0)))) (by decide) nd (by rfl) (by exact .inl rfl)) (tgs_cons (tg_name (putS (putS (putS (putS (putS put0))))) (putS (putS (putS (putS (putS put0))))) (hasS (hasS (hasS (hasS (hasS has0))))) (by decide) nd (by rfl) (by exact .inl rfl)) (tgs_one (tg_name (putS (putS (putS (putS (putS (putS put0)))))) (putS (putS (putS (putS (putS (putS put0)))))) (hasS (hasS (hasS (hasS (hasS (hasS has0)))))) (by decide) nd (by rfl) (by exact .inl rfl)))))) (by rfl) (tp_lenc (tp_lenc (tp_lenc tp_len1)))))
  (ts_seq (tl_set (tx_if (tq_cmp o_lt (tx_var (hasS has0) (pv 1)) (tx_var (hasS (hasS (hasS (hasS has0)))) (pv 4))) (TX.pu (tx_some (tx_var (hasS (hasS (hasS (hasS (hasS has0))))) (pv 5))) (by rfl) (by rfl)) (TX.pu (tx_var (hasS (hasS (hasS (hasS (hasS (hasS has0)))))) (pv 6)) (by rfl) (by rfl))) (putS (putS (putS (putS (putS (putS (putS put0))))))) nd (by rfl) (by exact .inl rfl))
  (ts_seq (tl_set (tx_callB (c_minL (by rfl)) (by rfl) fa.n_min rfl (ta_one (tx_newL (tn_lc (lcM (own := [("spot", 8)]) (ti_list (tx_meth (tl_slot has0p (pv 0)) (ok_Raising_spots_for fa) hr (by decide) fa.c_Raising fa.me_Raising_spots_for (by decide +kernel) fa.b_Raising_spots_for (ta_cons (tx_var (hasS (hasS has0)) (pv 2)) (ta_one (tx_var (hasS has0) (pv 1)))) (.inl rfl))) (m := [false, false, false, false, false, false, false, false, true, false, false, false]) (ins_keep (ins_keep (ins_keep (ins_keep (ins_keep (ins_keep (ins_keep (ins_keep (ins_un (ins_keep (ins_keep (ins_keep ins_nil)))))))))))) (by decide) (fun _ _ _ _ _ => (tg_name (putS (putS (putS (putS (putS (putS (putS (putS put0)))))))) (putS (putS (putS (putS (putS (putS (putS (putS put0)))))))) (hasS (hasS (hasS (hasS (hasS (hasS (hasS (hasS has0)))))))) (by decide) nd (by rfl) (by first | exact .inl rfl | exact .inr rfl))) (by intros; rfl) (fun _ _ _ _ _ => (TX.pu (tx_dgetAt kk_int (hu_of hr) (tl_fld (tl_slot has0p (pv 0)) (hasS has0) (by rfl) fa.c_Raising fa.na_Raising_room) (tx_var (hasS (hasS (hasS (hasS (hasS (hasS (hasS (hasS has0)))))))) (pv 8)) (.inl rfl)) (by rfl) (by rfl)))) (by rfl) nd (by kernel_rfl))))) (putS (putS (putS (putS (putS (putS (putS (putS (putS put0))))))))) nd (by rfl) (by exact .inl rfl))
  (ts_seq (tl_set (tx_if (tq_cmp o_isN (tx_var (hasS (hasS (hasS (hasS (hasS (hasS (hasS has0))))))) (pv 7)) tx_non) (TX.pu (tx_var (hasS (hasS (hasS (hasS (hasS (hasS (hasS (hasS (hasS has0))))))))) (pv 9)) (by rfl) (by rfl)) (TX.pu (tx_callB (c_min2 (by rfl)) (by rfl) fa.n_min rfl (ta_cons (tx_var (hasS (hasS (hasS (hasS (hasS (hasS (hasS (hasS (hasS has0))))))))) (pv 9)) (ta_one (tx_get (d := default) (tx_var (hasS (hasS (hasS (hasS (hasS (hasS (hasS has0))))))) (pv 7)))))) (by rfl) (by rfl))) (putS (putS (putS (putS (putS (putS (putS (putS (putS (putS put0)))))))))) nd (by rfl) (by exact .inl rfl))
  (ts_seq (tl_expr (tx_meth (tl_slot has0p (pv 0)) (ok_non (ok_Raising_add fa)) hr (by decide) fa.c_Raising fa.me_Raising_add (by decide +kernel) fa.b_Raising_add (ta_cons (tx_var (hasS (hasS has0)) (pv 2)) (ta_cons (tx_var (hasS has0) (pv 1)) (ta_one (tx_var (hasS (hasS (hasS (hasS (hasS (hasS (hasS (hasS (hasS (hasS has0)))))))))) (pv 10))))) (.inl rfl)))
  (ts_seq (tl_set (tx_or (tx_cmp o_isN (tx_var (hasS (hasS (hasS (hasS (hasS (hasS (hasS has0))))))) (pv 7)) tx_non) (TX.pu (tx_one (tx_cmp o_lt (tx_var (hasS (hasS (hasS (hasS (hasS (hasS (hasS (hasS (hasS (hasS has0)))))))))) (pv 10)) (tx_get (d := default) (tx_var (hasS (hasS (hasS (hasS (hasS (hasS (hasS has0))))))) (pv 7))))) (by rfl) (by rfl))) (putS (putS (putS (putS (putS (putS (putS (putS (putS (putS (putS put0))))))))))) nd (by rfl) (by exact .inl rfl))
  (ts_one (t1_if (TW.tq (tw_or (tq_val (tx_var (hasS (hasS (hasS (hasS (hasS (hasS (hasS (hasS (hasS (hasS (hasS has0))))))))))) (pv 11))) (TW.pu (tw_or1 (tq_cmp o_eq (tx_var (hasS has0) (pv 1)) (tx_var (hasS (hasS (hasS (hasS has0)))) (pv 4)))) (by rfl) (by rfl)))) (ts_seq (tl_expr (tx_meth (tl_slot has0p (pv 0)) (ok_non (ok_Raising_stop fa)) hr (by decide) fa.c_Raising fa.me_Raising_stop (by decide +kernel) fa.b_Raising_stop (ta_cons (tx_var (hasS (hasS has0)) (pv 2)) (ta_cons (tx_var (hasS has0) (pv 1)) (ta_one (tx_var (hasS (hasS (hasS (hasS (hasS (hasS (hasS (hasS (hasS (hasS (hasS has0))))))))))) (pv 11))))) (.inl rfl)))
  (ts_gh (gh_trans (gh_trans (gh_trans (gh_trans (gh_trans (gh_trans (gh_trans (gh_trans (gh_un (hasS (hasS has0)) (putS (putS put0))) (gh_un (hasS (hasS (hasS has0))) (putS (putS (putS put0))))) (gh_un (hasS (hasS (hasS (hasS has0)))) (putS (putS (putS (putS put0)))))) (gh_un (hasS (hasS (hasS (hasS (hasS has0))))) (putS (putS (putS (putS (putS put0))))))) (gh_un (hasS (hasS (hasS (hasS (hasS (hasS has0)))))) (putS (putS (putS (putS (putS (putS put0)))))))) (gh_un (hasS (hasS (hasS (hasS (hasS (hasS (hasS has0))))))) (putS (putS (putS (putS (putS (putS (putS put0))))))))) (gh_un (hasS (hasS (hasS (hasS (hasS (hasS (hasS (hasS (hasS has0))))))))) (putS (putS (putS (putS (putS (putS (putS (putS (putS put0))))))))))) (gh_un (hasS (hasS (hasS (hasS (hasS (hasS (hasS (hasS (hasS (hasS has0)))))))))) (putS (putS (putS (putS (putS (putS (putS (putS (putS (putS put0)))))))))))) (gh_un (hasS (hasS (hasS (hasS (hasS (hasS (hasS (hasS (hasS (hasS (hasS has0))))))))))) (putS (putS (putS (putS (putS (putS (putS (putS (putS (putS (putS put0))))))))))))) ts_nil)) (ts_gh (gh_trans (gh_trans (gh_trans (gh_trans (gh_trans (gh_trans (gh_trans (gh_trans (gh_un (hasS (hasS has0)) (putS (putS put0))) (gh_un (hasS (hasS (hasS has0))) (putS (putS (putS put0))))) (gh_un (hasS (hasS (hasS (hasS has0)))) (putS (putS (putS (putS put0)))))) (gh_un (hasS (hasS (hasS (hasS (hasS has0))))) (putS (putS (putS (putS (putS put0))))))) (gh_un (hasS (hasS (hasS (hasS (hasS (hasS has0)))))) (putS (putS (putS (putS (putS (putS put0)))))))) (gh_un (hasS (hasS (hasS (hasS (hasS (hasS (hasS has0))))))) (putS (putS (putS (putS (putS (putS (putS put0))))))))) (gh_un (hasS (hasS (hasS (hasS (hasS (hasS (hasS (hasS (hasS has0))))))))) (putS (putS (putS (putS (putS (putS (putS (putS (putS put0))))))))))) (gh_un (hasS (hasS (hasS (hasS (hasS (hasS (hasS (hasS (hasS (hasS has0)))))))))) (putS (putS (putS (putS (putS (putS (putS (putS (putS (putS put0)))))))))))) (gh_un (hasS (hasS (hasS (hasS (hasS (hasS (hasS (hasS (hasS (hasS (hasS has0))))))))))) (putS (putS (putS (putS (putS (putS (putS (putS (putS (putS (putS put0))))))))))))) ts_nil))))))))) PassesOwn.never (by rfl)))) (fun _ _ => by kernel_rfl) (fun _ _ => by kernel_rfl) (.inl fun v0 => fin_none has0)
/-! ### Raising.far -/
theorem sc_Raising_far : FnScope ["self", "moment", "row_id", "running", "events", "charge", "spot", "count", "rate"] ["self", "moment"] (defScope s_Raising_far) := ⟨rfl, rfl, rfl, by decide +kernel, rfl, by decide +kernel, by decide +kernel⟩
def Raising_far_b15 (e : (Raising_F × Int × Unit × (List Int) × (List Int) × Unit × Unit × Int × Unit × Unit)) (x11 : Int) : Out (Raising_F × Int × Unit × (List Int) × (List Int) × Unit × Unit × Int × Unit × Unit) (Int × Raising_F) := let rate13 := ((e.2.2.2.1.filter fun (x12 : Int) => decide ((((dget e.1.1 x12).getD default).1) ≤ x11)).map fun (x12 : Int) => ((dget e.1.1 x12).getD default).2.2.1).sum; (if decide ((0 : Int) < rate13) = true then (let count14 := (min2 e.2.2.2.2.2.2.2.1 (((dget e.1.2.1 x11).getD default) / rate13)); .nx (e.1, e.2.1, (), e.2.2.2.1, e.2.2.2.2.1, (), (), count14, (), ())) else (.nx (e.1, e.2.1, (), e.2.2.2.1, e.2.2.2.2.1, (), (), e.2.2.2.2.2.2.2.1, (), ())))
def Raising_far_b15_p (e : (Raising_F × Int × Unit × (List Int) × (List Int) × Unit × Unit × Int × Unit × Unit)) (x11 : Int) : Prop := let rate13 := ((e.2.2.2.1.filter fun (x12 : Int) => decide ((((dget e.1.1 x12).getD default).1) ≤ x11)).map fun (x12 : Int) => ((dget e.1.1 x12).getD default).2.2.1).sum; ((True ∧ (∀ x12 ∈ e.2.2.2.1, ((True ∧ True ∧ ((dget e.1.1 x12).isSome = true)) ∧ True ∧ True) ∧ (decide ((((dget e.1.1 x12).getD default).1) ≤ x11) = true → (True ∧ True ∧ ((dget e.1.1 x12).isSome = true))))) ∧ True) ∧ ((True ∧ True ∧ True) ∧ (decide ((0 : Int) < rate13) = true → (let count14 := (min2 e.2.2.2.2.2.2.2.1 (((dget e.1.2.1 x11).getD default) / rate13)); ((True ∧ ((True ∧ ((dget e.1.2.1 x11).isSome = true)) ∧ True ∧ (CDiv ((dget e.1.2.1 x11).getD default) rate13))) ∧ True) ∧ True)) ∧ (decide ((0 : Int) < rate13) = false → True))
def Raising_far_b19 (e : (Raising_F × Int × Unit × (List Int) × (List Int) × Unit × Unit × Int × Unit × Unit)) (x17 : Int) : Out (Raising_F × Int × Unit × (List Int) × (List Int) × Unit × Unit × Int × Unit × Unit) (Int × Raising_F) := let r18 := Raising_add e.1 (x17, e.2.1, (e.2.2.2.2.2.2.2.1 * (((dget e.1.1 x17).getD default).2.2.1))); .nx (r18.2, e.2.1, (), e.2.2.2.1, e.2.2.2.2.1, (), (), e.2.2.2.2.2.2.2.1, (), ())
def Raising_far_b19_p (e : (Raising_F × Int × Unit × (List Int) × (List Int) × Unit × Unit × Int × Unit × Unit)) (x17 : Int) : Prop := let r18 := Raising_add e.1 (x17, e.2.1, (e.2.2.2.2.2.2.2.1 * (((dget e.1.1 x17).getD default).2.2.1))); ((True ∧ (True ∧ (True ∧ (True ∧ True ∧ ((dget e.1.1 x17).isSome = true)) ∧ (CMul e.2.2.2.2.2.2.2.1 (((dget e.1.1 x17).getD default).2.2.1))))) ∧ (Raising_add_pre e.1 (x17, e.2.1, (e.2.2.2.2.2.2.2.1 * (((dget e.1.1 x17).getD default).2.2.1))))) ∧ True
def Raising_far_o (s : Raising_F) (z : Int) : Out Unit (Int × Raising_F) := let running2 := ((s.2.2.2.1.filter fun (x1 : Int) => decide ((((dget s.1 x1).getD default).1) ≤ z)).map fun (x1 : Int) => x1); let events4 := (running2.map fun (x3 : Int) => ((dget s.1 x3).getD default).2.1); let l6 := events4 ++ (((s.1.map fun (x : Int × (Int × Int × Int × (Option Int))) => x.2).filter fun (x5 : (Int × Int × Int × (Option Int))) => decide (z < x5.1)).map fun (x5 : (Int × Int × Int × (Option Int))) => x5.1); let l8 := l6 ++ (((s.2.1.map fun (x : Int × Int) => x.1).filter fun (x7 : Int) => decide (z < x7)).map fun (x7 : Int) => x7); let count9 := ((((lminO l8).getD (z + (1 : Int))) - z) - (1 : Int)); (((forL Raising_far_b15 (((s.2.1.map fun (x : Int × Int) => x.1).filter fun (x10 : Int) => decide (x10 ≤ z)).map fun (x10 : Int) => x10) (s, z, (), running2, l8, (), (), count9, (), ())) : Out (Raising_F × Int × Unit × (List Int) × (List Int) × Unit × Unit × Int × Unit × Unit) (Int × Raising_F)).bind fun e16 => (((forL Raising_far_b19 e16.2.2.2.1 (e16.1, e16.2.1, (), e16.2.2.2.1, e16.2.2.2.2.1, (), (), e16.2.2.2.2.2.2.2.1, (), ())) : Out (Raising_F × Int × Unit × (List Int) × (List Int) × Unit × Unit × Int × Unit × Unit) (Int × Raising_F)).bind fun e20 => .rt (((e20.2.1 + e20.2.2.2.2.2.2.2.1) + (1 : Int)), e20.1)))
def Raising_far (s : Raising_F) (z : Int) : (Int × Raising_F) := (Raising_far_o s z).get (fun _ => default)
def Raising_far_pre (s : Raising_F) (z : Int) : Prop := let running2 := ((s.2.2.2.1.filter fun (x1 : Int) => decide ((((dget s.1 x1).getD default).1) ≤ z)).map fun (x1 : Int) => x1); (True ∧ (∀ x1 ∈ s.2.2.2.1, ((True ∧ True ∧ ((dget s.1 x1).isSome = true)) ∧ True ∧ True) ∧ (decide ((((dget s.1 x1).getD default).1) ≤ z) = true → True))) ∧ (let events4 := (running2.map fun (x3 : Int) => ((dget s.1 x3).getD default).2.1); (True ∧ (∀ x3 ∈ running2, True ∧ True ∧ ((dget s.1 x3).isSome = true))) ∧ (let l6 := events4 ++ (((s.1.map fun (x : Int × (Int × Int × Int × (Option Int))) => x.2).filter fun (x5 : (Int × Int × Int × (Option Int))) => decide (z < x5.1)).map fun (x5 : (Int × Int × Int × (Option Int))) => x5.1); ((True ∧ (∀ x5 ∈ (s.1.map fun (x : Int × (Int × Int × Int × (Option Int))) => x.2), (True ∧ True ∧ True) ∧ (decide (z < x5.1) = true → True))) ∧ (events4.length + (((s.1.map fun (x : Int × (Int × Int × Int × (Option Int))) => x.2).filter fun (x5 : (Int × Int × Int × (Option Int))) => decide (z < x5.1)).map fun (x5 : (Int × Int × Int × (Option Int))) => x5.1).length ≤ LIM)) ∧ (let l8 := l6 ++ (((s.2.1.map fun (x : Int × Int) => x.1).filter fun (x7 : Int) => decide (z < x7)).map fun (x7 : Int) => x7); ((True ∧ (∀ x7 ∈ (s.2.1.map fun (x : Int × Int) => x.1), (True ∧ True ∧ True) ∧ (decide (z < x7) = true → True))) ∧ (l6.length + (((s.2.1.map fun (x : Int × Int) => x.1).filter fun (x7 : Int) => decide (z < x7)).map fun (x7 : Int) => x7).length ≤ LIM)) ∧ (let count9 := ((((lminO l8).getD (z + (1 : Int))) - z) - (1 : Int)); (((True ∧ (True ∧ True ∧ True)) ∧ True ∧ True) ∧ True ∧ True) ∧ (((True ∧ (∀ x10 ∈ (s.2.1.map fun (x : Int × Int) => x.1), (True ∧ True ∧ True) ∧ (decide (x10 ≤ z) = true → True))) ∧ (forP Raising_far_b15 Raising_far_b15_p (((s.2.1.map fun (x : Int × Int) => x.1).filter fun (x10 : Int) => decide (x10 ≤ z)).map fun (x10 : Int) => x10) (s, z, (), running2, l8, (), (), count9, (), ()))) ∧ ∀ e16 : (Raising_F × Int × Unit × (List Int) × (List Int) × Unit × Unit × Int × Unit × Unit), ((forL Raising_far_b15 (((s.2.1.map fun (x : Int × Int) => x.1).filter fun (x10 : Int) => decide (x10 ≤ z)).map fun (x10 : Int) => x10) (s, z, (), running2, l8, (), (), count9, (), ())) : Out (Raising_F × Int × Unit × (List Int) × (List Int) × Unit × Unit × Int × Unit × Unit) (Int × Raising_F)) = .nx e16 → ((True ∧ (forP Raising_far_b19 Raising_far_b19_p e16.2.2.2.1 (e16.1, e16.2.1, (), e16.2.2.2.1, e16.2.2.2.2.1, (), (), e16.2.2.2.2.2.2.2.1, (), ()))) ∧ ∀ e20 : (Raising_F × Int × Unit × (List Int) × (List Int) × Unit × Unit × Int × Unit × Unit), ((forL Raising_far_b19 e16.2.2.2.1 (e16.1, e16.2.1, (), e16.2.2.2.1, e16.2.2.2.2.1, (), (), e16.2.2.2.2.2.2.2.1, (), ())) : Out (Raising_F × Int × Unit × (List Int) × (List Int) × Unit × Unit × Int × Unit × Unit) (Int × Raising_F)) = .nx e20 → ((True ∧ True ∧ True) ∧ True ∧ True)))))))
theorem ends_Raising_far (s : Raising_F) (z : Int) : NN (Raising_far_o s z) := by
  unfold Raising_far_o
  repeat (first | with_reducible exact nn_rt | with_reducible refine nn_if ?_ ?_ | with_reducible refine nn_bind fun _ => ?_ | with_reducible refine nn_match fun _ => ?_ | dsimp only)
theorem ok_Raising_far (fa : Fa K mg a) : FnOk P w0 K mg base CX0 3 a.Raising_far a.Raising_far_d ["self", "moment"] (spM (Raising_S a) (Raising_S a) (tp1 rInt) (rsF rInt) Raising_far_pre Raising_far) := by
  have nd := sc_Raising_far.nd
  exact fnM2 (R1 := (fun _ => en)) (fo := Raising_far_o) (fin := (fun _ => default)) fa.f_Raising_far sc_Raising_far (fun _ _ _ h => congrArg (· + 1) (tp_len1 _ _ _ h)) (st0_one (st1_un (st1_un (st1_un (st1_un (st1_un (st1_un (st1_un st1_nil)))))))) (by decide) (fun v0 cdv A outer s H Ex hr =>
  (ts_seq (tl_setLcF (lcF (own := [("row_id", 2)]) (ti_list (tx_atL (tl_fld (tl_slot has0p (pv 0)) (hasS (hasS (hasS has0))) (by rfl) fa.c_Raising fa.na_Raising_going))) (m := [false, false, true, false, false, false, false, false, false]) (ins_keep (ins_keep (ins_un (ins_keep (ins_keep (ins_keep (ins_keep (ins_keep (ins_keep ins_nil))))))))) (by decide) (fun _ _ _ _ _ => (tg_name (putS (putS put0)) (putS (putS put0)) (hasS (hasS has0)) (by decide) nd (by rfl) (by first | exact .inl rfl | exact .inr rfl))) (by intros; rfl) (fun _ _ _ _ _ => (tps_one (TQ.pu (tq_cmp o_le (tx_ixT (tx_dget kk_int (hu_of hr) (tx_at (tl_fld (tl_slot has0p (pv 0)) has0 (by rfl) fa.c_Raising fa.na_Raising_lots)) (tx_var (hasS (hasS has0)) (pv 2))) (atc (tp_lenc (tp_lenc tp_len1)))) (tx_var (hasS has0) (pv 1))) (by rfl) (by rfl)))) (fun _ _ _ _ _ => (TX.pu (tx_var (hasS (hasS has0)) (pv 2)) (by rfl) (by rfl)))) (putS (putS (putS put0))) (by rfl) nd (by rfl) (by rfl) (by rfl) (by rfl) (by rfl) (by kernel_rfl))
  (ts_seq (tl_setLc (lcM (own := [("row_id", 2)]) (ti_list (tx_var (hasS (hasS (hasS has0))) (pv 3))) (m := [false, false, true, false, false, false, false, false, false]) (ins_keep (ins_keep (ins_un (ins_keep (ins_keep (ins_keep (ins_keep (ins_keep (ins_keep ins_nil))))))))) (by decide) (fun _ _ _ _ _ => (tg_name (putS (putS put0)) (putS (putS put0)) (hasS (hasS has0)) (by decide) nd (by rfl) (by first | exact .inl rfl | exact .inr rfl))) (by intros; rfl) (fun _ _ _ _ _ => (TX.pu (tx_ixT (tx_dget kk_int (hu_of hr) (tx_at (tl_fld (tl_slot has0p (pv 0)) has0 (by rfl) fa.c_Raising fa.na_Raising_lots)) (tx_var (hasS (hasS has0)) (pv 2))) (atS (atc (tp_lenc tp_len1)))) (by rfl) (by rfl)))) (putS (putS (putS (putS put0)))) (by rfl) nd (by rfl) (by rfl) (by rfl) (by rfl) (by rfl) (by kernel_rfl))
  (ts_seq (tl_extend (tl_slot (hasS (hasS (hasS (hasS has0)))) (pv 4)) (ta_one (tx_newL (tn_lc (lcF (own := [("charge", 5)]) (ti_values (tx_at (tl_fld (tl_slot has0p (pv 0)) has0 (by rfl) fa.c_Raising fa.na_Raising_lots))) (m := [false, false, false, false, false, true, false, false, false]) (ins_keep (ins_keep (ins_keep (ins_keep (ins_keep (ins_un (ins_keep (ins_keep (ins_keep ins_nil))))))))) (by decide) (fun _ _ _ _ _ => (tg_name (putS (putS (putS (putS (putS put0))))) (putS (putS (putS (putS (putS put0))))) (hasS (hasS (hasS (hasS (hasS has0))))) (by decide) nd (by rfl) (by first | exact .inl rfl | exact .inr rfl))) (by intros; rfl) (fun _ _ _ _ _ => (tps_one (TQ.pu (tq_cmp o_gt (tx_ixT (tx_var (hasS (hasS (hasS (hasS (hasS has0))))) (pv 5)) (atc (tp_lenc (tp_lenc tp_len1)))) (tx_var (hasS has0) (pv 1))) (by rfl) (by rfl)))) (fun _ _ _ _ _ => (TX.pu (tx_ixT (tx_var (hasS (hasS (hasS (hasS (hasS has0))))) (pv 5)) (atc (tp_lenc (tp_lenc tp_len1)))) (by rfl) (by rfl)))) (by rfl) nd (by kernel_rfl)))) (.inl rfl) (fun _ _ h1 h2 => pe_bm PySem.F.plainAttrs_list PySem.F.slot_list_extend PySem.F.type_list_extend mt_extend h1 h2))
  (ts_seq (tl_extend (tl_slot (hasS (hasS (hasS (hasS has0)))) (pv 4)) (ta_one (tx_newL (tn_lock (lkH (lk_pin (lk_ob (lkS lk0)))) (tn_lc (lcF (own := [("spot", 6)]) (ti_keysO (tl_fld (tl_slot has0p (pv 0)) (hasS has0) (by rfl) fa.c_Raising fa.na_Raising_room) rInt hk_int) (m := [false, false, false, false, false, false, true, false, false]) (ins_keep (ins_keep (ins_keep (ins_keep (ins_keep (ins_keep (ins_un (ins_keep (ins_keep ins_nil))))))))) (by decide) (fun _ _ _ _ _ => (tg_name (putS (putS (putS (putS (putS (putS put0)))))) (putS (putS (putS (putS (putS (putS put0)))))) (hasS (hasS (hasS (hasS (hasS (hasS has0)))))) (by decide) nd (by rfl) (by first | exact .inl rfl | exact .inr rfl))) (by intros; rfl) (fun _ _ _ _ _ => (tps_one (TQ.pu (tq_cmp o_gt (tx_var (hasS (hasS (hasS (hasS (hasS (hasS has0)))))) (pv 6)) (tx_var (hasS has0) (pv 1))) (by rfl) (by rfl)))) (fun _ _ _ _ _ => (TX.pu (tx_var (hasS (hasS (hasS (hasS (hasS (hasS has0)))))) (pv 6)) (by rfl) (by rfl)))) (by rfl) nd (by kernel_rfl))))) (.inl rfl) (fun _ _ h1 h2 => pe_bm PySem.F.plainAttrs_list PySem.F.slot_list_extend PySem.F.type_list_extend mt_extend h1 h2))
  (ts_seq (tl_set (tx_op o_sub (tx_op o_sub (tx_minD (by rfl) (hu_of hr) (ta_one (tx_atL (tl_slot (hasS (hasS (hasS (hasS has0)))) (pv 4)))) (TX.pu (tx_op o_add (tx_var (hasS has0) (pv 1)) tx_int) (by rfl) (by rfl)) (by rfl) fa.n_min) (tx_var (hasS has0) (pv 1))) tx_int) (putS (putS (putS (putS (putS (putS (putS put0))))))) nd (by rfl) (by exact .inl rfl))
  (ts_cons (t1_for (vs := [6]) (ti_list (tx_newL (tn_lock (lkH (lk_pin (lk_ob (lkS lk0)))) (tn_lc (lcF (own := [("spot", 6)]) (ti_keysO (tl_fld (tl_slot has0p (pv 0)) (hasS has0) (by rfl) fa.c_Raising fa.na_Raising_room) rInt hk_int) (m := [false, false, false, false, false, false, true, false, false]) (ins_keep (ins_keep (ins_keep (ins_keep (ins_keep (ins_keep (ins_un (ins_keep (ins_keep ins_nil))))))))) (by decide) (fun _ _ _ _ _ => (tg_name (putS (putS (putS (putS (putS (putS put0)))))) (putS (putS (putS (putS (putS (putS put0)))))) (hasS (hasS (hasS (hasS (hasS (hasS has0)))))) (by decide) nd (by rfl) (by first | exact .inl rfl | exact .inr rfl))) (by intros; rfl) (fun _ _ _ _ _ => (tps_one (TQ.pu (tq_cmp o_le (tx_var (hasS (hasS (hasS (hasS (hasS (hasS has0)))))) (pv 6)) (tx_var (hasS has0) (pv 1))) (by rfl) (by rfl)))) (fun _ _ _ _ _ => (TX.pu (tx_var (hasS (hasS (hasS (hasS (hasS (hasS has0)))))) (pv 6)) (by rfl) (by rfl)))) (by rfl) nd (by kernel_rfl))))) (tg_name (putS (putS (putS (putS (putS (putS put0)))))) (putS (putS (putS (putS (putS (putS put0)))))) (hasS (hasS (hasS (hasS (hasS (hasS has0)))))) (by decide) nd (by rfl) (by exact .inr rfl)) (ts_seq (tl_set (tx_callB (c_sum (by rfl)) (by rfl) fa.n_sum rfl (ta_one (tx_newL (tn_lc (lcF (own := [("row_id", 2)]) (ti_list (tx_var (hasS (hasS (hasS has0))) (pv 3))) (m := [false, false, true, false, false, false, false, false, false]) (ins_keep (ins_keep (ins_un (ins_keep (ins_keep (ins_keep (ins_keep (ins_keep (ins_keep ins_nil))))))))) (by decide) (fun _ _ _ _ _ => (tg_name (putS (putS put0)) (putS (putS put0)) (hasS (hasS has0)) (by decide) nd (by rfl) (by first | exact .inl rfl | exact .inr rfl))) (by intros; rfl) (fun _ _ _ _ _ => (tps_one (TQ.pu (tq_cmp o_le (tx_ixT (tx_dget kk_int (hu_of hr) (tx_at (tl_fld (tl_slot has0p (pv 0)) has0 (by rfl) fa.c_Raising fa.na_Raising_lots)) (tx_var (hasS (hasS has0)) (pv 2))) (atc (tp_lenc (tp_lenc tp_len1)))) (tx_var (hasS (hasS (hasS (hasS (hasS (hasS has0)))))) (pv 6))) (by rfl) (by rfl)))) (fun _ _ _ _ _ => (TX.pu (tx_ixT (tx_dget kk_int (hu_of hr) (tx_at (tl_fld (tl_slot has0p (pv 0)) has0 (by rfl) fa.c_Raising fa.na_Raising_lots)) (tx_var (hasS (hasS has0)) (pv 2))) (atS (atS (atc tp_len1)))) (by rfl) (by rfl)))) (by rfl) nd (by kernel_rfl))))) (putS (putS (putS (putS (putS (putS (putS (putS put0)))))))) nd (by rfl) (by exact .inl rfl))
  (ts_one (t1_if (tq_cmp o_gt (tx_var (hasS (hasS (hasS (hasS (hasS (hasS (hasS (hasS has0)))))))) (pv 8)) tx_int) (ts_seq (tl_set (tx_callB (c_min2 (by rfl)) (by rfl) fa.n_min rfl (ta_cons (tx_var (hasS (hasS (hasS (hasS (hasS (hasS (hasS has0))))))) (pv 7)) (ta_one (tx_op o_fdiv (tx_dgetAt kk_int (hu_of hr) (tl_fld (tl_slot has0p (pv 0)) (hasS has0) (by rfl) fa.c_Raising fa.na_Raising_room) (tx_var (hasS (hasS (hasS (hasS (hasS (hasS has0)))))) (pv 6)) (.inl rfl)) (tx_var (hasS (hasS (hasS (hasS (hasS (hasS (hasS (hasS has0)))))))) (pv 8)))))) (putS (putS (putS (putS (putS (putS (putS put0))))))) nd (by rfl) (by exact .inl rfl))
  (ts_gh (gh_trans (gh_un (hasS (hasS (hasS (hasS (hasS (hasS has0)))))) (putS (putS (putS (putS (putS (putS put0))))))) (gh_un (hasS (hasS (hasS (hasS (hasS (hasS (hasS (hasS has0)))))))) (putS (putS (putS (putS (putS (putS (putS (putS put0)))))))))) ts_nil)) (ts_gh (gh_trans (gh_un (hasS (hasS (hasS (hasS (hasS (hasS has0)))))) (putS (putS (putS (putS (putS (putS put0))))))) (gh_un (hasS (hasS (hasS (hasS (hasS (hasS (hasS (hasS has0)))))))) (putS (putS (putS (putS (putS (putS (putS (putS put0)))))))))) ts_nil)))) PassesOwn.never (by rfl))
  (ts_cons (t1_for (vs := [2]) (ti_list (tx_var (hasS (hasS (hasS has0))) (pv 3))) (tg_name (putS (putS put0)) (putS (putS put0)) (hasS (hasS has0)) (by decide) nd (by rfl) (by exact .inl rfl)) (ts_seq (tl_expr (tx_meth (tl_slot has0p (pv 0)) (ok_non (ok_Raising_add fa)) hr (by decide) fa.c_Raising fa.me_Raising_add (by decide +kernel) fa.b_Raising_add (ta_cons (tx_var (hasS (hasS has0)) (pv 2)) (ta_cons (tx_var (hasS has0) (pv 1)) (ta_one (tx_op o_mul (tx_var (hasS (hasS (hasS (hasS (hasS (hasS (hasS has0))))))) (pv 7)) (tx_ixT (tx_dget kk_int (hu_of hr) (tx_at (tl_fld (tl_slot has0p (pv 0)) has0 (by rfl) fa.c_Raising fa.na_Raising_lots)) (tx_var (hasS (hasS has0)) (pv 2))) (atS (atS (atc tp_len1)))))))) (.inl rfl)))
  (ts_gh (gh_un (hasS (hasS has0)) (putS (putS put0))) ts_nil)) PassesOwn.never (by rfl))
  (ts_retM (tx_op o_add (tx_op o_add (tx_var (hasS has0) (pv 1)) (tx_var (hasS (hasS (hasS (hasS (hasS (hasS (hasS has0))))))) (pv 7))) tx_int) has0))))))))) (fun _ _ => by kernel_rfl) (fun _ _ => by kernel_rfl) (.inr ends_Raising_far)
/-! ### Raising.__init__ -/
theorem sc_Raising_init : FnScope ["self", "charges", "tariff", "spot", "row_id", "moment"] ["self", "charges", "tariff"] (defScope s_Raising_init) := ⟨rfl, rfl, rfl, by decide +kernel, rfl, by decide +kernel, by decide +kernel⟩
def Raising_init_w9_c (e : (Raising_F × (List (Int × (Int × Int × Int × (Option Int)))) × (List (Int × Int)) × Unit × Unit × Int × Unit)) : Bool := (!decide (e.1.2.2.2.1 = ([] : (List Int))))
def Raising_init_w9_g (e : (Raising_F × (List (Int × (Int × Int × Int × (Option Int)))) × (List (Int × Int)) × Unit × Unit × Int × Unit)) : (Raising_F × (List (Int × (Int × Int × Int × (Option Int)))) × (List (Int × Int)) × Unit × Unit × Int × Unit) := (e.1, e.2.1, e.2.2.1, (), (), e.2.2.2.2.2.1, ())
def Raising_init_w9_q (e : (Raising_F × (List (Int × (Int × Int × Int × (Option Int)))) × (List (Int × Int)) × Unit × Unit × Int × Unit)) : Prop := True ∧ True ∧ True
def Raising_init_w9 (e : (Raising_F × (List (Int × (Int × Int × Int × (Option Int)))) × (List (Int × Int)) × Unit × Unit × Int × Unit)) : Out (Raising_F × (List (Int × (Int × Int × Int × (Option Int)))) × (List (Int × Int)) × Unit × Unit × Int × Unit) (Unit × Raising_F) := let moment11 := (max2 e.2.2.2.2.2.1 (lmin (e.1.2.2.2.1.map fun (x10 : Int) => ((dget e.1.1 x10).getD default).1))); let r12 := Raising_raise_at e.1 moment11; let r13 := Raising_far r12.2 moment11; .nx (r13.2, e.2.1, e.2.2.1, (), (), r13.1, ())
def Raising_init_w9_p (e : (Raising_F × (List (Int × (Int × Int × Int × (Option Int)))) × (List (Int × Int)) × Unit × Unit × Int × Unit)) : Prop := let moment11 := (max2 e.2.2.2.2.2.1 (lmin (e.1.2.2.2.1.map fun (x10 : Int) => ((dget e.1.1 x10).getD default).1))); ((True ∧ ((True ∧ (∀ x10 ∈ e.1.2.2.2.1, True ∧ True ∧ ((dget e.1.1 x10).isSome = true))) ∧ ((e.1.2.2.2.1.map fun (x10 : Int) => ((dget e.1.1 x10).getD default).1) ≠ []))) ∧ True) ∧ (let r12 := Raising_raise_at e.1 moment11; (True ∧ (Raising_raise_at_pre e.1 moment11)) ∧ (let r13 := Raising_far r12.2 moment11; (True ∧ (Raising_far_pre r12.2 moment11)) ∧ True))
def Raising_init_o (s : (Unit × Unit × Unit × Unit × Unit × Unit)) (z : (List (Int × (Int × Int × Int × (Option Int)))) × (List (Int × Int))) : Out (Raising_F × (List (Int × (Int × Int × Int × (Option Int)))) × (List (Int × Int)) × Unit × Unit × Int × Unit) (Unit × Raising_F) := let self1 := ((z.1, s.2.1, s.2.2.1, s.2.2.2.1, s.2.2.2.2.1, s.2.2.2.2.2) : ((List (Int × (Int × Int × Int × (Option Int)))) × Unit × Unit × Unit × Unit × Unit)); let self3 := ((self1.1, ((spots_of (z.1, z.2)).map fun (x2 : Int) => (x2, (price_at (z.2, x2)))), self1.2.2.1, self1.2.2.2.1, self1.2.2.2.2.1, self1.2.2.2.2.2) : ((List (Int × (Int × Int × Int × (Option Int)))) × (List (Int × Int)) × Unit × Unit × Unit × Unit)); let self5 := ((self3.1, self3.2.1, ((z.1.map fun (x : Int × (Int × Int × Int × (Option Int))) => x.1).map fun (x4 : Int) => (x4, (0 : Int))), self3.2.2.2.1, self3.2.2.2.2.1, self3.2.2.2.2.2) : ((List (Int × (Int × Int × Int × (Option Int)))) × (List (Int × Int)) × (List (Int × Int)) × Unit × Unit × Unit)); let self6 := ((self5.1, self5.2.1, self5.2.2.1, (srt (z.1.map fun (x : Int × (Int × Int × Int × (Option Int))) => x.1)), self5.2.2.2.2.1, self5.2.2.2.2.2) : ((List (Int × (Int × Int × Int × (Option Int)))) × (List (Int × Int)) × (List (Int × Int)) × (List Int) × Unit × Unit)); let self7 := ((self6.1, self6.2.1, self6.2.2.1, self6.2.2.2.1, ([] : (List (Int × Int × Int))), self6.2.2.2.2.2) : ((List (Int × (Int × Int × Int × (Option Int)))) × (List (Int × Int)) × (List (Int × Int)) × (List Int) × (List (Int × Int × Int)) × Unit)); let moment8 := (0 : Int); (whL Raising_init_w9_c Raising_init_w9_g Raising_init_w9 ((fun e => fuelOf e.1.1 : (Raising_F × (List (Int × (Int × Int × Int × (Option Int)))) × (List (Int × Int)) × Unit × Unit × Int × Unit) → Nat) (self7, z.1, z.2, (), (), moment8, ())) (self7, z.1, z.2, (), (), moment8, ()))
def Raising_init (s : (Unit × Unit × Unit × Unit × Unit × Unit)) (z : (List (Int × (Int × Int × Int × (Option Int)))) × (List (Int × Int))) : (Unit × Raising_F) := (Raising_init_o s z).get (fun e => ((), e.1))
def Raising_init_pre (s : (Unit × Unit × Unit × Unit × Unit × Unit)) (z : (List (Int × (Int × Int × Int × (Option Int)))) × (List (Int × Int))) : Prop := let self1 := ((z.1, s.2.1, s.2.2.1, s.2.2.2.1, s.2.2.2.2.1, s.2.2.2.2.2) : ((List (Int × (Int × Int × Int × (Option Int)))) × Unit × Unit × Unit × Unit × Unit)); True ∧ (let self3 := ((self1.1, ((spots_of (z.1, z.2)).map fun (x2 : Int) => (x2, (price_at (z.2, x2)))), self1.2.2.1, self1.2.2.2.1, self1.2.2.2.2.1, self1.2.2.2.2.2) : ((List (Int × (Int × Int × Int × (Option Int)))) × (List (Int × Int)) × Unit × Unit × Unit × Unit)); (((True ∧ True) ∧ (spots_of_pre (z.1, z.2))) ∧ (∀ x2 ∈ (spots_of (z.1, z.2)), True ∧ ((True ∧ True) ∧ (price_at_pre (z.2, x2)))) ∧ (((spots_of (z.1, z.2)).map fun (x2 : Int) => x2).Nodup)) ∧ (let self5 := ((self3.1, self3.2.1, ((z.1.map fun (x : Int × (Int × Int × Int × (Option Int))) => x.1).map fun (x4 : Int) => (x4, (0 : Int))), self3.2.2.2.1, self3.2.2.2.2.1, self3.2.2.2.2.2) : ((List (Int × (Int × Int × Int × (Option Int)))) × (List (Int × Int)) × (List (Int × Int)) × Unit × Unit × Unit)); (True ∧ (∀ x4 ∈ (z.1.map fun (x : Int × (Int × Int × Int × (Option Int))) => x.1), True ∧ True) ∧ (((z.1.map fun (x : Int × (Int × Int × Int × (Option Int))) => x.1).map fun (x4 : Int) => x4).Nodup)) ∧ (let self6 := ((self5.1, self5.2.1, self5.2.2.1, (srt (z.1.map fun (x : Int × (Int × Int × Int × (Option Int))) => x.1)), self5.2.2.2.2.1, self5.2.2.2.2.2) : ((List (Int × (Int × Int × Int × (Option Int)))) × (List (Int × Int)) × (List (Int × Int)) × (List Int) × Unit × Unit)); (True ∧ (z.1.length < 64)) ∧ (let self7 := ((self6.1, self6.2.1, self6.2.2.1, self6.2.2.2.1, ([] : (List (Int × Int × Int))), self6.2.2.2.2.2) : ((List (Int × (Int × Int × Int × (Option Int)))) × (List (Int × Int)) × (List (Int × Int)) × (List Int) × (List (Int × Int × Int)) × Unit)); True ∧ (let moment8 := (0 : Int); True ∧ (whP Raising_init_w9_c Raising_init_w9_g Raising_init_w9 Raising_init_w9_q Raising_init_w9_p ((fun e => fuelOf e.1.1 : (Raising_F × (List (Int × (Int × Int × Int × (Option Int)))) × (List (Int × Int)) × Unit × Unit × Int × Unit) → Nat) (self7, z.1, z.2, (), (), moment8, ())) (self7, z.1, z.2, (), (), moment8, ())))))))
theorem ok_Raising_init (fa : Fa K mg a) : FnOk P w0 K mg base CX0 4 a.Raising_init a.Raising_init_d ["self", "charges", "tariff"] (spM (ob a.Raising Raising_ns (ec un (ec un (ec un (ec un (ec un en)))))) (Raising_S a) (tpc (rDict kInt (rTup (tpc rInt (tpc rInt (tpc rInt (tp1 (rOpt rInt))))))) (tp1 (rList (rTup (tpc rInt (tp1 rInt)))))) rsN Raising_init_pre Raising_init) := by
  have nd := sc_Raising_init.nd
  exact fnM2 (R1 := (fun v0 => (ec (pin v0 (Raising_S a)) (ec (fr (rDict kInt (rTup (tpc rInt (tpc rInt (tpc rInt (tp1 (rOpt rInt)))))))) (ec (fr (rList (rTup (tpc rInt (tp1 rInt))))) (ec un (ec un (ec (fr rInt) en)))))))) (fo := Raising_init_o) (fin := (fun e => ((), e.1))) fa.f_Raising_init sc_Raising_init (fun _ _ _ h => congrArg (· + 1) ((tp_lenc tp_len1) _ _ _ h)) (st0_cons (st0_one (st1_un (st1_un (st1_un st1_nil))))) (by decide) (fun v0 cdv A outer s H Ex hr =>
  (ts_seq (tl_fldset (ty_fr (tx_var (hasS has0) (pv 1))) has0p chg0p put0 (by decide +kernel) (by decide) (by rfl) fa.c_Raising fa.na_Raising_lots (pv 0))
  (ts_seq (tl_fldset (ty_newD (tm_dc (dcM (own := [("spot", 3)]) (kk := kInt) kk_int (ti_list (tx_call (ok_spots_of fa) hr (by decide) (by rfl) fa.g_spots_of fa.f_spots_of.kp fa.b_spots_of (ta_cons (tx_var (hasS has0) (pv 1)) (ta_one (tx_var (hasS (hasS has0)) (pv 2)))))) (m := [false, false, false, true, false, false]) (ins_keep (ins_keep (ins_keep (ins_un (ins_keep (ins_keep ins_nil)))))) (by decide) (fun _ _ _ _ _ => (tg_name (putS (putS (putS put0))) (putS (putS (putS put0))) (hasS (hasS (hasS has0))) (by decide) nd (by rfl) (by first | exact .inl rfl | exact .inr rfl))) (by intros; rfl) (fun _ _ _ _ _ => (TX.pu (tx_var (hasS (hasS (hasS has0))) (pv 3)) (by rfl) (by rfl))) (fun _ _ _ _ _ => (TX.pu (tx_call (ok_price_at fa) hr (by decide) (by rfl) fa.g_price_at fa.f_price_at.kp fa.b_price_at (ta_cons (tx_var (hasS (hasS has0)) (pv 2)) (ta_one (tx_var (hasS (hasS (hasS has0))) (pv 3))))) (by rfl) (by rfl)))) (by rfl) nd (by kernel_rfl))) has0p chg0p (putS put0) (by decide +kernel) (by decide) (by rfl) fa.c_Raising fa.na_Raising_room (pv 0))
  (ts_seq (tl_fldset (ty_newD (tm_dc (dcM (own := [("row_id", 4)]) (kk := kInt) kk_int (ti_keys (tx_var (hasS has0) (pv 1)) rInt hk_int) (m := [false, false, false, false, true, false]) (ins_keep (ins_keep (ins_keep (ins_keep (ins_un (ins_keep ins_nil)))))) (by decide) (fun _ _ _ _ _ => (tg_name (putS (putS (putS (putS put0)))) (putS (putS (putS (putS put0)))) (hasS (hasS (hasS (hasS has0)))) (by decide) nd (by rfl) (by first | exact .inl rfl | exact .inr rfl))) (by intros; rfl) (fun _ _ _ _ _ => (TX.pu (tx_var (hasS (hasS (hasS (hasS has0)))) (pv 4)) (by rfl) (by rfl))) (fun _ _ _ _ _ => (TX.pu tx_int (by rfl) (by rfl)))) (by rfl) nd (by kernel_rfl))) has0p chg0p (putS (putS put0)) (by decide +kernel) (by decide) (by rfl) fa.c_Raising fa.na_Raising_held (pv 0))
  (ts_seq (tl_fldset (ty_newL (tn_callB (c_sortD (by rfl)) (by rfl) fa.n_sorted rfl (ta_one (tx_var (hasS has0) (pv 1))))) has0p chg0p (putS (putS (putS put0))) (by decide +kernel) (by decide) (by rfl) fa.c_Raising fa.na_Raising_going (pv 0))
  (ts_seq (tl_fldset (ty_newL (tn_list (r := (rTup (tpc rInt (tpc rInt (tp1 rInt))))) (ta_nil (lv := true)) row0)) has0p chg0p (putS (putS (putS (putS put0)))) (by decide +kernel) (by decide) (by rfl) fa.c_Raising fa.na_Raising_stops (pv 0))
  (ts_seq (tl_set tx_int (putS (putS (putS (putS (putS put0))))) nd (by rfl) (by exact .inl rfl))
  (ts_one (t1_while (tq_cmp (o_neD hr.units) (tx_atL (tl_fld (tl_slot has0p (pv 0)) (hasS (hasS (hasS has0))) (by rfl) fa.c_Raising fa.na_Raising_going)) (tx_newL (tn_list (r := rInt) (ta_nil (lv := true)) row0))) (ts_seq (tl_set (tx_callB (c_max2 (by rfl)) (by rfl) fa.n_max rfl (ta_cons (tx_var (hasS (hasS (hasS (hasS (hasS has0))))) (pv 5)) (ta_one (tx_callB (c_minL (by rfl)) (by rfl) fa.n_min rfl (ta_one (tx_newL (tn_lc (lcM (own := [("row_id", 4)]) (ti_list (tx_atL (tl_fld (tl_slot has0p (pv 0)) (hasS (hasS (hasS has0))) (by rfl) fa.c_Raising fa.na_Raising_going))) (m := [false, false, false, false, true, false]) (ins_keep (ins_keep (ins_keep (ins_keep (ins_un (ins_keep ins_nil)))))) (by decide) (fun _ _ _ _ _ => (tg_name (putS (putS (putS (putS put0)))) (putS (putS (putS (putS put0)))) (hasS (hasS (hasS (hasS has0)))) (by decide) nd (by rfl) (by first | exact .inl rfl | exact .inr rfl))) (by intros; rfl) (fun _ _ _ _ _ => (TX.pu (tx_ixT (tx_dget kk_int (hu_of hr) (tx_at (tl_fld (tl_slot has0p (pv 0)) has0 (by rfl) fa.c_Raising fa.na_Raising_lots)) (tx_var (hasS (hasS (hasS (hasS has0)))) (pv 4))) (atc (tp_lenc (tp_lenc tp_len1)))) (by rfl) (by rfl)))) (by rfl) nd (by kernel_rfl)))))))) (putS (putS (putS (putS (putS put0))))) nd (by rfl) (by exact .inl rfl))
  (ts_seq (tl_expr (tx_meth (tl_slot has0p (pv 0)) (ok_non (ok_Raising_raise_at fa)) hr (by decide) fa.c_Raising fa.me_Raising_raise_at (by decide +kernel) fa.b_Raising_raise_at (ta_one (tx_var (hasS (hasS (hasS (hasS (hasS has0))))) (pv 5))) (.inl rfl)))
  (ts_seq (tl_set (tx_meth (tl_slot has0p (pv 0)) (ok_Raising_far fa) hr (by decide) fa.c_Raising fa.me_Raising_far (by decide +kernel) fa.b_Raising_far (ta_one (tx_var (hasS (hasS (hasS (hasS (hasS has0))))) (pv 5))) (.inl rfl)) (putS (putS (putS (putS (putS put0))))) nd (by rfl) (by exact .inl rfl))
  ts_nil))) PassesOwn.never (fun e => fuelOf e.1.1)))))))))) (fun _ _ => by kernel_rfl) (fun _ _ => by kernel_rfl) (.inl fun v0 => fin_none has0)
/-! ### urgent_shares -/
theorem sc_urgent_shares : FnScope ["charges", "tariff"] ["charges", "tariff"] (defScope s_urgent_shares) := ⟨rfl, rfl, rfl, by decide +kernel, rfl, by decide +kernel, by decide +kernel⟩
def urgent_shares_o (z : (List (Int × (Int × Int × Int × (Option Int)))) × (List (Int × Int))) : Out Unit (List (Int × Int)) := .rt (((Raising_init Raising_0 (z.1, z.2)).2).2.2.1)
def urgent_shares (z : (List (Int × (Int × Int × Int × (Option Int)))) × (List (Int × Int))) : (List (Int × Int)) := (urgent_shares_o z).get (fun _ => default)
def urgent_shares_pre (z : (List (Int × (Int × Int × Int × (Option Int)))) × (List (Int × Int))) : Prop := (True ∧ True) ∧ (Raising_init_pre Raising_0 (z.1, z.2))
theorem ends_urgent_shares (z : (List (Int × (Int × Int × Int × (Option Int)))) × (List (Int × Int))) : NN (urgent_shares_o z) := by
  unfold urgent_shares_o
  repeat (first | with_reducible exact nn_rt | with_reducible refine nn_if ?_ ?_ | with_reducible refine nn_bind fun _ => ?_ | with_reducible refine nn_match fun _ => ?_ | dsimp only)
theorem ok_urgent_shares (fa : Fa K mg a) : FnOk P w0 K mg base CX0 6 a.urgent_shares a.urgent_shares_d ["charges", "tariff"] (spP (tpc (rDict kInt (rTup (tpc rInt (tpc rInt (tpc rInt (tp1 (rOpt rInt))))))) (tp1 (rList (rTup (tpc rInt (tp1 rInt)))))) (rsF (rDict kInt rInt)) urgent_shares_pre urgent_shares) := by
  have nd := sc_urgent_shares.nd
  exact fnP2 (R1 := en) (fo := urgent_shares_o) (fin := (fun _ => default)) fa.f_urgent_shares sc_urgent_shares (tp_lenc tp_len1) (st0_cons (st0_one st1_nil)) (fun cdv A outer s H Ex hr =>
  (ts_ret (tx_fldHD (th_make Raising_st1 fa.m_Raising (ok_Raising_init fa) hr (by decide) (by rfl) fa.g_Raising fa.b_Raising_init (ta_cons (tx_var has0 (pv 0)) (ta_one (tx_var (hasS has0) (pv 1))))) (hasS (hasS has0)) (by rfl) fa.c_Raising fa.na_Raising_held))) (fun _ => by kernel_rfl) (fun _ => by kernel_rfl) (.inr ends_urgent_shares)
/-! ### _law_stream -/
theorem sc_law_stream : FnScope ["_law_script", "_law_start", "_law_seed", "_law_cell", "_law_digits"] ["_law_script", "_law_start"] (defScope s_law_stream) := ⟨rfl, rfl, rfl, by decide +kernel, rfl, by decide +kernel, by decide +kernel⟩
def law_stream_b4 (e : ((List Int) × Int × Int × Unit × Unit × Unit)) (x2 : Int) : Out ((List Int) × Int × Int × Unit × Unit × Unit) (List Int) := let _law_seed3 := (((((e.2.2.1 * (40127 : Int)) + x2) ^ ((3 : Int)).toNat) % (2147483629 : Int)) + (1 : Int)); .nx (e.1, e.2.1, _law_seed3, (), (), ())
def law_stream_b4_p (e : ((List Int) × Int × Int × Unit × Unit × Unit)) (x2 : Int) : Prop := let _law_seed3 := (((((e.2.2.1 * (40127 : Int)) + x2) ^ ((3 : Int)).toNat) % (2147483629 : Int)) + (1 : Int)); (((((True ∧ True ∧ (CMulX e.2.2.1 (40127 : Int))) ∧ (True ∧ True) ∧ True) ∧ True ∧ (CPowX ((e.2.2.1 * (40127 : Int)) + x2) (3 : Int))) ∧ True ∧ (0 < (2147483629 : Int))) ∧ True ∧ True) ∧ True
def law_stream_o (z : (List Int) × Int) : Out Unit (List Int) := let _law_seed1 := ((127 : Int) + z.2); (((forL law_stream_b4 z.1 (z.1, z.2, _law_seed1, (), (), ())) : Out ((List Int) × Int × Int × Unit × Unit × Unit) (List Int)).bind fun e5 => let _law_digits6 := (0 : Int); (((if (decide (e5.2.1 < (e5.1.length : Int)) && decide (((10 : Int) ^ ((18 : Int)).toNat) ≤ (geti e5.1 e5.2.1))) = true then (let _law_digits7 := ((geti e5.1 e5.2.1) - ((10 : Int) ^ ((18 : Int)).toNat)); .nx (e5.1, e5.2.1, e5.2.2.1, (), _law_digits7, ())) else (.nx (e5.1, e5.2.1, e5.2.2.1, (), _law_digits6, ()))) : Out ((List Int) × Int × Int × Unit × Int × Unit) (List Int)).bind fun e8 => .rt ([e8.2.2.2.2.1, e8.2.2.1])))
def law_stream (z : (List Int) × Int) : (List Int) := (law_stream_o z).get (fun _ => default)
def law_stream_pre (z : (List Int) × Int) : Prop := let _law_seed1 := ((127 : Int) + z.2); (True ∧ True ∧ True) ∧ ((True ∧ (forP law_stream_b4 law_stream_b4_p z.1 (z.1, z.2, _law_seed1, (), (), ()))) ∧ ∀ e5 : ((List Int) × Int × Int × Unit × Unit × Unit), ((forL law_stream_b4 z.1 (z.1, z.2, _law_seed1, (), (), ())) : Out ((List Int) × Int × Int × Unit × Unit × Unit) (List Int)) = .nx e5 → (let _law_digits6 := (0 : Int); True ∧ ((((True ∧ (True ∧ True) ∧ True) ∧ (decide (e5.2.1 < (e5.1.length : Int)) = true → ((True ∧ True ∧ ((at? e5.1 e5.2.1).isSome = true)) ∧ (True ∧ True ∧ (CPowX (10 : Int) (18 : Int))) ∧ True))) ∧ ((decide (e5.2.1 < (e5.1.length : Int)) && decide (((10 : Int) ^ ((18 : Int)).toNat) ≤ (geti e5.1 e5.2.1))) = true → (let _law_digits7 := ((geti e5.1 e5.2.1) - ((10 : Int) ^ ((18 : Int)).toNat)); ((True ∧ True ∧ ((at? e5.1 e5.2.1).isSome = true)) ∧ (True ∧ True ∧ (CPowX (10 : Int) (18 : Int))) ∧ True) ∧ True)) ∧ ((decide (e5.2.1 < (e5.1.length : Int)) && decide (((10 : Int) ^ ((18 : Int)).toNat) ≤ (geti e5.1 e5.2.1))) = false → True)) ∧ ∀ e8 : ((List Int) × Int × Int × Unit × Int × Unit), ((if (decide (e5.2.1 < (e5.1.length : Int)) && decide (((10 : Int) ^ ((18 : Int)).toNat) ≤ (geti e5.1 e5.2.1))) = true then (let _law_digits7 := ((geti e5.1 e5.2.1) - ((10 : Int) ^ ((18 : Int)).toNat)); .nx (e5.1, e5.2.1, e5.2.2.1, (), _law_digits7, ())) else (.nx (e5.1, e5.2.1, e5.2.2.1, (), _law_digits6, ()))) : Out ((List Int) × Int × Int × Unit × Int × Unit) (List Int)) = .nx e8 → (True ∧ True))))
theorem ends_law_stream (z : (List Int) × Int) : NN (law_stream_o z) := by
  unfold law_stream_o
  repeat (first | with_reducible exact nn_rt | with_reducible refine nn_if ?_ ?_ | with_reducible refine nn_bind fun _ => ?_ | with_reducible refine nn_match fun _ => ?_ | dsimp only)
theorem ok_law_stream (fa : Fa K mg a) : FnOk P w0 K mg base CX0 1 a.law_stream a.law_stream_d ["_law_script", "_law_start"] (spP (tpc (rScr K) (tp1 rInt)) (rsY (ol rInt)) law_stream_pre law_stream) := by
  have nd := sc_law_stream.nd
  exact fnP2 (R1 := en) (fo := law_stream_o) (fin := (fun _ => default)) fa.f_law_stream sc_law_stream (tp_lenc tp_len1) (st0_cons (st0_one (st1_un (st1_un (st1_un st1_nil))))) (fun cdv A outer s H Ex hr =>
  (ts_seq (tl_set (tx_op o_add tx_int (tx_var (hasS has0) (pv 1))) (putS (putS put0)) nd (by rfl) (by exact .inl rfl))
  (ts_cons (t1_for (vs := [3]) (ti_scr (tx_var has0 (pv 0))) (tg_name (putS (putS (putS put0))) (putS (putS (putS put0))) (hasS (hasS (hasS has0))) (by decide) nd (by rfl) (by exact .inl rfl)) (ts_seq (tl_set (tx_op o_add (tx_op o_mod (tx_op o_pow (tx_op o_add (tx_op o_mulX (tx_var (hasS (hasS has0)) (pv 2)) tx_int) (tx_callT c_int (by rfl) fa.n_int rfl (ta_one (tx_var (hasS (hasS (hasS has0))) (pv 3))))) tx_int) tx_int) tx_int) (putS (putS put0)) nd (by rfl) (by exact .inl rfl))
  (ts_gh (gh_un (hasS (hasS (hasS has0))) (putS (putS (putS put0)))) ts_nil)) PassesOwn.never (by rfl))
  (ts_seq (tl_set tx_int (putS (putS (putS (putS put0)))) nd (by rfl) (by exact .inl rfl))
  (ts_cons (t1_if (TW.tq (tw_and (tq_cmp o_lt (tx_var (hasS has0) (pv 1)) (tx_callB c_lenS (by rfl) fa.n_len PySem.boot_len (ta_one (tx_var has0 (pv 0))))) (TW.pu (tw_and1 (tq_cmp o_ge (tx_ixS (tx_var has0 (pv 0)) (tx_var (hasS has0) (pv 1))) (tx_op o_pow tx_int tx_int))) (by rfl) (by rfl)))) (ts_seq (tl_set (tx_op o_sub (tx_ixS (tx_var has0 (pv 0)) (tx_var (hasS has0) (pv 1))) (tx_op o_pow tx_int tx_int)) (putS (putS (putS (putS put0)))) nd (by rfl) (by exact .inl rfl))
  ts_nil) ts_nil)
  (ts_retY (ty_newL (tn_list (ta_cons (tx_var (hasS (hasS (hasS (hasS has0)))) (pv 4)) (ta_one (tx_var (hasS (hasS has0)) (pv 2)))) (rowc row1))))))))) (fun _ => by kernel_rfl) (fun _ => by kernel_rfl) (.inr ends_law_stream)
/-! ### _law_draw -/
theorem sc_law_draw : FnScope ["_law_stream_here", "_law_size", "_law_found"] ["_law_stream_here", "_law_size"] (defScope s_law_draw) := ⟨rfl, rfl, rfl, by decide +kernel, rfl, by decide +kernel, by decide +kernel⟩
def law_draw_o (s : (List Int)) (z : Int) : Out Unit (Int × (List Int)) := (if decide (z ≤ (geti s (0 : Int))) = true then (let _law_found1 := ((geti s (0 : Int)) % z); let l2 := seti s (0 : Int) ((geti s (0 : Int)) / z); .rt (_law_found1, l2)) else let l3 := seti s (1 : Int) ((((geti s (1 : Int)) * (48271 : Int)) + (12345 : Int)) % (2147483647 : Int)); .rt ((((((((geti l3 (1 : Int)) ^ ((3 : Int)).toNat) % (2147483629 : Int)) ^ ((5 : Int)).toNat) % (1000000007 : Int)) / (7 : Int)) % z), l3))
def law_draw (s : (List Int)) (z : Int) : (Int × (List Int)) := (law_draw_o s z).get (fun _ => default)
def law_draw_pre (s : (List Int)) (z : Int) : Prop := ((True ∧ ((at? s (0 : Int)).isSome = true)) ∧ True ∧ True) ∧ (decide (z ≤ (geti s (0 : Int))) = true → (let _law_found1 := ((geti s (0 : Int)) % z); (((True ∧ ((at? s (0 : Int)).isSome = true)) ∧ True) ∧ True ∧ (0 < z)) ∧ (let l2 := seti s (0 : Int) ((geti s (0 : Int)) / z); (((True ∧ ((at? s (0 : Int)).isSome = true)) ∧ True ∧ (CDiv (geti s (0 : Int)) z)) ∧ True ∧ ((ixN s.length (0 : Int)).isSome = true)) ∧ True))) ∧ (decide (z ≤ (geti s (0 : Int))) = false → (let l3 := seti s (1 : Int) ((((geti s (1 : Int)) * (48271 : Int)) + (12345 : Int)) % (2147483647 : Int)); ((((((True ∧ ((at? s (1 : Int)).isSome = true)) ∧ True) ∧ True ∧ (CMulX (geti s (1 : Int)) (48271 : Int))) ∧ True ∧ True) ∧ True ∧ (0 < (2147483647 : Int))) ∧ True ∧ ((ixN s.length (1 : Int)).isSome = true)) ∧ ((((((((True ∧ ((at? l3 (1 : Int)).isSome = true)) ∧ True) ∧ True ∧ (CPowX (geti l3 (1 : Int)) (3 : Int))) ∧ True ∧ (0 < (2147483629 : Int))) ∧ True ∧ (CPowX (((geti l3 (1 : Int)) ^ ((3 : Int)).toNat) % (2147483629 : Int)) (5 : Int))) ∧ True ∧ (0 < (1000000007 : Int))) ∧ True ∧ (CDiv (((((geti l3 (1 : Int)) ^ ((3 : Int)).toNat) % (2147483629 : Int)) ^ ((5 : Int)).toNat) % (1000000007 : Int)) (7 : Int))) ∧ True ∧ (0 < z))))
theorem ends_law_draw (s : (List Int)) (z : Int) : NN (law_draw_o s z) := by
  unfold law_draw_o
  repeat (first | with_reducible exact nn_rt | with_reducible refine nn_if ?_ ?_ | with_reducible refine nn_bind fun _ => ?_ | with_reducible refine nn_match fun _ => ?_ | dsimp only)
theorem ok_law_draw (fa : Fa K mg a) : FnOk P w0 K mg base CX0 1 a.law_draw a.law_draw_d ["_law_stream_here", "_law_size"] (spM (ol rInt) (ol rInt) (tp1 rInt) (rsF rInt) law_draw_pre law_draw) := by
  have nd := sc_law_draw.nd
  exact fnM2 (R1 := (fun _ => en)) (fo := law_draw_o) (fin := (fun _ => default)) fa.f_law_draw sc_law_draw (fun _ _ _ h => congrArg (· + 1) (tp_len1 _ _ _ h)) (st0_one (st1_un st1_nil)) (by decide) (fun v0 cdv A outer s H Ex hr =>
  (ts_ifR (tq_cmp o_ge (tx_ixAt (tl_slot has0p (pv 0)) tx_int (.inl rfl)) (tx_var (hasS has0) (pv 1))) (ts_seq (tl_set (tx_op o_mod (tx_callT c_int (by rfl) fa.n_int rfl (ta_one (tx_ixAt (tl_slot has0p (pv 0)) tx_int (.inl rfl)))) (tx_var (hasS has0) (pv 1))) (putS (putS put0)) nd (by rfl) (by exact .inl rfl))
  (ts_seq (tl_setL has0p (tx_op o_fdiv (tx_ixAt (tl_slot has0p (pv 0)) tx_int (.inl rfl)) (tx_var (hasS has0) (pv 1))) (TX.pu tx_int (by rfl) (by rfl)) (pv 0))
  (ts_retM (tx_var (hasS (hasS has0)) (pv 2)) has0))) (fun _ _ h => by cases h)
  (ts_seq (tl_setL has0p (tx_op o_mod (tx_op o_add (tx_op o_mulX (tx_callT c_int (by rfl) fa.n_int rfl (ta_one (tx_ixAt (tl_slot has0p (pv 0)) tx_int (.inl rfl)))) tx_int) tx_int) tx_int) (TX.pu tx_int (by rfl) (by rfl)) (pv 0))
  (ts_retM (tx_op o_mod (tx_op o_fdiv (tx_op o_mod (tx_op o_pow (tx_op o_mod (tx_op o_pow (tx_callT c_int (by rfl) fa.n_int rfl (ta_one (tx_ixAt (tl_slot has0p (pv 0)) tx_int (.inl rfl)))) tx_int) tx_int) tx_int) tx_int) tx_int) (tx_var (hasS has0) (pv 1))) has0)))) (fun _ _ => by kernel_rfl) (fun _ _ => by kernel_rfl) (.inr ends_law_draw)
/-! ### _law_choose -/
theorem sc_law_choose : FnScope ["_law_stream_here", "_law_things"] ["_law_stream_here", "_law_things"] (defScope s_law_choose) := ⟨rfl, rfl, rfl, by decide +kernel, rfl, by decide +kernel, by decide +kernel⟩
def law_choose_o (s : (List Int)) (z : (List (Option Int))) : Out Unit ((Option Int) × (List Int)) := let r1 := law_draw s (z.length : Int); .rt ((geti z r1.1), r1.2)
def law_choose (s : (List Int)) (z : (List (Option Int))) : ((Option Int) × (List Int)) := (law_choose_o s z).get (fun _ => default)
def law_choose_pre (s : (List Int)) (z : (List (Option Int))) : Prop := let r1 := law_draw s (z.length : Int); True ∧ ((True ∧ True) ∧ (law_draw_pre s (z.length : Int))) ∧ ((at? z r1.1).isSome = true)
theorem ends_law_choose (s : (List Int)) (z : (List (Option Int))) : NN (law_choose_o s z) := by
  unfold law_choose_o
  repeat (first | with_reducible exact nn_rt | with_reducible refine nn_if ?_ ?_ | with_reducible refine nn_bind fun _ => ?_ | with_reducible refine nn_match fun _ => ?_ | dsimp only)
theorem ok_law_choose (fa : Fa K mg a) : FnOk P w0 K mg base CX0 2 a.law_choose a.law_choose_d ["_law_stream_here", "_law_things"] (spM (ol rInt) (ol rInt) (tp1 (rList (rOpt rInt))) (rsF (rOpt rInt)) law_choose_pre law_choose) := by
  have nd := sc_law_choose.nd
  exact fnM2 (R1 := (fun _ => en)) (fo := law_choose_o) (fin := (fun _ => default)) fa.f_law_choose sc_law_choose (fun _ _ _ h => congrArg (· + 1) (tp_len1 _ _ _ h)) (st0_one st1_nil) (by decide) (fun v0 cdv A outer s H Ex hr =>
  (ts_retM (tx_ixL (tx_var (hasS has0) (pv 1)) (tx_callM (tl_slot has0p (pv 0)) (ok_law_draw fa) hr (by decide) (by rfl) fa.g_law_draw fa.f_law_draw.kp fa.b_law_draw (ta_one (tx_callB c_lenL (by rfl) fa.n_len PySem.boot_len (ta_one (tx_var (hasS has0) (pv 1))))) (.inl rfl))) has0)) (fun _ _ => by kernel_rfl) (fun _ _ => by kernel_rfl) (.inr ends_law_choose)
/-! ### _law_shuffled -/
theorem sc_law_shuffled : FnScope ["_law_stream_here", "_law_things", "_law_left", "_law_found"] ["_law_stream_here", "_law_things"] (defScope s_law_shuffled) := ⟨rfl, rfl, rfl, by decide +kernel, rfl, by decide +kernel, by decide +kernel⟩
def law_shuffled_w2_c (e : ((List Int) × (List Int) × (List Int) × (List Int) × Unit)) : Bool := (!decide (e.2.2.1 = ([] : (List Int))))
def law_shuffled_w2_g (e : ((List Int) × (List Int) × (List Int) × (List Int) × Unit)) : ((List Int) × (List Int) × (List Int) × (List Int) × Unit) := (e.1, e.2.1, e.2.2.1, e.2.2.2.1, ())
def law_shuffled_w2_q (e : ((List Int) × (List Int) × (List Int) × (List Int) × Unit)) : Prop := True ∧ True ∧ True
def law_shuffled_w2 (e : ((List Int) × (List Int) × (List Int) × (List Int) × Unit)) : Out ((List Int) × (List Int) × (List Int) × (List Int) × Unit) ((List Int) × (List Int)) := let r3 := law_draw e.1 (e.2.2.1.length : Int); let v4 := geti e.2.2.1 r3.1; let l5 := popi e.2.2.1 r3.1; let l6 := e.2.2.2.1 ++ [v4]; .nx (r3.2, e.2.1, l5, l6, ())
def law_shuffled_w2_p (e : ((List Int) × (List Int) × (List Int) × (List Int) × Unit)) : Prop := let r3 := law_draw e.1 (e.2.2.1.length : Int); let v4 := geti e.2.2.1 r3.1; let l5 := popi e.2.2.1 r3.1; let l6 := e.2.2.2.1 ++ [v4]; ((((True ∧ True) ∧ (law_draw_pre e.1 (e.2.2.1.length : Int))) ∧ ((at? e.2.2.1 r3.1).isSome = true)) ∧ (e.2.2.2.1.length < LIM)) ∧ True
def law_shuffled_o (s : (List Int)) (z : (List Int)) : Out Unit ((List Int) × (List Int)) := let _law_found1 := ([] : (List Int)); (((whL law_shuffled_w2_c law_shuffled_w2_g law_shuffled_w2 ((fun e => e.2.2.1.length + 1 : ((List Int) × (List Int) × (List Int) × (List Int) × Unit) → Nat) (s, z, z, _law_found1, ())) (s, z, z, _law_found1, ())) : Out ((List Int) × (List Int) × (List Int) × (List Int) × Unit) ((List Int) × (List Int))).bind fun e7 => .rt (e7.2.2.2.1, e7.1))
def law_shuffled (s : (List Int)) (z : (List Int)) : ((List Int) × (List Int)) := (law_shuffled_o s z).get (fun _ => default)
def law_shuffled_pre (s : (List Int)) (z : (List Int)) : Prop := let _law_found1 := ([] : (List Int)); ((True ∧ True) ∧ True) ∧ ((whP law_shuffled_w2_c law_shuffled_w2_g law_shuffled_w2 law_shuffled_w2_q law_shuffled_w2_p ((fun e => e.2.2.1.length + 1 : ((List Int) × (List Int) × (List Int) × (List Int) × Unit) → Nat) (s, z, z, _law_found1, ())) (s, z, z, _law_found1, ())) ∧ ∀ e7 : ((List Int) × (List Int) × (List Int) × (List Int) × Unit), ((whL law_shuffled_w2_c law_shuffled_w2_g law_shuffled_w2 ((fun e => e.2.2.1.length + 1 : ((List Int) × (List Int) × (List Int) × (List Int) × Unit) → Nat) (s, z, z, _law_found1, ())) (s, z, z, _law_found1, ())) : Out ((List Int) × (List Int) × (List Int) × (List Int) × Unit) ((List Int) × (List Int))) = .nx e7 → True)
theorem ends_law_shuffled (s : (List Int)) (z : (List Int)) : NN (law_shuffled_o s z) := by
  unfold law_shuffled_o
  repeat (first | with_reducible exact nn_rt | with_reducible refine nn_if ?_ ?_ | with_reducible refine nn_bind fun _ => ?_ | with_reducible refine nn_match fun _ => ?_ | dsimp only)
theorem ok_law_shuffled (fa : Fa K mg a) : FnOk P w0 K mg base CX0 2 a.law_shuffled a.law_shuffled_d ["_law_stream_here", "_law_things"] (spM (ol rInt) (ol rInt) (tp1 (rList rInt)) (rsF (rList rInt)) law_shuffled_pre law_shuffled) := by
  have nd := sc_law_shuffled.nd
  exact fnM2 (R1 := (fun _ => en)) (fo := law_shuffled_o) (fin := (fun _ => default)) fa.f_law_shuffled sc_law_shuffled (fun _ _ _ h => congrArg (· + 1) (tp_len1 _ _ _ h)) (st0_one (st1_un (st1_un st1_nil))) (by decide) (fun v0 cdv A outer s H Ex hr =>
  (ts_seq (tl_par (ty_newL (tn_callT c_listL (by rfl) fa.n_list rfl (ta_one (tx_var (hasS has0) (pv 1))))) (ty_newL (tn_list (r := rInt) (ta_nil (lv := true)) row0)) (putS (putS put0)) (putS (putS (putS put0))) (by rfl) nd (by rfl) (by rfl) (by decide) (by rfl) (by rfl) (by rfl))
  (ts_cons (t1_while (tq_cmp (o_neD hr.units) (tx_atL (tl_slot (hasS (hasS has0)) (pv 2))) (tx_newL (tn_list (r := rInt) (ta_nil (lv := true)) row0))) (ts_seq (tl_appendT (tl_slot (hasS (hasS (hasS has0))) (pv 3)) (ta_one (tx_popAt (tl_slot (hasS (hasS has0)) (pv 2)) (ta_one (tx_callM (tl_slot has0p (pv 0)) (ok_law_draw fa) hr (by decide) (by rfl) fa.g_law_draw fa.f_law_draw.kp fa.b_law_draw (ta_one (tx_callB c_lenL (by rfl) fa.n_len PySem.boot_len (ta_one (tx_atL (tl_slot (hasS (hasS has0)) (pv 2)))))) (.inl rfl))) (.inr rfl) (fun _ _ h1 h2 => pe_bm PySem.F.plainAttrs_list PySem.F.slot_list_pop PySem.F.type_list_pop mt_popAt h1 h2))) (.inr rfl) (fun _ _ h1 h2 => pe_bm PySem.F.plainAttrs_list PySem.F.slot_list_append PySem.F.type_list_append mt_append h1 h2))
  ts_nil) PassesOwn.never (fun e => e.2.2.1.length + 1))
  (ts_gh (gh_frL (hasS (hasS (hasS has0))) (putS (putS (putS put0)))) (ts_retM (tx_var (hasS (hasS (hasS has0))) (pv 3)) has0))))) (fun _ _ => by kernel_rfl) (fun _ _ => by kernel_rfl) (.inr ends_law_shuffled)
/-! ### _law_tariff -/
theorem sc_law_tariff : FnScope ["_law_stream_here", "_law_last", "_law_found", "_law_moment"] ["_law_stream_here", "_law_last"] (defScope s_law_tariff) := ⟨rfl, rfl, rfl, by decide +kernel, rfl, by decide +kernel, by decide +kernel⟩
def law_tariff_b7 (e : ((List Int) × Int × (List (Int × Int)) × Unit × Unit)) (x3 : Int) : Out ((List Int) × Int × (List (Int × Int)) × Unit × Unit) ((List (Int × Int)) × (List Int)) := let r4 := law_draw e.1 (5 : Int); (if (decide (r4.1 = (0 : Int)) && decide ((e.2.2.1.length : Int) < (12 : Int))) = true then (let r5 := law_choose r4.2 ([(some (0 : Int)), (some (1 : Int)), (some (2 : Int)), (some (5 : Int)), (some (9 : Int)), (some (30 : Int))]); let l6 := e.2.2.1 ++ [(x3, (r5.1.getD default))]; .nx (r5.2, e.2.1, l6, (), ())) else (.nx (r4.2, e.2.1, e.2.2.1, (), ())))
def law_tariff_b7_p (e : ((List Int) × Int × (List (Int × Int)) × Unit × Unit)) (x3 : Int) : Prop := let r4 := law_draw e.1 (5 : Int); (((True ∧ (law_draw_pre e.1 (5 : Int))) ∧ True ∧ True) ∧ (decide (r4.1 = (0 : Int)) = true → ((True ∧ True) ∧ True ∧ True))) ∧ ((decide (r4.1 = (0 : Int)) && decide ((e.2.2.1.length : Int) < (12 : Int))) = true → (let r5 := law_choose r4.2 ([(some (0 : Int)), (some (1 : Int)), (some (2 : Int)), (some (5 : Int)), (some (9 : Int)), (some (30 : Int))]); let l6 := e.2.2.1 ++ [(x3, (r5.1.getD default))]; ((True ∧ (((True ∧ (True ∧ (True ∧ (True ∧ (True ∧ True))))) ∧ (law_choose_pre r4.2 ([(some (0 : Int)), (some (1 : Int)), (some (2 : Int)), (some (5 : Int)), (some (9 : Int)), (some (30 : Int))]))) ∧ (r5.1.isSome = true))) ∧ (e.2.2.1.length < LIM)) ∧ True)) ∧ ((decide (r4.1 = (0 : Int)) && decide ((e.2.2.1.length : Int) < (12 : Int))) = false → True)
def law_tariff_o (s : (List Int)) (z : Int) : Out Unit ((List (Int × Int)) × (List Int)) := let r1 := law_choose s ([(some (0 : Int)), (some (1 : Int)), (some (2 : Int)), (some (5 : Int)), (some (9 : Int)), (some (30 : Int))]); let _law_found2 := [((0 : Int), (r1.1.getD default))]; (((forL law_tariff_b7 (rng (1 : Int) ((z + (1 : Int)) - (1 : Int)).toNat) (r1.2, z, _law_found2, (), ())) : Out ((List Int) × Int × (List (Int × Int)) × Unit × Unit) ((List (Int × Int)) × (List Int))).bind fun e8 => .rt (e8.2.2.1, e8.1))
def law_tariff (s : (List Int)) (z : Int) : ((List (Int × Int)) × (List Int)) := (law_tariff_o s z).get (fun _ => default)
def law_tariff_pre (s : (List Int)) (z : Int) : Prop := let r1 := law_choose s ([(some (0 : Int)), (some (1 : Int)), (some (2 : Int)), (some (5 : Int)), (some (9 : Int)), (some (30 : Int))]); let _law_found2 := [((0 : Int), (r1.1.getD default))]; (True ∧ (((True ∧ (True ∧ (True ∧ (True ∧ (True ∧ True))))) ∧ (law_choose_pre s ([(some (0 : Int)), (some (1 : Int)), (some (2 : Int)), (some (5 : Int)), (some (9 : Int)), (some (30 : Int))]))) ∧ (r1.1.isSome = true))) ∧ ((((True ∧ (True ∧ True ∧ True)) ∧ (-(2 ^ 62) ≤ (1 : Int) ∧ (1 : Int) < 2 ^ 62 ∧ -(2 ^ 62) ≤ (z + (1 : Int)) ∧ (z + (1 : Int)) < 2 ^ 62) ∧ ((z + (1 : Int)) - (1 : Int) ≤ LIM)) ∧ (forP law_tariff_b7 law_tariff_b7_p (rng (1 : Int) ((z + (1 : Int)) - (1 : Int)).toNat) (r1.2, z, _law_found2, (), ()))) ∧ ∀ e8 : ((List Int) × Int × (List (Int × Int)) × Unit × Unit), ((forL law_tariff_b7 (rng (1 : Int) ((z + (1 : Int)) - (1 : Int)).toNat) (r1.2, z, _law_found2, (), ())) : Out ((List Int) × Int × (List (Int × Int)) × Unit × Unit) ((List (Int × Int)) × (List Int))) = .nx e8 → True)
theorem ends_law_tariff (s : (List Int)) (z : Int) : NN (law_tariff_o s z) := by
  unfold law_tariff_o
  repeat (first | with_reducible exact nn_rt | with_reducible refine nn_if ?_ ?_ | with_reducible refine nn_bind fun _ => ?_ | with_reducible refine nn_match fun _ => ?_ | dsimp only)
theorem ok_law_tariff (fa : Fa K mg a) : FnOk P w0 K mg base CX0 3 a.law_tariff a.law_tariff_d ["_law_stream_here", "_law_last"] (spM (ol rInt) (ol rInt) (tp1 rInt) (rsF (rList (rTup (tpc rInt (tp1 rInt))))) law_tariff_pre law_tariff) := by
  have nd := sc_law_tariff.nd
  exact fnM2 (R1 := (fun _ => en)) (fo := law_tariff_o) (fin := (fun _ => default)) fa.f_law_tariff sc_law_tariff (fun _ _ _ h => congrArg (· + 1) (tp_len1 _ _ _ h)) (st0_one (st1_un (st1_un st1_nil))) (by decide) (fun v0 cdv A outer s H Ex hr =>
  (ts_seq (tl_setY (ty_newL (tn_list (ta_one (tx_tup (ta_cons tx_int (ta_one (tx_get (d := default) (tx_callM (tl_slot has0p (pv 0)) (ok_law_choose fa) hr (by decide) (by rfl) fa.g_law_choose fa.f_law_choose.kp fa.b_law_choose (ta_one (tx_newL (tn_list (ta_cons (tx_some tx_int) (ta_cons (tx_some tx_int) (ta_cons (tx_some tx_int) (ta_cons (tx_some tx_int) (ta_cons (tx_some tx_int) (ta_one (tx_some tx_int))))))) (rowc (rowc (rowc (rowc (rowc row1)))))))) (.inl rfl))))) (tp_lenc tp_len1))) row1)) (putS (putS put0)) nd (by rfl) (by exact .inl rfl))
  (ts_cons (t1_for (vs := [3]) (ti_range2 (ta_cons tx_int (ta_one (tx_op o_add (tx_var (hasS has0) (pv 1)) tx_int))) (by rfl) fa.n_range) (tg_name (putS (putS (putS put0))) (putS (putS (putS put0))) (hasS (hasS (hasS has0))) (by decide) nd (by rfl) (by exact .inl rfl)) (ts_one (t1_if (TW.tq (tw_and (tq_cmp o_eq (tx_callM (tl_slot has0p (pv 0)) (ok_law_draw fa) hr (by decide) (by rfl) fa.g_law_draw fa.f_law_draw.kp fa.b_law_draw (ta_one tx_int) (.inl rfl)) tx_int) (TW.pu (tw_and1 (tq_cmp o_lt (tx_callB c_lenL (by rfl) fa.n_len PySem.boot_len (ta_one (tx_atL (tl_slot (hasS (hasS has0)) (pv 2))))) tx_int)) (by rfl) (by rfl)))) (ts_seq (tl_appendT (tl_slot (hasS (hasS has0)) (pv 2)) (ta_one (tx_tup (ta_cons (tx_var (hasS (hasS (hasS has0))) (pv 3)) (ta_one (tx_get (d := default) (tx_callM (tl_slot has0p (pv 0)) (ok_law_choose fa) hr (by decide) (by rfl) fa.g_law_choose fa.f_law_choose.kp fa.b_law_choose (ta_one (tx_newL (tn_list (ta_cons (tx_some tx_int) (ta_cons (tx_some tx_int) (ta_cons (tx_some tx_int) (ta_cons (tx_some tx_int) (ta_cons (tx_some tx_int) (ta_one (tx_some tx_int))))))) (rowc (rowc (rowc (rowc (rowc row1)))))))) (.inl rfl))))) (tp_lenc tp_len1))) (.inr rfl) (fun _ _ h1 h2 => pe_bm PySem.F.plainAttrs_list PySem.F.slot_list_append PySem.F.type_list_append mt_append h1 h2))
  (ts_gh (gh_un (hasS (hasS (hasS has0))) (putS (putS (putS put0)))) ts_nil)) (ts_gh (gh_un (hasS (hasS (hasS has0))) (putS (putS (putS put0)))) ts_nil))) PassesOwn.never (by rfl))
  (ts_gh (gh_frL (hasS (hasS has0)) (putS (putS put0))) (ts_retM (tx_var (hasS (hasS has0)) (pv 2)) has0))))) (fun _ _ => by kernel_rfl) (fun _ _ => by kernel_rfl) (.inr ends_law_tariff)
/-! ### _law_charge -/
theorem sc_law_charge : FnScope ["_law_stream_here", "_law_last", "_law_begin", "_law_end", "_law_fine"] ["_law_stream_here", "_law_last"] (defScope s_law_charge) := ⟨rfl, rfl, rfl, by decide +kernel, rfl, by decide +kernel, by decide +kernel⟩
def law_charge_o (s : (List Int)) (z : Int) : Out Unit ((Int × Int × Int × (Option Int)) × (List Int)) := let r1 := law_draw s (z + (1 : Int)); let r2 := law_draw r1.2 ((z - r1.1) + (1 : Int)); let _law_end3 := (r1.1 + r2.1); let r4 := law_choose r2.2 ([(some (0 : Int)), (some (1 : Int)), (some (2 : Int)), (some (4 : Int)), (some (9 : Int)), (some (9 : Int)), (some (25 : Int)), (none : (Option Int))]); let r5 := law_choose r4.2 ([(some (0 : Int)), (some (0 : Int)), (some (1 : Int)), (some (1 : Int)), (some (2 : Int)), (some (5 : Int))]); .rt ((r1.1, _law_end3, (r5.1.getD default), r4.1), r5.2)
def law_charge (s : (List Int)) (z : Int) : ((Int × Int × Int × (Option Int)) × (List Int)) := (law_charge_o s z).get (fun _ => default)
def law_charge_pre (s : (List Int)) (z : Int) : Prop := let r1 := law_draw s (z + (1 : Int)); ((True ∧ True ∧ True) ∧ (law_draw_pre s (z + (1 : Int)))) ∧ (let r2 := law_draw r1.2 ((z - r1.1) + (1 : Int)); let _law_end3 := (r1.1 + r2.1); (True ∧ (((True ∧ True ∧ True) ∧ True ∧ True) ∧ (law_draw_pre r1.2 ((z - r1.1) + (1 : Int)))) ∧ True) ∧ (let r4 := law_choose r2.2 ([(some (0 : Int)), (some (1 : Int)), (some (2 : Int)), (some (4 : Int)), (some (9 : Int)), (some (9 : Int)), (some (25 : Int)), (none : (Option Int))]); ((True ∧ (True ∧ (True ∧ (True ∧ (True ∧ (True ∧ (True ∧ True))))))) ∧ (law_choose_pre r2.2 ([(some (0 : Int)), (some (1 : Int)), (some (2 : Int)), (some (4 : Int)), (some (9 : Int)), (some (9 : Int)), (some (25 : Int)), (none : (Option Int))]))) ∧ (let r5 := law_choose r4.2 ([(some (0 : Int)), (some (0 : Int)), (some (1 : Int)), (some (1 : Int)), (some (2 : Int)), (some (5 : Int))]); True ∧ (True ∧ ((((True ∧ (True ∧ (True ∧ (True ∧ (True ∧ True))))) ∧ (law_choose_pre r4.2 ([(some (0 : Int)), (some (0 : Int)), (some (1 : Int)), (some (1 : Int)), (some (2 : Int)), (some (5 : Int))]))) ∧ (r5.1.isSome = true)) ∧ True)))))
theorem ends_law_charge (s : (List Int)) (z : Int) : NN (law_charge_o s z) := by
  unfold law_charge_o
  repeat (first | with_reducible exact nn_rt | with_reducible refine nn_if ?_ ?_ | with_reducible refine nn_bind fun _ => ?_ | with_reducible refine nn_match fun _ => ?_ | dsimp only)
theorem ok_law_charge (fa : Fa K mg a) : FnOk P w0 K mg base CX0 3 a.law_charge a.law_charge_d ["_law_stream_here", "_law_last"] (spM (ol rInt) (ol rInt) (tp1 rInt) (rsF (rTup (tpc rInt (tpc rInt (tpc rInt (tp1 (rOpt rInt))))))) law_charge_pre law_charge) := by
  have nd := sc_law_charge.nd
  exact fnM2 (R1 := (fun _ => en)) (fo := law_charge_o) (fin := (fun _ => default)) fa.f_law_charge sc_law_charge (fun _ _ _ h => congrArg (· + 1) (tp_len1 _ _ _ h)) (st0_one (st1_un (st1_un (st1_un st1_nil)))) (by decide) (fun v0 cdv A outer s H Ex hr =>
  (ts_seq (tl_set (tx_callM (tl_slot has0p (pv 0)) (ok_law_draw fa) hr (by decide) (by rfl) fa.g_law_draw fa.f_law_draw.kp fa.b_law_draw (ta_one (tx_op o_add (tx_var (hasS has0) (pv 1)) tx_int)) (.inl rfl)) (putS (putS put0)) nd (by rfl) (by exact .inl rfl))
  (ts_seq (tl_set (tx_op o_add (tx_var (hasS (hasS has0)) (pv 2)) (tx_callM (tl_slot has0p (pv 0)) (ok_law_draw fa) hr (by decide) (by rfl) fa.g_law_draw fa.f_law_draw.kp fa.b_law_draw (ta_one (tx_op o_add (tx_op o_sub (tx_var (hasS has0) (pv 1)) (tx_var (hasS (hasS has0)) (pv 2))) tx_int)) (.inl rfl))) (putS (putS (putS put0))) nd (by rfl) (by exact .inl rfl))
  (ts_seq (tl_set (tx_callM (tl_slot has0p (pv 0)) (ok_law_choose fa) hr (by decide) (by rfl) fa.g_law_choose fa.f_law_choose.kp fa.b_law_choose (ta_one (tx_newL (tn_list (ta_cons (tx_some tx_int) (ta_cons (tx_some tx_int) (ta_cons (tx_some tx_int) (ta_cons (tx_some tx_int) (ta_cons (tx_some tx_int) (ta_cons (tx_some tx_int) (ta_cons (tx_some tx_int) (ta_one (tx_none (r := rInt)))))))))) (rowc (rowc (rowc (rowc (rowc (rowc (rowc row1)))))))))) (.inl rfl)) (putS (putS (putS (putS put0)))) nd (by rfl) (by exact .inl rfl))
  (ts_retM (tx_tup (ta_cons (tx_var (hasS (hasS has0)) (pv 2)) (ta_cons (tx_var (hasS (hasS (hasS has0))) (pv 3)) (ta_cons (tx_get (d := default) (tx_callM (tl_slot has0p (pv 0)) (ok_law_choose fa) hr (by decide) (by rfl) fa.g_law_choose fa.f_law_choose.kp fa.b_law_choose (ta_one (tx_newL (tn_list (ta_cons (tx_some tx_int) (ta_cons (tx_some tx_int) (ta_cons (tx_some tx_int) (ta_cons (tx_some tx_int) (ta_cons (tx_some tx_int) (ta_one (tx_some tx_int))))))) (rowc (rowc (rowc (rowc (rowc row1)))))))) (.inl rfl))) (ta_one (tx_var (hasS (hasS (hasS (hasS has0)))) (pv 4)))))) (tp_lenc (tp_lenc (tp_lenc tp_len1)))) has0))))) (fun _ _ => by kernel_rfl) (fun _ _ => by kernel_rfl) (.inr ends_law_charge)
/-! ### _law_charges -/
theorem sc_law_charges : FnScope ["_law_stream_here", "_law_most", "_law_last", "_law_found", "_law_many", "_law_row_id"] ["_law_stream_here", "_law_most", "_law_last"] (defScope s_law_charges) := ⟨rfl, rfl, rfl, by decide +kernel, rfl, by decide +kernel, by decide +kernel⟩
def law_charges_b7 (e : ((List Int) × Int × Int × (List (Int × (Int × Int × Int × (Option Int)))) × Int × Unit × Unit)) (x4 : Int) : Out ((List Int) × Int × Int × (List (Int × (Int × Int × Int × (Option Int)))) × Int × Unit × Unit) ((List (Int × (Int × Int × Int × (Option Int)))) × (List Int)) := let r5 := law_charge e.1 e.2.2.1; let d6 := dput e.2.2.2.1 x4 r5.1; .nx (r5.2, e.2.1, e.2.2.1, d6, e.2.2.2.2.1, (), ())
def law_charges_b7_p (e : ((List Int) × Int × Int × (List (Int × (Int × Int × Int × (Option Int)))) × Int × Unit × Unit)) (x4 : Int) : Prop := let r5 := law_charge e.1 e.2.2.1; let d6 := dput e.2.2.2.1 x4 r5.1; ((True ∧ (law_charge_pre e.1 e.2.2.1)) ∧ True ∧ (e.2.2.2.1.length < LIM)) ∧ True
def law_charges_o (s : (List Int)) (z : Int × Int) : Out Unit ((List (Int × (Int × Int × Int × (Option Int)))) × (List Int)) := let r1 := law_draw s (z.1 + (1 : Int)); let _law_found2 := ([] : (List (Int × (Int × Int × Int × (Option Int))))); let r3 := law_shuffled r1.2 ([(1 : Int), (2 : Int), (3 : Int), (5 : Int), (8 : Int), (13 : Int), (21 : Int), (1000000 : Int)]); (((forL law_charges_b7 (cut r3.1 none (some r1.1)) (r3.2, z.1, z.2, _law_found2, r1.1, (), ())) : Out ((List Int) × Int × Int × (List (Int × (Int × Int × Int × (Option Int)))) × Int × Unit × Unit) ((List (Int × (Int × Int × Int × (Option Int)))) × (List Int))).bind fun e8 => .rt (e8.2.2.2.1, e8.1))
def law_charges (s : (List Int)) (z : Int × Int) : ((List (Int × (Int × Int × Int × (Option Int)))) × (List Int)) := (law_charges_o s z).get (fun _ => default)
def law_charges_pre (s : (List Int)) (z : Int × Int) : Prop := let r1 := law_draw s (z.1 + (1 : Int)); let _law_found2 := ([] : (List (Int × (Int × Int × Int × (Option Int))))); (True ∧ ((True ∧ True ∧ True) ∧ (law_draw_pre s (z.1 + (1 : Int))))) ∧ (let r3 := law_shuffled r1.2 ([(1 : Int), (2 : Int), (3 : Int), (5 : Int), (8 : Int), (13 : Int), (21 : Int), (1000000 : Int)]); ((((True ∧ (True ∧ (True ∧ (True ∧ (True ∧ (True ∧ (True ∧ True))))))) ∧ (law_shuffled_pre r1.2 ([(1 : Int), (2 : Int), (3 : Int), (5 : Int), (8 : Int), (13 : Int), (21 : Int), (1000000 : Int)]))) ∧ True ∧ True) ∧ (forP law_charges_b7 law_charges_b7_p (cut r3.1 none (some r1.1)) (r3.2, z.1, z.2, _law_found2, r1.1, (), ()))) ∧ ∀ e8 : ((List Int) × Int × Int × (List (Int × (Int × Int × Int × (Option Int)))) × Int × Unit × Unit), ((forL law_charges_b7 (cut r3.1 none (some r1.1)) (r3.2, z.1, z.2, _law_found2, r1.1, (), ())) : Out ((List Int) × Int × Int × (List (Int × (Int × Int × Int × (Option Int)))) × Int × Unit × Unit) ((List (Int × (Int × Int × Int × (Option Int)))) × (List Int))) = .nx e8 → True)
theorem ends_law_charges (s : (List Int)) (z : Int × Int) : NN (law_charges_o s z) := by
  unfold law_charges_o
  repeat (first | with_reducible exact nn_rt | with_reducible refine nn_if ?_ ?_ | with_reducible refine nn_bind fun _ => ?_ | with_reducible refine nn_match fun _ => ?_ | dsimp only)
theorem ok_law_charges (fa : Fa K mg a) : FnOk P w0 K mg base CX0 4 a.law_charges a.law_charges_d ["_law_stream_here", "_law_most", "_law_last"] (spM (ol rInt) (ol rInt) (tpc rInt (tp1 rInt)) (rsF (rDict kInt (rTup (tpc rInt (tpc rInt (tpc rInt (tp1 (rOpt rInt)))))))) law_charges_pre law_charges) := by
  have nd := sc_law_charges.nd
  exact fnM2 (R1 := (fun _ => en)) (fo := law_charges_o) (fin := (fun _ => default)) fa.f_law_charges sc_law_charges (fun _ _ _ h => congrArg (· + 1) ((tp_lenc tp_len1) _ _ _ h)) (st0_cons (st0_one (st1_un (st1_un (st1_un st1_nil))))) (by decide) (fun v0 cdv A outer s H Ex hr =>
  (ts_seq (tl_par (ty_newD (tm_nil (kk := kInt) (s := (rTup (tpc rInt (tpc rInt (tpc rInt (tp1 (rOpt rInt))))))))) (ty_fr (tx_callM (tl_slot has0p (pv 0)) (ok_law_draw fa) hr (by decide) (by rfl) fa.g_law_draw fa.f_law_draw.kp fa.b_law_draw (ta_one (tx_op o_add (tx_var (hasS has0) (pv 1)) tx_int)) (.inl rfl))) (putS (putS (putS put0))) (putS (putS (putS (putS put0)))) (by rfl) nd (by rfl) (by rfl) (by decide) (by rfl) (by rfl) (by rfl))
  (ts_cons (t1_for (vs := [5]) (ti_list (tx_newL (tn_slice (tx_callM (tl_slot has0p (pv 0)) (ok_law_shuffled fa) hr (by decide) (by rfl) fa.g_law_shuffled fa.f_law_shuffled.kp fa.b_law_shuffled (ta_one (tx_newL (tn_list (ta_cons tx_int (ta_cons tx_int (ta_cons tx_int (ta_cons tx_int (ta_cons tx_int (ta_cons tx_int (ta_cons tx_int (ta_one tx_int)))))))) (rowc (rowc (rowc (rowc (rowc (rowc (rowc row1)))))))))) (.inl rfl)) to_none (to_some (TX.pu (tx_var (hasS (hasS (hasS (hasS has0)))) (pv 4)) (by rfl) (by rfl)))))) (tg_name (putS (putS (putS (putS (putS put0))))) (putS (putS (putS (putS (putS put0))))) (hasS (hasS (hasS (hasS (hasS has0))))) (by decide) nd (by rfl) (by exact .inl rfl)) (ts_seq (tl_dput (tl_slot (hasS (hasS (hasS has0))) (pv 3)) kk_int (hu_of hr) (tx_callM (tl_slot has0p (pv 0)) (ok_law_charge fa) hr (by decide) (by rfl) fa.g_law_charge fa.f_law_charge.kp fa.b_law_charge (ta_one (tx_var (hasS (hasS has0)) (pv 2))) (.inl rfl)) (TX.pu (tx_var (hasS (hasS (hasS (hasS (hasS has0))))) (pv 5)) (by rfl) (by rfl)))
  (ts_gh (gh_un (hasS (hasS (hasS (hasS (hasS has0))))) (putS (putS (putS (putS (putS put0)))))) ts_nil)) PassesOwn.never (by rfl))
  (ts_gh (gh_frD (hasS (hasS (hasS has0))) (putS (putS (putS put0)))) (ts_retM (tx_var (hasS (hasS (hasS has0))) (pv 3)) has0))))) (fun _ _ => by kernel_rfl) (fun _ _ => by kernel_rfl) (.inr ends_law_charges)
/-! ### _law_groups -/
theorem sc_law_groups : FnScope ["_law_ids", "_law_found", "_law_row_id", "_law_group"] ["_law_ids"] (defScope s_law_groups) := ⟨rfl, rfl, rfl, by decide +kernel, rfl, by decide +kernel, by decide +kernel⟩
def law_groups_b5 (e : ((List Int) × (List (List Int)) × Unit × Unit × Unit)) (x2 : Int) : Out ((List Int) × (List (List Int)) × Unit × Unit × Unit) (List (List Int)) := let _law_found4 := (e.2.1 ++ (e.2.1.map fun (x3 : (List Int)) => (x3 ++ ([x2])))); .nx (e.1, _law_found4, (), (), ())
def law_groups_b5_p (e : ((List Int) × (List (List Int)) × Unit × Unit × Unit)) (x2 : Int) : Prop := let _law_found4 := (e.2.1 ++ (e.2.1.map fun (x3 : (List Int)) => (x3 ++ ([x2])))); (True ∧ (True ∧ (∀ x3 ∈ e.2.1, True ∧ True ∧ (x3.length + ([x2]).length ≤ LIM))) ∧ (e.2.1.length + (e.2.1.map fun (x3 : (List Int)) => (x3 ++ ([x2]))).length ≤ LIM)) ∧ True
def law_groups_o (z : (List Int)) : Out Unit (List (List Int)) := let _law_found1 := [([] : (List Int))]; (((forL law_groups_b5 z (z, _law_found1, (), (), ())) : Out ((List Int) × (List (List Int)) × Unit × Unit × Unit) (List (List Int))).bind fun e6 => .rt e6.2.1)
def law_groups (z : (List Int)) : (List (List Int)) := (law_groups_o z).get (fun _ => default)
def law_groups_pre (z : (List Int)) : Prop := let _law_found1 := [([] : (List Int))]; True ∧ ((True ∧ (forP law_groups_b5 law_groups_b5_p z (z, _law_found1, (), (), ()))) ∧ ∀ e6 : ((List Int) × (List (List Int)) × Unit × Unit × Unit), ((forL law_groups_b5 z (z, _law_found1, (), (), ())) : Out ((List Int) × (List (List Int)) × Unit × Unit × Unit) (List (List Int))) = .nx e6 → True)
theorem ends_law_groups (z : (List Int)) : NN (law_groups_o z) := by
  unfold law_groups_o
  repeat (first | with_reducible exact nn_rt | with_reducible refine nn_if ?_ ?_ | with_reducible refine nn_bind fun _ => ?_ | with_reducible refine nn_match fun _ => ?_ | dsimp only)
theorem ok_law_groups (fa : Fa K mg a) : FnOk P w0 K mg base CX0 1 a.law_groups a.law_groups_d ["_law_ids"] (spP (tp1 (rList rInt)) (rsF (rList (rList rInt))) law_groups_pre law_groups) := by
  have nd := sc_law_groups.nd
  exact fnP2 (R1 := en) (fo := law_groups_o) (fin := (fun _ => default)) fa.f_law_groups sc_law_groups tp_len1 (st0_one (st1_un (st1_un (st1_un st1_nil)))) (fun cdv A outer s H Ex hr =>
  (ts_seq (tl_set (tx_newL (tn_list (ta_one (tx_newL (tn_list (r := rInt) (ta_nil (lv := true)) row0))) row1)) (putS put0) nd (by rfl) (by exact .inl rfl))
  (ts_cons (t1_for (vs := [2]) (ti_list (tx_var has0 (pv 0))) (tg_name (putS (putS put0)) (putS (putS put0)) (hasS (hasS has0)) (by decide) nd (by rfl) (by exact .inr rfl)) (ts_seq (tl_set (tx_newL (tn_cat (tx_var (hasS has0) (pv 1)) (tx_newL (tn_lc (lcM (own := [("_law_group", 3)]) (ti_list (tx_var (hasS has0) (pv 1))) (m := [false, false, false, true]) (ins_keep (ins_keep (ins_keep (ins_un ins_nil)))) (by decide) (fun _ _ _ _ _ => (tg_name (putS (putS (putS put0))) (putS (putS (putS put0))) (hasS (hasS (hasS has0))) (by decide) nd (by rfl) (by first | exact .inl rfl | exact .inr rfl))) (by intros; rfl) (fun _ _ _ _ _ => (TX.pu (tx_newL (tn_cat (tx_var (hasS (hasS (hasS has0))) (pv 3)) (tx_newL (tn_list (ta_one (tx_var (hasS (hasS has0)) (pv 2))) row1)))) (by rfl) (by rfl)))) (by rfl) nd (by kernel_rfl))))) (putS put0) nd (by rfl) (by exact .inl rfl))
  (ts_gh (gh_un (hasS (hasS has0)) (putS (putS put0))) ts_nil)) PassesOwn.never (by rfl))
  (ts_ret (tx_var (hasS has0) (pv 1)))))) (fun _ => by kernel_rfl) (fun _ => by kernel_rfl) (.inr ends_law_groups)
/-! ### law -/
theorem sc_law : FnScope ["_law_script", "_law_start", "_law_stream_here", "_law_charges_here", "_law_tariff_here", "_law_best", "_law_costs", "_law_group", "_law_row_id", "_law_look", "_law_shares", "_law_stay", "_law_cost", "_law_less"] ["_law_script"] (defScope s_law) := ⟨rfl, rfl, rfl, by decide +kernel, rfl, by decide +kernel, by decide +kernel⟩
def law_b11 (e : ((List Int) × Int × (List Int) × (List (Int × (Int × Int × Int × (Option Int)))) × (List (Int × Int)) × (List (Int × Int)) × (List ((List Int) × Int)) × Unit × Unit × Unit × Unit × Unit × Unit × Unit × Unit)) (x8 : (List Int)) : Out ((List Int) × Int × (List Int) × (List (Int × (Int × Int × Int × (Option Int)))) × (List (Int × Int)) × (List (Int × Int)) × (List ((List Int) × Int)) × Unit × Unit × Unit × Unit × Unit × Unit × Unit × Unit) Bool := let l10 := e.2.2.2.2.2.2.1 ++ [(x8, (least_cost ((dmerge [] (x8.map fun (x9 : Int) => (x9, ((dget e.2.2.2.1 x9).getD default)))), e.2.2.2.2.1)))]; .nx (e.1, e.2.1, e.2.2.1, e.2.2.2.1, e.2.2.2.2.1, e.2.2.2.2.2.1, l10, (), (), (), (), (), (), (), ())
def law_b11_p (e : ((List Int) × Int × (List Int) × (List (Int × (Int × Int × Int × (Option Int)))) × (List (Int × Int)) × (List (Int × Int)) × (List ((List Int) × Int)) × Unit × Unit × Unit × Unit × Unit × Unit × Unit × Unit)) (x8 : (List Int)) : Prop := let l10 := e.2.2.2.2.2.2.1 ++ [(x8, (least_cost ((dmerge [] (x8.map fun (x9 : Int) => (x9, ((dget e.2.2.2.1 x9).getD default)))), e.2.2.2.2.1)))]; ((True ∧ (((True ∧ (∀ x9 ∈ x8, True ∧ (True ∧ True ∧ ((dget e.2.2.2.1 x9).isSome = true)))) ∧ True) ∧ (least_cost_pre ((dmerge [] (x8.map fun (x9 : Int) => (x9, ((dget e.2.2.2.1 x9).getD default)))), e.2.2.2.2.1)))) ∧ (e.2.2.2.2.2.2.1.length < LIM)) ∧ True
def law_b18 (e : ((List Int) × Int × (List Int) × (List (Int × (Int × Int × Int × (Option Int)))) × (List (Int × Int)) × (List (Int × Int)) × (List ((List Int) × Int)) × Unit × Unit × Int × (List (Int × Int)) × Unit × Unit × Unit × Unit)) (x15 : Int) : Out ((List Int) × Int × (List Int) × (List (Int × (Int × Int × Int × (Option Int)))) × (List (Int × Int)) × (List (Int × Int)) × (List ((List Int) × Int)) × Unit × Unit × Int × (List (Int × Int)) × Unit × Unit × Unit × Unit) Bool := let r16 := law_choose e.2.2.1 ([(some (0 : Int)), (some (0 : Int)), (some (1 : Int)), (some ((0 : Int) - (1 : Int))), (some ((0 : Int) - (2 : Int))), (some (3 : Int))]); let d17 := dput e.2.2.2.2.2.2.2.2.2.2.1 x15 (max2 (0 : Int) (((dget e.2.2.2.2.2.1 x15).getD default) + (r16.1.getD default))); .nx (e.1, e.2.1, r16.2, e.2.2.2.1, e.2.2.2.2.1, e.2.2.2.2.2.1, e.2.2.2.2.2.2.1, (), (), e.2.2.2.2.2.2.2.2.2.1, d17, (), (), (), ())
def law_b18_p (e : ((List Int) × Int × (List Int) × (List (Int × (Int × Int × Int × (Option Int)))) × (List (Int × Int)) × (List (Int × Int)) × (List ((List Int) × Int)) × Unit × Unit × Int × (List (Int × Int)) × Unit × Unit × Unit × Unit)) (x15 : Int) : Prop := let r16 := law_choose e.2.2.1 ([(some (0 : Int)), (some (0 : Int)), (some (1 : Int)), (some ((0 : Int) - (1 : Int))), (some ((0 : Int) - (2 : Int))), (some (3 : Int))]); let d17 := dput e.2.2.2.2.2.2.2.2.2.2.1 x15 (max2 (0 : Int) (((dget e.2.2.2.2.2.1 x15).getD default) + (r16.1.getD default))); (((True ∧ ((True ∧ True ∧ ((dget e.2.2.2.2.2.1 x15).isSome = true)) ∧ (((True ∧ (True ∧ (True ∧ ((True ∧ True ∧ True) ∧ ((True ∧ True ∧ True) ∧ True))))) ∧ (law_choose_pre e.2.2.1 ([(some (0 : Int)), (some (0 : Int)), (some (1 : Int)), (some ((0 : Int) - (1 : Int))), (some ((0 : Int) - (2 : Int))), (some (3 : Int))]))) ∧ (r16.1.isSome = true)) ∧ True)) ∧ True) ∧ True ∧ (e.2.2.2.2.2.2.2.2.2.2.1.length < LIM)) ∧ True
def law_b23 (e : ((List Int) × Int × (List Int) × (List (Int × (Int × Int × Int × (Option Int)))) × (List (Int × Int)) × (List (Int × Int)) × (List ((List Int) × Int)) × Unit × Unit × Int × (List (Int × Int)) × Bool × Unit × Unit × Unit)) (x20 : ((List Int) × Int)) : Out ((List Int) × Int × (List Int) × (List (Int × (Int × Int × Int × (Option Int)))) × (List (Int × Int)) × (List (Int × Int)) × (List ((List Int) × Int)) × Unit × Unit × Int × (List (Int × Int)) × Bool × Unit × Unit × Unit) Bool := let _law_stay22 := (e.2.2.2.2.2.2.2.2.2.2.2.1 && decide (((x20.1.map fun (x21 : Int) => ((dget e.2.2.2.2.2.2.2.2.2.2.1 x21).getD default)).sum) ≤ x20.2)); .nx (e.1, e.2.1, e.2.2.1, e.2.2.2.1, e.2.2.2.2.1, e.2.2.2.2.2.1, e.2.2.2.2.2.2.1, (), (), e.2.2.2.2.2.2.2.2.2.1, e.2.2.2.2.2.2.2.2.2.2.1, _law_stay22, (), (), ())
def law_b23_p (e : ((List Int) × Int × (List Int) × (List (Int × (Int × Int × Int × (Option Int)))) × (List (Int × Int)) × (List (Int × Int)) × (List ((List Int) × Int)) × Unit × Unit × Int × (List (Int × Int)) × Bool × Unit × Unit × Unit)) (x20 : ((List Int) × Int)) : Prop := let _law_stay22 := (e.2.2.2.2.2.2.2.2.2.2.2.1 && decide (((x20.1.map fun (x21 : Int) => ((dget e.2.2.2.2.2.2.2.2.2.2.1 x21).getD default)).sum) ≤ x20.2)); (True ∧ (e.2.2.2.2.2.2.2.2.2.2.2.1 = true → (((True ∧ (∀ x21 ∈ x20.1, True ∧ ((dget e.2.2.2.2.2.2.2.2.2.2.1 x21).isSome = true))) ∧ True) ∧ True ∧ True))) ∧ True
def law_b25 (e : ((List Int) × Int × (List Int) × (List (Int × (Int × Int × Int × (Option Int)))) × (List (Int × Int)) × (List (Int × Int)) × (List ((List Int) × Int)) × Unit × Unit × Unit × Unit × Unit × Unit × Unit × Unit)) (x13 : Int) : Out ((List Int) × Int × (List Int) × (List (Int × (Int × Int × Int × (Option Int)))) × (List (Int × Int)) × (List (Int × Int)) × (List ((List Int) × Int)) × Unit × Unit × Unit × Unit × Unit × Unit × Unit × Unit) Bool := let _law_shares14 := ([] : (List (Int × Int))); (((forL law_b18 (e.2.2.2.1.map fun (x : Int × (Int × Int × Int × (Option Int))) => x.1) (e.1, e.2.1, e.2.2.1, e.2.2.2.1, e.2.2.2.2.1, e.2.2.2.2.2.1, e.2.2.2.2.2.2.1, (), (), x13, _law_shares14, (), (), (), ())) : Out ((List Int) × Int × (List Int) × (List (Int × (Int × Int × Int × (Option Int)))) × (List (Int × Int)) × (List (Int × Int)) × (List ((List Int) × Int)) × Unit × Unit × Int × (List (Int × Int)) × Unit × Unit × Unit × Unit) Bool).bind fun e19 => (((forL law_b23 e19.2.2.2.2.2.2.1 (e19.1, e19.2.1, e19.2.2.1, e19.2.2.2.1, e19.2.2.2.2.1, e19.2.2.2.2.2.1, e19.2.2.2.2.2.2.1, (), (), e19.2.2.2.2.2.2.2.2.2.1, e19.2.2.2.2.2.2.2.2.2.2.1, true, (), (), ())) : Out ((List Int) × Int × (List Int) × (List (Int × (Int × Int × Int × (Option Int)))) × (List (Int × Int)) × (List (Int × Int)) × (List ((List Int) × Int)) × Unit × Unit × Int × (List (Int × Int)) × Bool × Unit × Unit × Unit) Bool).bind fun e24 => (if (!decide ((are_right (e24.2.2.2.1, e24.2.2.2.2.1, e24.2.2.2.2.2.2.2.2.2.2.1)) = e24.2.2.2.2.2.2.2.2.2.2.2.1)) = true then (.rt false) else (if (!decide (((leavers (e24.2.2.2.1, e24.2.2.2.2.1, e24.2.2.2.2.2.2.2.2.2.2.1)).isNone) = e24.2.2.2.2.2.2.2.2.2.2.2.1)) = true then (.rt false) else .nx (e24.1, e24.2.1, e24.2.2.1, e24.2.2.2.1, e24.2.2.2.2.1, e24.2.2.2.2.2.1, e24.2.2.2.2.2.2.1, (), (), (), (), (), (), (), ())))))
def law_b25_p (e : ((List Int) × Int × (List Int) × (List (Int × (Int × Int × Int × (Option Int)))) × (List (Int × Int)) × (List (Int × Int)) × (List ((List Int) × Int)) × Unit × Unit × Unit × Unit × Unit × Unit × Unit × Unit)) (x13 : Int) : Prop := let _law_shares14 := ([] : (List (Int × Int))); True ∧ ((True ∧ (forP law_b18 law_b18_p (e.2.2.2.1.map fun (x : Int × (Int × Int × Int × (Option Int))) => x.1) (e.1, e.2.1, e.2.2.1, e.2.2.2.1, e.2.2.2.2.1, e.2.2.2.2.2.1, e.2.2.2.2.2.2.1, (), (), x13, _law_shares14, (), (), (), ()))) ∧ ∀ e19 : ((List Int) × Int × (List Int) × (List (Int × (Int × Int × Int × (Option Int)))) × (List (Int × Int)) × (List (Int × Int)) × (List ((List Int) × Int)) × Unit × Unit × Int × (List (Int × Int)) × Unit × Unit × Unit × Unit), ((forL law_b18 (e.2.2.2.1.map fun (x : Int × (Int × Int × Int × (Option Int))) => x.1) (e.1, e.2.1, e.2.2.1, e.2.2.2.1, e.2.2.2.2.1, e.2.2.2.2.2.1, e.2.2.2.2.2.2.1, (), (), x13, _law_shares14, (), (), (), ())) : Out ((List Int) × Int × (List Int) × (List (Int × (Int × Int × Int × (Option Int)))) × (List (Int × Int)) × (List (Int × Int)) × (List ((List Int) × Int)) × Unit × Unit × Int × (List (Int × Int)) × Unit × Unit × Unit × Unit) Bool) = .nx e19 → (True ∧ ((True ∧ (forP law_b23 law_b23_p e19.2.2.2.2.2.2.1 (e19.1, e19.2.1, e19.2.2.1, e19.2.2.2.1, e19.2.2.2.2.1, e19.2.2.2.2.2.1, e19.2.2.2.2.2.2.1, (), (), e19.2.2.2.2.2.2.2.2.2.1, e19.2.2.2.2.2.2.2.2.2.2.1, true, (), (), ()))) ∧ ∀ e24 : ((List Int) × Int × (List Int) × (List (Int × (Int × Int × Int × (Option Int)))) × (List (Int × Int)) × (List (Int × Int)) × (List ((List Int) × Int)) × Unit × Unit × Int × (List (Int × Int)) × Bool × Unit × Unit × Unit), ((forL law_b23 e19.2.2.2.2.2.2.1 (e19.1, e19.2.1, e19.2.2.1, e19.2.2.2.1, e19.2.2.2.2.1, e19.2.2.2.2.2.1, e19.2.2.2.2.2.2.1, (), (), e19.2.2.2.2.2.2.2.2.2.1, e19.2.2.2.2.2.2.2.2.2.2.1, true, (), (), ())) : Out ((List Int) × Int × (List Int) × (List (Int × (Int × Int × Int × (Option Int)))) × (List (Int × Int)) × (List (Int × Int)) × (List ((List Int) × Int)) × Unit × Unit × Int × (List (Int × Int)) × Bool × Unit × Unit × Unit) Bool) = .nx e24 → ((((True ∧ (True ∧ True)) ∧ (are_right_pre (e24.2.2.2.1, e24.2.2.2.2.1, e24.2.2.2.2.2.2.2.2.2.2.1))) ∧ True ∧ True) ∧ ((!decide ((are_right (e24.2.2.2.1, e24.2.2.2.2.1, e24.2.2.2.2.2.2.2.2.2.2.1)) = e24.2.2.2.2.2.2.2.2.2.2.2.1)) = true → True) ∧ ((!decide ((are_right (e24.2.2.2.1, e24.2.2.2.2.1, e24.2.2.2.2.2.2.2.2.2.2.1)) = e24.2.2.2.2.2.2.2.2.2.2.2.1)) = false → (((((True ∧ (True ∧ True)) ∧ (leavers_pre (e24.2.2.2.1, e24.2.2.2.2.1, e24.2.2.2.2.2.2.2.2.2.2.1))) ∧ True ∧ True) ∧ True ∧ True) ∧ ((!decide (((leavers (e24.2.2.2.1, e24.2.2.2.2.1, e24.2.2.2.2.2.2.2.2.2.2.1)).isNone) = e24.2.2.2.2.2.2.2.2.2.2.2.1)) = true → True) ∧ ((!decide (((leavers (e24.2.2.2.1, e24.2.2.2.2.1, e24.2.2.2.2.2.2.2.2.2.2.1)).isNone) = e24.2.2.2.2.2.2.2.2.2.2.2.1)) = false → True)))))))
def law_b29 (e : ((List Int) × Int × (List Int) × (List (Int × (Int × Int × Int × (Option Int)))) × (List (Int × Int)) × (List (Int × Int)) × (List ((List Int) × Int)) × Unit × Unit × Unit × Unit × Unit × Unit × Unit × Unit)) (x27 : Int) : Out ((List Int) × Int × (List Int) × (List (Int × (Int × Int × Int × (Option Int)))) × (List (Int × Int)) × (List (Int × Int)) × (List ((List Int) × Int)) × Unit × Unit × Unit × Unit × Unit × Unit × Unit × Unit) Bool := let _law_less28 := ((least_cost (e.2.2.2.1, e.2.2.2.2.1)) - (least_cost ((without (e.2.2.2.1, x27)), e.2.2.2.2.1))); (if (!(decide ((0 : Int) ≤ _law_less28) && (decide (_law_less28 ≤ ((dget e.2.2.2.2.2.1 x27).getD default)) && decide (((dget e.2.2.2.2.2.1 x27).getD default) ≤ (cost_alone (e.2.2.2.1, e.2.2.2.2.1, x27)))))) = true then (.rt false) else .nx (e.1, e.2.1, e.2.2.1, e.2.2.2.1, e.2.2.2.2.1, e.2.2.2.2.2.1, e.2.2.2.2.2.2.1, (), (), (), (), (), (), (), ()))
def law_b29_p (e : ((List Int) × Int × (List Int) × (List (Int × (Int × Int × Int × (Option Int)))) × (List (Int × Int)) × (List (Int × Int)) × (List ((List Int) × Int)) × Unit × Unit × Unit × Unit × Unit × Unit × Unit × Unit)) (x27 : Int) : Prop := let _law_less28 := ((least_cost (e.2.2.2.1, e.2.2.2.2.1)) - (least_cost ((without (e.2.2.2.1, x27)), e.2.2.2.2.1))); (((True ∧ True) ∧ (least_cost_pre (e.2.2.2.1, e.2.2.2.2.1))) ∧ ((((True ∧ True) ∧ (without_pre (e.2.2.2.1, x27))) ∧ True) ∧ (least_cost_pre ((without (e.2.2.2.1, x27)), e.2.2.2.2.1))) ∧ True) ∧ ((True ∧ True ∧ True ∧ (decide ((0 : Int) ≤ _law_less28) = true → (True ∧ True ∧ ((dget e.2.2.2.2.2.1 x27).isSome = true)) ∧ True ∧ (decide (_law_less28 ≤ ((dget e.2.2.2.2.2.1 x27).getD default)) = true → ((True ∧ (True ∧ True)) ∧ (cost_alone_pre (e.2.2.2.1, e.2.2.2.2.1, x27))) ∧ True))) ∧ ((!(decide ((0 : Int) ≤ _law_less28) && (decide (_law_less28 ≤ ((dget e.2.2.2.2.2.1 x27).getD default)) && decide (((dget e.2.2.2.2.2.1 x27).getD default) ≤ (cost_alone (e.2.2.2.1, e.2.2.2.2.1, x27)))))) = true → True) ∧ ((!(decide ((0 : Int) ≤ _law_less28) && (decide (_law_less28 ≤ ((dget e.2.2.2.2.2.1 x27).getD default)) && decide (((dget e.2.2.2.2.2.1 x27).getD default) ≤ (cost_alone (e.2.2.2.1, e.2.2.2.2.1, x27)))))) = false → True))
def law_b31 (e : ((List Int) × Unit × Unit × Unit × Unit × Unit × Unit × Unit × Unit × Unit × Unit × Unit × Unit × Unit × Unit)) (x1 : Int) : Out ((List Int) × Unit × Unit × Unit × Unit × Unit × Unit × Unit × Unit × Unit × Unit × Unit × Unit × Unit × Unit) Bool := let _law_stream_here2 := (law_stream (e.1, x1)); let r3 := law_charges _law_stream_here2 ((5 : Int), (7 : Int)); let r4 := law_tariff r3.2 (7 : Int); let u5 := (r3.1, r4.1); let _law_best6 := (urgent_shares (u5.1, u5.2)); let _law_costs7 := ([] : (List ((List Int) × Int))); (((forL law_b11 (law_groups (srt (u5.1.map fun (x : Int × (Int × Int × Int × (Option Int))) => x.1))) (e.1, x1, r4.2, u5.1, u5.2, _law_best6, _law_costs7, (), (), (), (), (), (), (), ())) : Out ((List Int) × Int × (List Int) × (List (Int × (Int × Int × Int × (Option Int)))) × (List (Int × Int)) × (List (Int × Int)) × (List ((List Int) × Int)) × Unit × Unit × Unit × Unit × Unit × Unit × Unit × Unit) Bool).bind fun e12 => (if ((!decide (((e12.2.2.2.2.2.1.map fun (x : Int × Int) => x.2).sum) = ((geti e12.2.2.2.2.2.2.1 (-(1 : Int))).2))) || (!decide ((are_right (e12.2.2.2.1, e12.2.2.2.2.1, e12.2.2.2.2.2.1)) = true))) = true then (.rt false) else (((forL law_b25 (rng 0 ((10 : Int)).toNat) (e12.1, e12.2.1, e12.2.2.1, e12.2.2.2.1, e12.2.2.2.2.1, e12.2.2.2.2.2.1, e12.2.2.2.2.2.2.1, (), (), (), (), (), (), (), ())) : Out ((List Int) × Int × (List Int) × (List (Int × (Int × Int × Int × (Option Int)))) × (List (Int × Int)) × (List (Int × Int)) × (List ((List Int) × Int)) × Unit × Unit × Unit × Unit × Unit × Unit × Unit × Unit) Bool).bind fun e26 => (((forL law_b29 (e26.2.2.2.1.map fun (x : Int × (Int × Int × Int × (Option Int))) => x.1) (e26.1, e26.2.1, e26.2.2.1, e26.2.2.2.1, e26.2.2.2.2.1, e26.2.2.2.2.2.1, e26.2.2.2.2.2.2.1, (), (), (), (), (), (), (), ())) : Out ((List Int) × Int × (List Int) × (List (Int × (Int × Int × Int × (Option Int)))) × (List (Int × Int)) × (List (Int × Int)) × (List ((List Int) × Int)) × Unit × Unit × Unit × Unit × Unit × Unit × Unit × Unit) Bool).bind fun e30 => .nx (e30.1, (), (), (), (), (), (), (), (), (), (), (), (), (), ())))))
def law_b31_p (e : ((List Int) × Unit × Unit × Unit × Unit × Unit × Unit × Unit × Unit × Unit × Unit × Unit × Unit × Unit × Unit)) (x1 : Int) : Prop := let _law_stream_here2 := (law_stream (e.1, x1)); ((True ∧ True) ∧ (law_stream_pre (e.1, x1))) ∧ (let r3 := law_charges _law_stream_here2 ((5 : Int), (7 : Int)); let r4 := law_tariff r3.2 (7 : Int); let u5 := (r3.1, r4.1); (((True ∧ True) ∧ (law_charges_pre _law_stream_here2 ((5 : Int), (7 : Int)))) ∧ (True ∧ (law_tariff_pre r3.2 (7 : Int)))) ∧ (let _law_best6 := (urgent_shares (u5.1, u5.2)); let _law_costs7 := ([] : (List ((List Int) × Int))); (((True ∧ True) ∧ (urgent_shares_pre (u5.1, u5.2))) ∧ True) ∧ ((((True ∧ (u5.1.length < 64)) ∧ (law_groups_pre (srt (u5.1.map fun (x : Int × (Int × Int × Int × (Option Int))) => x.1)))) ∧ (forP law_b11 law_b11_p (law_groups (srt (u5.1.map fun (x : Int × (Int × Int × Int × (Option Int))) => x.1))) (e.1, x1, r4.2, u5.1, u5.2, _law_best6, _law_costs7, (), (), (), (), (), (), (), ()))) ∧ ∀ e12 : ((List Int) × Int × (List Int) × (List (Int × (Int × Int × Int × (Option Int)))) × (List (Int × Int)) × (List (Int × Int)) × (List ((List Int) × Int)) × Unit × Unit × Unit × Unit × Unit × Unit × Unit × Unit), ((forL law_b11 (law_groups (srt (u5.1.map fun (x : Int × (Int × Int × Int × (Option Int))) => x.1))) (e.1, x1, r4.2, u5.1, u5.2, _law_best6, _law_costs7, (), (), (), (), (), (), (), ())) : Out ((List Int) × Int × (List Int) × (List (Int × (Int × Int × Int × (Option Int)))) × (List (Int × Int)) × (List (Int × Int)) × (List ((List Int) × Int)) × Unit × Unit × Unit × Unit × Unit × Unit × Unit × Unit) Bool) = .nx e12 → ((((True ∧ True) ∧ (True ∧ ((at? e12.2.2.2.2.2.2.1 (-(1 : Int))).isSome = true)) ∧ True) ∧ ((!decide (((e12.2.2.2.2.2.1.map fun (x : Int × Int) => x.2).sum) = ((geti e12.2.2.2.2.2.2.1 (-(1 : Int))).2))) = false → (((True ∧ (True ∧ True)) ∧ (are_right_pre (e12.2.2.2.1, e12.2.2.2.2.1, e12.2.2.2.2.2.1))) ∧ True ∧ True))) ∧ (((!decide (((e12.2.2.2.2.2.1.map fun (x : Int × Int) => x.2).sum) = ((geti e12.2.2.2.2.2.2.1 (-(1 : Int))).2))) || (!decide ((are_right (e12.2.2.2.1, e12.2.2.2.2.1, e12.2.2.2.2.2.1)) = true))) = true → True) ∧ (((!decide (((e12.2.2.2.2.2.1.map fun (x : Int × Int) => x.2).sum) = ((geti e12.2.2.2.2.2.2.1 (-(1 : Int))).2))) || (!decide ((are_right (e12.2.2.2.1, e12.2.2.2.2.1, e12.2.2.2.2.2.1)) = true))) = false → (((True ∧ (-LIM ≤ (10 : Int)) ∧ ((10 : Int) ≤ LIM)) ∧ (forP law_b25 law_b25_p (rng 0 ((10 : Int)).toNat) (e12.1, e12.2.1, e12.2.2.1, e12.2.2.2.1, e12.2.2.2.2.1, e12.2.2.2.2.2.1, e12.2.2.2.2.2.2.1, (), (), (), (), (), (), (), ()))) ∧ ∀ e26 : ((List Int) × Int × (List Int) × (List (Int × (Int × Int × Int × (Option Int)))) × (List (Int × Int)) × (List (Int × Int)) × (List ((List Int) × Int)) × Unit × Unit × Unit × Unit × Unit × Unit × Unit × Unit), ((forL law_b25 (rng 0 ((10 : Int)).toNat) (e12.1, e12.2.1, e12.2.2.1, e12.2.2.2.1, e12.2.2.2.2.1, e12.2.2.2.2.2.1, e12.2.2.2.2.2.2.1, (), (), (), (), (), (), (), ())) : Out ((List Int) × Int × (List Int) × (List (Int × (Int × Int × Int × (Option Int)))) × (List (Int × Int)) × (List (Int × Int)) × (List ((List Int) × Int)) × Unit × Unit × Unit × Unit × Unit × Unit × Unit × Unit) Bool) = .nx e26 → ((True ∧ (forP law_b29 law_b29_p (e26.2.2.2.1.map fun (x : Int × (Int × Int × Int × (Option Int))) => x.1) (e26.1, e26.2.1, e26.2.2.1, e26.2.2.2.1, e26.2.2.2.2.1, e26.2.2.2.2.2.1, e26.2.2.2.2.2.2.1, (), (), (), (), (), (), (), ()))) ∧ ∀ e30 : ((List Int) × Int × (List Int) × (List (Int × (Int × Int × Int × (Option Int)))) × (List (Int × Int)) × (List (Int × Int)) × (List ((List Int) × Int)) × Unit × Unit × Unit × Unit × Unit × Unit × Unit × Unit), ((forL law_b29 (e26.2.2.2.1.map fun (x : Int × (Int × Int × Int × (Option Int))) => x.1) (e26.1, e26.2.1, e26.2.2.1, e26.2.2.2.1, e26.2.2.2.2.1, e26.2.2.2.2.2.1, e26.2.2.2.2.2.2.1, (), (), (), (), (), (), (), ())) : Out ((List Int) × Int × (List Int) × (List (Int × (Int × Int × Int × (Option Int)))) × (List (Int × Int)) × (List (Int × Int)) × (List ((List Int) × Int)) × Unit × Unit × Unit × Unit × Unit × Unit × Unit × Unit) Bool) = .nx e30 → True)))))))
def law_o (z : (List Int)) : Out Unit Bool := (((forL law_b31 (rng 0 ((max2 (1 : Int) (min2 (2 : Int) (z.length : Int)))).toNat) (z, (), (), (), (), (), (), (), (), (), (), (), (), (), ())) : Out ((List Int) × Unit × Unit × Unit × Unit × Unit × Unit × Unit × Unit × Unit × Unit × Unit × Unit × Unit × Unit) Bool).bind fun e32 => .rt true)
def law (z : (List Int)) : Bool := (law_o z).get (fun _ => default)
def law_pre (z : (List Int)) : Prop := ((((True ∧ ((True ∧ (True ∧ True)) ∧ True)) ∧ True) ∧ (-LIM ≤ (max2 (1 : Int) (min2 (2 : Int) (z.length : Int)))) ∧ ((max2 (1 : Int) (min2 (2 : Int) (z.length : Int))) ≤ LIM)) ∧ (forP law_b31 law_b31_p (rng 0 ((max2 (1 : Int) (min2 (2 : Int) (z.length : Int)))).toNat) (z, (), (), (), (), (), (), (), (), (), (), (), (), (), ()))) ∧ ∀ e32 : ((List Int) × Unit × Unit × Unit × Unit × Unit × Unit × Unit × Unit × Unit × Unit × Unit × Unit × Unit × Unit), ((forL law_b31 (rng 0 ((max2 (1 : Int) (min2 (2 : Int) (z.length : Int)))).toNat) (z, (), (), (), (), (), (), (), (), (), (), (), (), (), ())) : Out ((List Int) × Unit × Unit × Unit × Unit × Unit × Unit × Unit × Unit × Unit × Unit × Unit × Unit × Unit × Unit) Bool) = .nx e32 → True
theorem ends_law (z : (List Int)) : NN (law_o z) := by
  unfold law_o
  repeat (first | with_reducible exact nn_rt | with_reducible refine nn_if ?_ ?_ | with_reducible refine nn_bind fun _ => ?_ | with_reducible refine nn_match fun _ => ?_ | dsimp only)
theorem ok_law (fa : Fa K mg a) : FnOk P w0 K mg base CX0 108 a.law a.law_d ["_law_script"] (spP (tp1 (rScr K)) (rsF rBool) law_pre law) := by
  have nd := sc_law.nd
  exact fnP2 (R1 := en) (fo := law_o) (fin := (fun _ => default)) fa.f_law sc_law tp_len1 (st0_one (st1_un (st1_un (st1_un (st1_un (st1_un (st1_un (st1_un (st1_un (st1_un (st1_un (st1_un (st1_un (st1_un st1_nil)))))))))))))) (fun cdv A outer s H Ex hr =>
  (ts_cons (t1_for (vs := [1]) (ti_range1 (ta_one (tx_callB (c_max2 (by rfl)) (by rfl) fa.n_max rfl (ta_cons tx_int (ta_one (tx_callB (c_min2 (by rfl)) (by rfl) fa.n_min rfl (ta_cons tx_int (ta_one (tx_callB c_lenS (by rfl) fa.n_len PySem.boot_len (ta_one (tx_var has0 (pv 0))))))))))) (by rfl) fa.n_range) (tg_name (putS put0) (putS put0) (hasS has0) (by decide) nd (by rfl) (by exact .inl rfl)) (ts_seq (tl_setY (ty_call (ok_law_stream fa) hr (by decide) (by rfl) fa.g_law_stream fa.f_law_stream.kp fa.b_law_stream (ta_cons (tx_var has0 (pv 0)) (ta_one (tx_var (hasS has0) (pv 1))))) (putS (putS put0)) nd (by rfl) (by exact .inl rfl))
  (ts_seq (tl_unpack (vs := [3, 4]) (tx_tup (ta_cons (tx_callM (tl_slot (hasS (hasS has0)) (pv 2)) (ok_law_charges fa) hr (by decide) (by rfl) fa.g_law_charges fa.f_law_charges.kp fa.b_law_charges (ta_cons tx_int (ta_one tx_int)) (.inl rfl)) (ta_one (tx_callM (tl_slot (hasS (hasS has0)) (pv 2)) (ok_law_tariff fa) hr (by decide) (by rfl) fa.g_law_tariff fa.f_law_tariff.kp fa.b_law_tariff (ta_one tx_int) (.inl rfl)))) (tp_lenc tp_len1)) (tg_tup (tgs_cons (tg_name (putS (putS (putS put0))) (putS (putS (putS put0))) (hasS (hasS (hasS has0))) (by decide) nd (by rfl) (by exact .inr rfl)) (tgs_one (tg_name (putS (putS (putS (putS put0)))) (putS (putS (putS (putS put0)))) (hasS (hasS (hasS (hasS has0)))) (by decide) nd (by rfl) (by exact .inl rfl)))) (by rfl) (tp_lenc tp_len1)))
  (ts_seq (tl_par (ty_fr (tx_call (ok_urgent_shares fa) hr (by decide) (by rfl) fa.g_urgent_shares fa.f_urgent_shares.kp fa.b_urgent_shares (ta_cons (tx_var (hasS (hasS (hasS has0))) (pv 3)) (ta_one (tx_var (hasS (hasS (hasS (hasS has0)))) (pv 4)))))) (ty_newL (tn_list (r := (rTup (tpc (rList rInt) (tp1 rInt)))) (ta_nil (lv := true)) row0)) (putS (putS (putS (putS (putS put0))))) (putS (putS (putS (putS (putS (putS put0)))))) (by rfl) nd (by rfl) (by rfl) (by decide) (by rfl) (by rfl) (by rfl))
  (ts_cons (t1_for (vs := [7]) (ti_list (tx_call (ok_law_groups fa) hr (by decide) (by rfl) fa.g_law_groups fa.f_law_groups.kp fa.b_law_groups (ta_one (tx_newL (tn_callB (c_sortD (by rfl)) (by rfl) fa.n_sorted rfl (ta_one (tx_var (hasS (hasS (hasS has0))) (pv 3)))))))) (tg_name (putS (putS (putS (putS (putS (putS (putS put0))))))) (putS (putS (putS (putS (putS (putS (putS put0))))))) (hasS (hasS (hasS (hasS (hasS (hasS (hasS has0))))))) (by decide) nd (by rfl) (by exact .inl rfl)) (ts_seq (tl_appendT (tl_slot (hasS (hasS (hasS (hasS (hasS (hasS has0)))))) (pv 6)) (ta_one (tx_tup (ta_cons (tx_var (hasS (hasS (hasS (hasS (hasS (hasS (hasS has0))))))) (pv 7)) (ta_one (tx_call (ok_least_cost fa) hr (by decide) (by rfl) fa.g_least_cost fa.f_least_cost.kp fa.b_least_cost (ta_cons (tx_newD (tm_dictP kk_int (by rfl) (by rfl) fa.n_dict (ta_one (tx_newL (tn_lc (lcM (own := [("_law_row_id", 8)]) (ti_list (tx_var (hasS (hasS (hasS (hasS (hasS (hasS (hasS has0))))))) (pv 7))) (m := [false, false, false, false, false, false, false, false, true, false, false, false, false, false]) (ins_keep (ins_keep (ins_keep (ins_keep (ins_keep (ins_keep (ins_keep (ins_keep (ins_un (ins_keep (ins_keep (ins_keep (ins_keep (ins_keep ins_nil)))))))))))))) (by decide) (fun _ _ _ _ _ => (tg_name (putS (putS (putS (putS (putS (putS (putS (putS put0)))))))) (putS (putS (putS (putS (putS (putS (putS (putS put0)))))))) (hasS (hasS (hasS (hasS (hasS (hasS (hasS (hasS has0)))))))) (by decide) nd (by rfl) (by first | exact .inl rfl | exact .inr rfl))) (by intros; rfl) (fun _ _ _ _ _ => (TX.pu (tx_tup (ta_cons (tx_var (hasS (hasS (hasS (hasS (hasS (hasS (hasS (hasS has0)))))))) (pv 8)) (ta_one (tx_dget kk_int (hu_of hr) (tx_var (hasS (hasS (hasS has0))) (pv 3)) (tx_var (hasS (hasS (hasS (hasS (hasS (hasS (hasS (hasS has0)))))))) (pv 8))))) (tp_lenc tp_len1)) (by rfl) (by rfl)))) (by rfl) nd (by kernel_rfl)))))) (ta_one (tx_var (hasS (hasS (hasS (hasS has0)))) (pv 4))))))) (tp_lenc tp_len1))) (.inl rfl) (fun _ _ h1 h2 => pe_bm PySem.F.plainAttrs_list PySem.F.slot_list_append PySem.F.type_list_append mt_append h1 h2))
  (ts_gh (gh_un (hasS (hasS (hasS (hasS (hasS (hasS (hasS has0))))))) (putS (putS (putS (putS (putS (putS (putS put0)))))))) ts_nil)) PassesOwn.never (by rfl))
  (ts_ifR (TW.tq (tw_or (tq_cmp o_ne (tx_callB (c_sum (by rfl)) (by rfl) fa.n_sum rfl (ta_one (tx_newL (tn_listVals (by rfl) (tx_var (hasS (hasS (hasS (hasS (hasS has0))))) (pv 5)) (by rfl) fa.n_list)))) (tx_ixT (tx_ixAt (tl_slot (hasS (hasS (hasS (hasS (hasS (hasS has0)))))) (pv 6)) (tx_neg tx_int) (.inl rfl)) (atS at1))) (TW.pu (tw_or1 (tq_cmp o_notB (tx_call (ok_are_right fa) hr (by decide) (by rfl) fa.g_are_right fa.f_are_right.kp fa.b_are_right (ta_cons (tx_var (hasS (hasS (hasS has0))) (pv 3)) (ta_cons (tx_var (hasS (hasS (hasS (hasS has0)))) (pv 4)) (ta_one (tx_var (hasS (hasS (hasS (hasS (hasS has0))))) (pv 5)))))) tx_bl)) (by rfl) (by rfl)))) (ts_ret tx_bl) (fun _ _ h => by cases h)
  (ts_gh (gh_frL (hasS (hasS (hasS (hasS (hasS (hasS has0)))))) (putS (putS (putS (putS (putS (putS put0))))))) (ts_cons (t1_for (vs := [9]) (ti_range1 (ta_one tx_int) (by rfl) fa.n_range) (tg_name (putS (putS (putS (putS (putS (putS (putS (putS (putS put0))))))))) (putS (putS (putS (putS (putS (putS (putS (putS (putS put0))))))))) (hasS (hasS (hasS (hasS (hasS (hasS (hasS (hasS (hasS has0))))))))) (by decide) nd (by rfl) (by exact .inl rfl)) (ts_seq (tl_setY (ty_newD (tm_nil (kk := kInt) (s := rInt))) (putS (putS (putS (putS (putS (putS (putS (putS (putS (putS put0)))))))))) nd (by rfl) (by exact .inr rfl))
  (ts_cons (t1_for (vs := [8]) (ti_keys (tx_var (hasS (hasS (hasS has0))) (pv 3)) rInt hk_int) (tg_name (putS (putS (putS (putS (putS (putS (putS (putS put0)))))))) (putS (putS (putS (putS (putS (putS (putS (putS put0)))))))) (hasS (hasS (hasS (hasS (hasS (hasS (hasS (hasS has0)))))))) (by decide) nd (by rfl) (by exact .inl rfl)) (ts_seq (tl_dput (tl_slot (hasS (hasS (hasS (hasS (hasS (hasS (hasS (hasS (hasS (hasS has0)))))))))) (pv 10)) kk_int (hu_of hr) (tx_callB (c_max2 (by rfl)) (by rfl) fa.n_max rfl (ta_cons tx_int (ta_one (tx_op o_add (tx_dget kk_int (hu_of hr) (tx_var (hasS (hasS (hasS (hasS (hasS has0))))) (pv 5)) (tx_var (hasS (hasS (hasS (hasS (hasS (hasS (hasS (hasS has0)))))))) (pv 8))) (tx_get (d := default) (tx_callM (tl_slot (hasS (hasS has0)) (pv 2)) (ok_law_choose fa) hr (by decide) (by rfl) fa.g_law_choose fa.f_law_choose.kp fa.b_law_choose (ta_one (tx_newL (tn_list (ta_cons (tx_some tx_int) (ta_cons (tx_some tx_int) (ta_cons (tx_some tx_int) (ta_cons (tx_some (tx_op o_sub tx_int tx_int)) (ta_cons (tx_some (tx_op o_sub tx_int tx_int)) (ta_one (tx_some tx_int))))))) (rowc (rowc (rowc (rowc (rowc row1)))))))) (.inl rfl))))))) (TX.pu (tx_var (hasS (hasS (hasS (hasS (hasS (hasS (hasS (hasS has0)))))))) (pv 8)) (by rfl) (by rfl)))
  (ts_gh (gh_un (hasS (hasS (hasS (hasS (hasS (hasS (hasS (hasS has0)))))))) (putS (putS (putS (putS (putS (putS (putS (putS put0))))))))) ts_nil)) PassesOwn.never (by rfl))
  (ts_seq (tl_set tx_bl (putS (putS (putS (putS (putS (putS (putS (putS (putS (putS (putS put0))))))))))) nd (by rfl) (by exact .inl rfl))
  (ts_cons (t1_for (vs := [7, 12]) (ti_list (tx_var (hasS (hasS (hasS (hasS (hasS (hasS has0)))))) (pv 6))) (tg_tup (tgs_cons (tg_name (putS (putS (putS (putS (putS (putS (putS put0))))))) (putS (putS (putS (putS (putS (putS (putS put0))))))) (hasS (hasS (hasS (hasS (hasS (hasS (hasS has0))))))) (by decide) nd (by rfl) (by exact .inl rfl)) (tgs_one (tg_name (putS (putS (putS (putS (putS (putS (putS (putS (putS (putS (putS (putS put0)))))))))))) (putS (putS (putS (putS (putS (putS (putS (putS (putS (putS (putS (putS put0)))))))))))) (hasS (hasS (hasS (hasS (hasS (hasS (hasS (hasS (hasS (hasS (hasS (hasS has0)))))))))))) (by decide) nd (by rfl) (by exact .inl rfl)))) (by rfl) (tp_lenc tp_len1)) (ts_seq (tl_set (tx_and (tx_var (hasS (hasS (hasS (hasS (hasS (hasS (hasS (hasS (hasS (hasS (hasS has0))))))))))) (pv 11)) (TX.pu (tx_one (tx_cmp o_le (tx_callB (c_sum (by rfl)) (by rfl) fa.n_sum rfl (ta_one (tx_newL (tn_lc (lcM (own := [("_law_row_id", 8)]) (ti_list (tx_var (hasS (hasS (hasS (hasS (hasS (hasS (hasS has0))))))) (pv 7))) (m := [false, false, false, false, false, false, false, false, true, false, false, false, false, false]) (ins_keep (ins_keep (ins_keep (ins_keep (ins_keep (ins_keep (ins_keep (ins_keep (ins_un (ins_keep (ins_keep (ins_keep (ins_keep (ins_keep ins_nil)))))))))))))) (by decide) (fun _ _ _ _ _ => (tg_name (putS (putS (putS (putS (putS (putS (putS (putS put0)))))))) (putS (putS (putS (putS (putS (putS (putS (putS put0)))))))) (hasS (hasS (hasS (hasS (hasS (hasS (hasS (hasS has0)))))))) (by decide) nd (by rfl) (by first | exact .inl rfl | exact .inr rfl))) (by intros; rfl) (fun _ _ _ _ _ => (TX.pu (tx_dgetAt kk_int (hu_of hr) (tl_slot (hasS (hasS (hasS (hasS (hasS (hasS (hasS (hasS (hasS (hasS has0)))))))))) (pv 10)) (tx_var (hasS (hasS (hasS (hasS (hasS (hasS (hasS (hasS has0)))))))) (pv 8)) (.inl rfl)) (by rfl) (by rfl)))) (by rfl) nd (by kernel_rfl))))) (tx_var (hasS (hasS (hasS (hasS (hasS (hasS (hasS (hasS (hasS (hasS (hasS (hasS has0)))))))))))) (pv 12)))) (by rfl) (by rfl))) (putS (putS (putS (putS (putS (putS (putS (putS (putS (putS (putS put0))))))))))) nd (by rfl) (by exact .inl rfl))
  (ts_gh (gh_trans (gh_un (hasS (hasS (hasS (hasS (hasS (hasS (hasS has0))))))) (putS (putS (putS (putS (putS (putS (putS put0)))))))) (gh_un (hasS (hasS (hasS (hasS (hasS (hasS (hasS (hasS (hasS (hasS (hasS (hasS has0)))))))))))) (putS (putS (putS (putS (putS (putS (putS (putS (putS (putS (putS (putS put0)))))))))))))) ts_nil)) PassesOwn.never (by rfl))
  (ts_gh (gh_frD (hasS (hasS (hasS (hasS (hasS (hasS (hasS (hasS (hasS (hasS has0)))))))))) (putS (putS (putS (putS (putS (putS (putS (putS (putS (putS put0))))))))))) (ts_ifR (tq_cmp (o_neD hr.units) (tx_call (ok_are_right fa) hr (by decide) (by rfl) fa.g_are_right fa.f_are_right.kp fa.b_are_right (ta_cons (tx_var (hasS (hasS (hasS has0))) (pv 3)) (ta_cons (tx_var (hasS (hasS (hasS (hasS has0)))) (pv 4)) (ta_one (tx_var (hasS (hasS (hasS (hasS (hasS (hasS (hasS (hasS (hasS (hasS has0)))))))))) (pv 10)))))) (tx_var (hasS (hasS (hasS (hasS (hasS (hasS (hasS (hasS (hasS (hasS (hasS has0))))))))))) (pv 11))) (ts_ret tx_bl) (fun _ _ h => by cases h)
  (ts_ifR (tq_cmp (o_neD hr.units) (tx_cmp o_isN (tx_call (ok_leavers fa) hr (by decide) (by rfl) fa.g_leavers fa.f_leavers.kp fa.b_leavers (ta_cons (tx_var (hasS (hasS (hasS has0))) (pv 3)) (ta_cons (tx_var (hasS (hasS (hasS (hasS has0)))) (pv 4)) (ta_one (tx_var (hasS (hasS (hasS (hasS (hasS (hasS (hasS (hasS (hasS (hasS has0)))))))))) (pv 10)))))) tx_non) (tx_var (hasS (hasS (hasS (hasS (hasS (hasS (hasS (hasS (hasS (hasS (hasS has0))))))))))) (pv 11))) (ts_ret tx_bl) (fun _ _ h => by cases h)
  (ts_gh (gh_trans (gh_trans (gh_un (hasS (hasS (hasS (hasS (hasS (hasS (hasS (hasS (hasS has0))))))))) (putS (putS (putS (putS (putS (putS (putS (putS (putS put0)))))))))) (gh_un (hasS (hasS (hasS (hasS (hasS (hasS (hasS (hasS (hasS (hasS has0)))))))))) (putS (putS (putS (putS (putS (putS (putS (putS (putS (putS put0)))))))))))) (gh_un (hasS (hasS (hasS (hasS (hasS (hasS (hasS (hasS (hasS (hasS (hasS has0))))))))))) (putS (putS (putS (putS (putS (putS (putS (putS (putS (putS (putS put0))))))))))))) ts_nil)))))))) PassesOwn.never (by rfl))
  (ts_cons (t1_for (vs := [8]) (ti_keys (tx_var (hasS (hasS (hasS has0))) (pv 3)) rInt hk_int) (tg_name (putS (putS (putS (putS (putS (putS (putS (putS put0)))))))) (putS (putS (putS (putS (putS (putS (putS (putS put0)))))))) (hasS (hasS (hasS (hasS (hasS (hasS (hasS (hasS has0)))))))) (by decide) nd (by rfl) (by exact .inl rfl)) (ts_seq (tl_set (tx_op o_sub (tx_call (ok_least_cost fa) hr (by decide) (by rfl) fa.g_least_cost fa.f_least_cost.kp fa.b_least_cost (ta_cons (tx_var (hasS (hasS (hasS has0))) (pv 3)) (ta_one (tx_var (hasS (hasS (hasS (hasS has0)))) (pv 4))))) (tx_call (ok_least_cost fa) hr (by decide) (by rfl) fa.g_least_cost fa.f_least_cost.kp fa.b_least_cost (ta_cons (tx_call (ok_without fa) hr (by decide) (by rfl) fa.g_without fa.f_without.kp fa.b_without (ta_cons (tx_var (hasS (hasS (hasS has0))) (pv 3)) (ta_one (tx_var (hasS (hasS (hasS (hasS (hasS (hasS (hasS (hasS has0)))))))) (pv 8))))) (ta_one (tx_var (hasS (hasS (hasS (hasS has0)))) (pv 4)))))) (putS (putS (putS (putS (putS (putS (putS (putS (putS (putS (putS (putS (putS put0))))))))))))) nd (by rfl) (by exact .inl rfl))
  (ts_ifR (tq_not (tq_chain3 o_le o_le o_le tx_int (TX.pu (tx_var (hasS (hasS (hasS (hasS (hasS (hasS (hasS (hasS (hasS (hasS (hasS (hasS (hasS has0))))))))))))) (pv 13)) (by rfl) (by rfl)) (TX.pu (tx_dget kk_int (hu_of hr) (tx_var (hasS (hasS (hasS (hasS (hasS has0))))) (pv 5)) (tx_var (hasS (hasS (hasS (hasS (hasS (hasS (hasS (hasS has0)))))))) (pv 8))) (by rfl) (by rfl)) (TX.pu (tx_call (ok_cost_alone fa) hr (by decide) (by rfl) fa.g_cost_alone fa.f_cost_alone.kp fa.b_cost_alone (ta_cons (tx_var (hasS (hasS (hasS has0))) (pv 3)) (ta_cons (tx_var (hasS (hasS (hasS (hasS has0)))) (pv 4)) (ta_one (tx_var (hasS (hasS (hasS (hasS (hasS (hasS (hasS (hasS has0)))))))) (pv 8)))))) (by rfl) (by rfl)))) (ts_ret tx_bl) (fun _ _ h => by cases h)
  (ts_gh (gh_trans (gh_un (hasS (hasS (hasS (hasS (hasS (hasS (hasS (hasS has0)))))))) (putS (putS (putS (putS (putS (putS (putS (putS put0))))))))) (gh_un (hasS (hasS (hasS (hasS (hasS (hasS (hasS (hasS (hasS (hasS (hasS (hasS (hasS has0))))))))))))) (putS (putS (putS (putS (putS (putS (putS (putS (putS (putS (putS (putS (putS put0))))))))))))))) ts_nil))) PassesOwn.never (by rfl))
  (ts_gh (gh_trans (gh_trans (gh_trans (gh_trans (gh_trans (gh_un (hasS has0) (putS put0)) (gh_un (hasS (hasS has0)) (putS (putS put0)))) (gh_un (hasS (hasS (hasS has0))) (putS (putS (putS put0))))) (gh_un (hasS (hasS (hasS (hasS has0)))) (putS (putS (putS (putS put0)))))) (gh_un (hasS (hasS (hasS (hasS (hasS has0))))) (putS (putS (putS (putS (putS put0))))))) (gh_un (hasS (hasS (hasS (hasS (hasS (hasS has0)))))) (putS (putS (putS (putS (putS (putS put0)))))))) ts_nil))))))))) PassesOwn.never (by rfl))
  (ts_ret tx_bl))) (fun _ => by kernel_rfl) (fun _ => by kernel_rfl) (.inr ends_law)
end
end LawK
end
section
set_option linter.all false
namespace Plain
/-! ### k moments among n places: paths, and the exchange that makes their costs convex -/
section
variable {n : Nat} {c : Nat → Nat → Option Int}
/-- js are the places of the moments, from place i on; v is what it costs -/
inductive PC (n : Nat) (c : Nat → Nat → Option Int) : Nat → List Nat → Int → Prop
  | nil {i : Nat} {v : Int} : c i n = some v → PC n c i [] v
  | cons {i j : Nat} {js : List Nat} {a b : Int} : i ≤ j → j < n → c i j = some a → PC n c (j + 1) js b → PC n c i (j :: js) (a + b)
/-- crossing costs no more than lying within -/
def Monge (n : Nat) (c : Nat → Nat → Option Int) : Prop := ∀ i i' j j' a b, i ≤ i' → i' ≤ j → j ≤ j' → j' ≤ n → c i j' = some a → c i' j = some b → ∃ x y, c i j = some x ∧ c i' j' = some y ∧ x + y ≤ a + b
theorem exch (M : Monge n c) : ∀ {P : List Nat} {i : Nat} {a : Int} {Q : List Nat} {i' : Nat} {b : Int}, PC n c i P a → PC n c i' Q b → i ≤ i' → Q.length = P.length + 1 →
    ∃ P' Q' a' b', PC n c i P' a' ∧ PC n c i' Q' b' ∧ P'.length = P.length + 1 ∧ Q'.length = P.length ∧ a' + b' ≤ a + b := by
  intro P
  induction P with
  | nil =>
    intro i a Q i' b hP hQ hi hl
    cases hP with
    | nil e1 =>
      cases hQ with
      | nil _ => simp at hl
      | @cons _ j js x y h1 h2 h3 h4 =>
        have : js = [] := by simpa using hl
        subst this
        obtain ⟨u, v, k1, k2, k3⟩ := M i i' j n a x hi h1 (Nat.le_of_lt h2) (Nat.le_refl _) e1 h3
        exact ⟨[j], [], u + y, v, .cons (Nat.le_trans hi h1) h2 k1 h4, .nil k2, rfl, rfl, by omega⟩
  | cons p Pt ih =>
    intro i a Q i' b hP hQ hi hl
    cases hP with
    | @cons _ _ _ a1 a2 p1 p2 p3 p4 =>
      cases hQ with
      | nil _ => simp at hl
      | @cons _ j js x y h1 h2 h3 h4 =>
        by_cases hpj : j ≤ p
        · obtain ⟨u, v, k1, k2, k3⟩ := M i i' j p a1 x hi h1 hpj (Nat.le_of_lt p2) p3 h3
          exact ⟨j :: js, p :: Pt, u + y, v + a2, .cons (Nat.le_trans hi h1) h2 k1 h4, .cons (Nat.le_trans h1 hpj) p2 k2 p4, hl, rfl, by omega⟩
        · obtain ⟨P', Q', a', b', q1, q2, q3, q4, q5⟩ := ih p4 h4 (by omega) (by simpa using hl)
          exact ⟨p :: P', j :: Q', a1 + a', x + b', .cons p1 p2 p3 q1, .cons h1 h2 h3 q2, by simp [q3], by simp [q4], by omega⟩
/-- the first s moments left out -/
theorem PC.split : ∀ {s : Nat} {i : Nat} {Q : List Nat} {b : Int}, PC n c i Q b → s ≤ Q.length → ∃ i' x y, i ≤ i' ∧ b = x + y ∧ PC n c i' (Q.drop s) y ∧ ∀ R z, PC n c i' R z → PC n c i (Q.take s ++ R) (x + z)
  | 0, i, Q, b, h, _ => ⟨i, 0, b, Nat.le_refl _, by omega, h, fun R z hz => by simpa using hz⟩
  | s + 1, i, _, b, .nil h, hl => by simp at hl
  | s + 1, i, j :: js, _, .cons (a := a) (b := b) h1 h2 h3 h4, hl => by
    obtain ⟨i', x, y, k1, k2, k3, k4⟩ := PC.split (s := s) h4 (by simpa using hl)
    refine ⟨i', a + x, y, by omega, by omega, by simpa using k3, fun R z hz => ?_⟩
    have := PC.cons h1 h2 h3 (k4 R z hz)
    rw [← Int.add_assoc] at this
    simpa using this
/-- fewer and more: one more and one fewer cost no more -/
theorem convex (M : Monge n c) {P Q : List Nat} {a b : Int} (hP : PC n c 0 P a) (hQ : PC n c 0 Q b) (hl : P.length + 2 ≤ Q.length) :
    ∃ P' Q' a' b', PC n c 0 P' a' ∧ PC n c 0 Q' b' ∧ P'.length = P.length + 1 ∧ Q'.length + 1 = Q.length ∧ a' + b' ≤ a + b := by
  obtain ⟨i', x, y, k1, k2, k3, k4⟩ := hQ.split (s := Q.length - P.length - 1) (by omega)
  obtain ⟨P', Q', a', b', q1, q2, q3, q4, q5⟩ := exch M hP k3 k1 (by rw [List.length_drop]; omega)
  refine ⟨P', _, a', x + b', q1, k4 Q' b' q2, q3, ?_, by omega⟩
  rw [List.length_append, List.length_take, q4]
  omega
/-- a k that none beside it betters is the best of all -/
theorem best (M : Monge n c) {W : Nat → Option Int} (low : ∀ P a, PC n c 0 P a → ∃ w, W P.length = some w ∧ w ≤ a) (got : ∀ k w, W k = some w → ∃ P, P.length = k ∧ PC n c 0 P w)
    {k : Nat} {w : Int} (hk : W k = some w) (next : ∀ w', W (k + 1) = some w' → w ≤ w') : ∀ m w', k ≤ m → W m = some w' → w ≤ w' := by
  intro m
  induction m with
  | zero =>
    intro w' hm h
    have : k = 0 := by omega
    subst this
    rw [hk] at h
    cases h
    exact Int.le_refl _
  | succ m ih =>
    intro w' hm h
    by_cases e : k = m + 1
    · subst e
      rw [hk] at h
      cases h
      exact Int.le_refl _
    · by_cases e2 : k = m
      · subst e2
        exact next _ h
      · obtain ⟨P, p1, p2⟩ := got _ _ hk
        obtain ⟨Q, q1, q2⟩ := got _ _ h
        obtain ⟨P', Q', a', b', r1, r2, r3, r4, r5⟩ := convex M p2 q2 (by omega)
        obtain ⟨x, x1, x2⟩ := low _ _ r1
        obtain ⟨y, y1, y2⟩ := low _ _ r2
        rw [r3, p1] at x1
        have e3 : Q'.length = m := by omega
        rw [e3] at y1
        have := next _ x1
        have := ih y (by omega) y1
        omega
end
end Plain
end
section
set_option linter.all false
namespace Plain
section
variable {n : Nat} {c : Nat → Nat → Option Int} {W : Nat → Nat → Option Int}
/-- the table of least costs: k moments from place i on -/
structure Tab (n : Nat) (c : Nat → Nat → Option Int) (W : Nat → Nat → Option Int) : Prop where
  zero : ∀ i, i ≤ n → W 0 i = c i n
  low : ∀ k i j a b, i ≤ j → j < n → c i j = some a → W k (j + 1) = some b → ∃ w, W (k + 1) i = some w ∧ w ≤ a + b
  got : ∀ k i w, i ≤ n → W (k + 1) i = some w → ∃ j a b, i ≤ j ∧ j < n ∧ c i j = some a ∧ W k (j + 1) = some b ∧ w = a + b
theorem Tab.below (T : Tab n c W) : ∀ {P : List Nat} {i : Nat} {a : Int}, i ≤ n → PC n c i P a → ∃ w, W P.length i = some w ∧ w ≤ a
  | [], i, a, hi, .nil h => ⟨a, by rw [← h]; exact T.zero i hi, Int.le_refl _⟩
  | j :: js, i, _, hi, .cons (a := a) (b := b) h1 h2 h3 h4 => by
    obtain ⟨w, k1, k2⟩ := T.below (P := js) (i := j + 1) h2 h4
    obtain ⟨u, q1, q2⟩ := T.low _ _ _ _ _ h1 h2 h3 k1
    exact ⟨u, q1, by omega⟩
theorem Tab.path (T : Tab n c W) : ∀ (k : Nat) {i : Nat} {w : Int}, i ≤ n → W k i = some w → ∃ P, P.length = k ∧ PC n c i P w
  | 0, i, w, hi, h => ⟨[], rfl, .nil (by rw [← h]; exact (T.zero i hi).symm)⟩
  | k + 1, i, w, hi, h => by
    obtain ⟨j, a, b, h1, h2, h3, h4, rfl⟩ := T.got _ _ _ hi h
    obtain ⟨P, p1, p2⟩ := T.path k (i := j + 1) h2 h4
    exact ⟨j :: P, by simp [p1], .cons h1 h2 h3 p2⟩
theorem Tab.best (T : Tab n c W) (M : Monge n c) {k : Nat} {w : Int} (hk : W k 0 = some w) (next : ∀ w', W (k + 1) 0 = some w' → w ≤ w') : ∀ m w', k ≤ m → W m 0 = some w' → w ≤ w' :=
  Plain.best M (W := fun k => W k 0) (fun P a h => T.below (Nat.zero_le _) h) (fun k w h => T.path k (Nat.zero_le _) h) hk next
/-- no more moments than places -/
theorem PC.len : ∀ {P : List Nat} {i : Nat} {a : Int}, i ≤ n → PC n c i P a → P.length + i ≤ n
  | [], i, a, hi, .nil h => by simpa using hi
  | j :: js, i, _, hi, .cons h1 h2 h3 h4 => by
    have := PC.len (P := js) (i := j + 1) h2 h4
    simp only [List.length_cons]
    omega
end
/-! ### what a charge costs: f m, m the first moment not before its begin (none: there is none) -/
abbrev Charge := Int × Int × Int × Option Int
def feeAt (ch : Charge) (m : Option Int) : Option Int := match m with
  | some t => if t ≤ ch.2.1 then some (ch.2.2.1 * (t - ch.1)) else ch.2.2.2.map fun fine => ch.2.2.1 * (ch.2.1 - ch.1) + fine
  | none => ch.2.2.2.map fun fine => ch.2.2.1 * (ch.2.1 - ch.1) + fine
structure ChOk (ch : Charge) : Prop where
  be : ch.1 ≤ ch.2.1
  wait : 0 ≤ ch.2.2.1
  fine : ∀ x, ch.2.2.2 = some x → 0 ≤ x
/-- later is not cheaper -/
theorem feeAt_mono {ch : Charge} (h : ChOk ch) {t : Int} {m : Option Int} (hm : ∀ u, m = some u → t ≤ u) {v : Int} (hv : feeAt ch m = some v) : ∃ u, feeAt ch (some t) = some u ∧ u ≤ v := by
  unfold feeAt at *
  have late : ∀ x, ch.2.2.2 = some x → v = ch.2.2.1 * (ch.2.1 - ch.1) + x → ∃ u, (if t ≤ ch.2.1 then some (ch.2.2.1 * (t - ch.1)) else ch.2.2.2.map fun fine => ch.2.2.1 * (ch.2.1 - ch.1) + fine) = some u ∧ u ≤ v := by
    intro x hx hv
    by_cases ht : t ≤ ch.2.1
    · rw [if_pos ht]
      refine ⟨_, rfl, ?_⟩
      have := Int.mul_le_mul_of_nonneg_left (show t - ch.1 ≤ ch.2.1 - ch.1 by omega) h.wait
      have := h.fine x hx
      omega
    · rw [if_neg ht, hx]
      exact ⟨_, rfl, by rw [hv]; exact Int.le_refl _⟩
  cases m with
  | none =>
    simp only [Option.map_eq_some_iff] at hv
    obtain ⟨x, hx, e⟩ := hv
    exact late x hx e.symm
  | some u =>
    have htu := hm u rfl
    simp only at hv ⊢
    by_cases hu : u ≤ ch.2.1
    · rw [if_pos hu] at hv
      rw [if_pos (by omega)]
      refine ⟨_, rfl, ?_⟩
      have := Int.mul_le_mul_of_nonneg_left (show t - ch.1 ≤ u - ch.1 by omega) h.wait
      have e := Option.some.inj hv
      omega
    · rw [if_neg hu] at hv
      simp only [Option.map_eq_some_iff] at hv
      obtain ⟨x, hx, e⟩ := hv
      exact late x hx e.symm
theorem feeAt_nonneg {ch : Charge} (h : ChOk ch) {m : Option Int} (hm : ∀ u, m = some u → ch.1 ≤ u) {v : Int} (hv : feeAt ch m = some v) : 0 ≤ v := by
  obtain ⟨u, h1, h2⟩ := feeAt_mono h (t := ch.1) hm hv
  unfold feeAt at h1
  simp only at h1
  rw [if_pos h.be] at h1
  have := Option.some.inj h1
  simp at this
  omega
end Plain
end
section
set_option linter.all false
namespace Plain
/-! ### sums of what may be infinite -/
def osum : List (Option Int) → Option Int
  | [] => some 0
  | none :: _ => none
  | some a :: r => (osum r).map fun b => a + b
theorem osum_cons {x : Option Int} {r : List (Option Int)} {v : Int} : osum (x :: r) = some v ↔ ∃ a b, x = some a ∧ osum r = some b ∧ v = a + b := by
  cases x with
  | none => simp [osum]
  | some a =>
    simp only [osum, Option.map_eq_some_iff]
    constructor
    · rintro ⟨b, h1, rfl⟩
      exact ⟨a, b, rfl, h1, rfl⟩
    · rintro ⟨a', b, h1, h2, rfl⟩
      cases h1
      exact ⟨b, h2, rfl⟩
theorem osum_app {r : List (Option Int)} : ∀ {l : List (Option Int)} {v : Int}, osum (l ++ r) = some v ↔ ∃ a b, osum l = some a ∧ osum r = some b ∧ v = a + b
  | [], v => by
    constructor
    · intro h
      exact ⟨0, v, rfl, h, by omega⟩
    · rintro ⟨a, b, h1, h2, rfl⟩
      have : a = 0 := by simpa [osum] using h1.symm
      subst this
      simpa using h2
  | x :: l, v => by
    rw [List.cons_append, osum_cons]
    constructor
    · rintro ⟨a, b, h1, h2, rfl⟩
      obtain ⟨a', b', k1, k2, rfl⟩ := osum_app.mp h2
      exact ⟨a + a', b', osum_cons.mpr ⟨a, a', h1, k1, rfl⟩, k2, by omega⟩
    · rintro ⟨a, b, h1, h2, rfl⟩
      obtain ⟨a', b', k1, k2, rfl⟩ := osum_cons.mp h1
      exact ⟨a', b' + b, k1, osum_app.mpr ⟨b', b, k2, h2, rfl⟩, by omega⟩
theorem osum_perm {l r : List (Option Int)} (p : l.Perm r) : ∀ {v : Int}, osum l = some v → osum r = some v := by
  induction p with
  | nil => exact id
  | cons x _ ih =>
    intro v h
    obtain ⟨a, b, h1, h2, rfl⟩ := osum_cons.mp h
    exact osum_cons.mpr ⟨a, b, h1, ih h2, rfl⟩
  | swap x y l =>
    intro v h
    obtain ⟨a, b, h1, h2, rfl⟩ := osum_cons.mp h
    obtain ⟨a', b', k1, k2, rfl⟩ := osum_cons.mp h2
    exact osum_cons.mpr ⟨a', a + b', k1, osum_cons.mpr ⟨a, b', h1, k2, rfl⟩, by omega⟩
  | trans _ _ ih1 ih2 => exact fun h => ih2 (ih1 h)
/-- each item is not larger -/
theorem osum_le {α : Type} {f g : α → Option Int} : ∀ {S : List α} {v : Int}, (∀ x ∈ S, ∀ a, f x = some a → ∃ b, g x = some b ∧ b ≤ a) → osum (S.map f) = some v → ∃ w, osum (S.map g) = some w ∧ w ≤ v
  | [], v, _, h => ⟨v, h, Int.le_refl _⟩
  | x :: S, v, hx, h => by
    rw [List.map_cons] at h
    obtain ⟨a, b, h1, h2, rfl⟩ := osum_cons.mp h
    obtain ⟨a', k1, k2⟩ := hx x List.mem_cons_self a h1
    obtain ⟨b', q1, q2⟩ := osum_le (S := S) (fun y hy => hx y (List.mem_cons_of_mem _ hy)) h2
    exact ⟨a' + b', by rw [List.map_cons]; exact osum_cons.mpr ⟨a', b', k1, q1, rfl⟩, by omega⟩
theorem osum_nonneg {α : Type} {f : α → Option Int} : ∀ {S : List α} {v : Int}, (∀ x ∈ S, ∀ a, f x = some a → 0 ≤ a) → osum (S.map f) = some v → 0 ≤ v
  | [], v, _, h => by
    have : v = 0 := by simpa [osum] using h.symm
    omega
  | x :: S, v, hx, h => by
    rw [List.map_cons] at h
    obtain ⟨a, b, h1, h2, rfl⟩ := osum_cons.mp h
    have := hx x List.mem_cons_self a h1
    have := osum_nonneg (S := S) (fun y hy => hx y (List.mem_cons_of_mem _ hy)) h2
    omega
/-! ### moments -/
abbrev Incr (T : List Int) : Prop := T.Pairwise (· < ·)
def nextT (T : List Int) (b : Int) : Option Int := T.find? fun t => decide (b ≤ t)
theorem nextT_some {T : List Int} {b t : Int} (h : nextT T b = some t) : t ∈ T ∧ b ≤ t := by
  unfold nextT at h
  exact ⟨List.mem_of_find?_eq_some h, by simpa using List.find?_some h⟩
theorem nextT_least : ∀ {T : List Int} {b t : Int}, Incr T → t ∈ T → b ≤ t → ∃ u, nextT T b = some u ∧ u ≤ t
  | x :: T, b, t, hI, ht, hb => by
    obtain ⟨h1, h2⟩ := List.pairwise_cons.mp hI
    unfold nextT
    rw [List.find?_cons]
    by_cases hx : b ≤ x
    · rw [decide_eq_true hx]
      refine ⟨x, rfl, ?_⟩
      rcases List.mem_cons.mp ht with e | e
      · omega
      · have := h1 t e
        omega
    · rw [decide_eq_false hx]
      rcases List.mem_cons.mp ht with e | e
      · omega
      · exact nextT_least h2 e hb
def fee (T : List Int) (ch : Charge) : Option Int := feeAt ch (nextT T ch.1)
def fees (S : List Charge) (T : List Int) : Option Int := osum (S.map (fee T))
/-- times that serve each charge no later -/
theorem fee_le {T T' : List Int} (hI : Incr T') {ch : Charge} (h : ChOk ch) (k : ∀ t ∈ T, ch.1 ≤ t → ∃ t' ∈ T', ch.1 ≤ t' ∧ t' ≤ t) {a : Int} (ha : fee T ch = some a) : ∃ b, fee T' ch = some b ∧ b ≤ a := by
  unfold fee at *
  cases e : nextT T ch.1 with
  | none =>
    rw [e] at ha
    cases e' : nextT T' ch.1 with
    | none => exact ⟨a, ha, Int.le_refl _⟩
    | some t' => exact feeAt_mono h (m := none) (fun _ z => nomatch z) ha
  | some t =>
    rw [e] at ha
    obtain ⟨h1, h2⟩ := nextT_some e
    obtain ⟨t', k1, k2, k3⟩ := k t h1 h2
    obtain ⟨u, q1, q2⟩ := nextT_least hI k1 k2
    rw [q1]
    exact feeAt_mono h (m := some t) (fun z hz => by cases hz; omega) ha
theorem fees_le {T T' : List Int} (hI : Incr T') {S : List Charge} (hS : ∀ ch ∈ S, ChOk ch) (k : ∀ ch ∈ S, ∀ t ∈ T, ch.1 ≤ t → ∃ t' ∈ T', ch.1 ≤ t' ∧ t' ≤ t) {v : Int} (hv : fees S T = some v) : ∃ w, fees S T' = some w ∧ w ≤ v :=
  osum_le (fun ch hc a ha => fee_le hI (hS ch hc) (k ch hc) ha) hv
theorem fees_nonneg {T : List Int} {S : List Charge} (hS : ∀ ch ∈ S, ChOk ch) {v : Int} (hv : fees S T = some v) : 0 ≤ v :=
  osum_nonneg (fun ch hc a ha => feeAt_nonneg (hS ch hc) (fun u hu => (nextT_some hu).2) ha) hv
end Plain
end
section
set_option linter.all false
namespace Plain
/-! ### prices of moments; the least total -/
section
variable {price : Int → Int} (hp : ∀ t, 0 ≤ price t)
include hp
theorem sum_erase {L : List Int} {x : Int} (h : x ∈ L) : (L.map price).sum = price x + ((L.erase x).map price).sum := by
  induction L with
  | nil => cases h
  | cons y L ih =>
    by_cases e : y = x
    · subst e
      simp
    · have hx : x ∈ L := by
        rcases List.mem_cons.mp h with z | z
        · exact absurd z.symm e
        · exact z
      rw [List.erase_cons_tail (by simpa using e)]
      simp only [List.map_cons, List.sum_cons, ih hx]
      omega
theorem sum_nonneg : ∀ L : List Int, 0 ≤ (L.map price).sum
  | [] => by simp
  | x :: L => by
    have h1 := sum_nonneg L
    have h2 := hp x
    simp only [List.map_cons, List.sum_cons]
    omega
theorem sum_sub : ∀ {U L : List Int}, U.Nodup → (∀ t ∈ U, t ∈ L) → (U.map price).sum ≤ (L.map price).sum
  | [], L, _, _ => by
    have := sum_nonneg hp L
    simpa using this
  | x :: U, L, hn, hs => by
    obtain ⟨h1, h2⟩ := List.nodup_cons.mp hn
    have hx := hs x List.mem_cons_self
    have := sum_sub (U := U) (L := L.erase x) h2 fun t ht => (List.mem_erase_of_ne fun z => h1 (by rw [← z]; exact ht)).mpr (hs t (List.mem_cons_of_mem _ ht))
    have := sum_erase hp hx
    simp only [List.map_cons, List.sum_cons]
    omega
end
theorem incr_nodup {T : List Int} (h : Incr T) : T.Nodup := h.imp fun h e => by omega
def tot (price : Int → Int) (S : List Charge) (T : List Int) : Option Int := (fees S T).map fun v => v + (T.map price).sum
theorem tot_some {price : Int → Int} {S : List Charge} {T : List Int} {v : Int} : tot price S T = some v ↔ ∃ a, fees S T = some a ∧ v = a + (T.map price).sum := by
  unfold tot
  simp only [Option.map_eq_some_iff]
  constructor
  · rintro ⟨a, h1, h2⟩
    exact ⟨a, h1, h2.symm⟩
  · rintro ⟨a, h1, h2⟩
    exact ⟨a, h1, h2.symm⟩
def Times (T : List Int) : Prop := Incr T ∧ ∀ t ∈ T, 0 ≤ t
structure IsMin (price : Int → Int) (S : List Charge) (w : Int) : Prop where
  got : ∃ T, Times T ∧ tot price S T = some w
  low : ∀ T v, Times T → tot price S T = some v → w ≤ v
section
variable {price : Int → Int} {S S2 : List Charge} {T T1 T2 U : List Int} {v v1 v2 w w1 w2 : Int}
theorem tot_perm (p : S.Perm S2) (h : tot price S T = some v) : tot price S2 T = some v := by
  obtain ⟨a, h1, rfl⟩ := tot_some.mp h
  exact tot_some.mpr ⟨a, osum_perm (p.map _) h1, rfl⟩
theorem IsMin.perm (p : S.Perm S2) (h : IsMin price S w) : IsMin price S2 w := by
  obtain ⟨⟨T, h1, h2⟩, h3⟩ := h
  exact ⟨⟨T, h1, tot_perm p h2⟩, fun T v hT hv => h3 T v hT (tot_perm p.symm hv)⟩
theorem IsMin.uniq (h1 : IsMin price S w1) (h2 : IsMin price S w2) : w1 = w2 := by
  obtain ⟨T1, a1, b1⟩ := h1.got
  obtain ⟨T2, a2, b2⟩ := h2.got
  have := h1.low _ _ a2 b2
  have := h2.low _ _ a1 b1
  omega
theorem fees_app : fees (S ++ S2) T = some v ↔ ∃ a b, fees S T = some a ∧ fees S2 T = some b ∧ v = a + b := by
  unfold fees
  rw [List.map_append]
  exact osum_app
/-- fewer charges -/
theorem tot_part (h2 : ∀ ch ∈ S2, ChOk ch) (h : tot price (S ++ S2) T = some v) : ∃ u, tot price S T = some u ∧ u ≤ v := by
  obtain ⟨a, k1, rfl⟩ := tot_some.mp h
  obtain ⟨x, y, q1, q2, rfl⟩ := fees_app.mp k1
  have := fees_nonneg h2 q2
  exact ⟨x + (T.map price).sum, tot_some.mpr ⟨x, q1, rfl⟩, by omega⟩
theorem IsMin.mono (h2 : ∀ ch ∈ S2, ChOk ch) (a : IsMin price S w) (b : IsMin price (S ++ S2) w2) : w ≤ w2 := by
  obtain ⟨T, k1, k2⟩ := b.got
  obtain ⟨u, q1, q2⟩ := tot_part h2 k2
  have := a.low _ _ k1 q1
  omega
/-- the times of both -/
theorem tot_union (hp : ∀ t, 0 ≤ price t) (h1 : ∀ ch ∈ S, ChOk ch) (h2 : ∀ ch ∈ S2, ChOk ch) (hU : Incr U) (hm : ∀ t, t ∈ U ↔ t ∈ T1 ∨ t ∈ T2) (k1 : tot price S T1 = some v1) (k2 : tot price S2 T2 = some v2) :
    ∃ v, tot price (S ++ S2) U = some v ∧ v ≤ v1 + v2 := by
  obtain ⟨a, p1, rfl⟩ := tot_some.mp k1
  obtain ⟨b, p2, rfl⟩ := tot_some.mp k2
  obtain ⟨x, q1, q2⟩ := fees_le hU h1 (fun ch _ t ht hb => ⟨t, (hm t).mpr (.inl ht), hb, Int.le_refl _⟩) p1
  obtain ⟨y, r1, r2⟩ := fees_le hU h2 (fun ch _ t ht hb => ⟨t, (hm t).mpr (.inr ht), hb, Int.le_refl _⟩) p2
  have := sum_sub hp (U := U) (L := T1 ++ T2) (incr_nodup hU) fun t ht => List.mem_append.mpr ((hm t).mp ht)
  rw [List.map_append, List.sum_append] at this
  exact ⟨x + y + (U.map price).sum, tot_some.mpr ⟨x + y, fees_app.mpr ⟨x, y, q1, r1, rfl⟩, rfl⟩, by omega⟩
/-- times moved to places that serve no later, at the same price -/
theorem tot_push (hp : ∀ t, 0 ≤ price t) (h1 : ∀ ch ∈ S, ChOk ch) {f : Int → Int} (hU : Incr U) (hm : ∀ t, t ∈ U ↔ t ∈ T.map f) (hf : ∀ t ∈ T, price (f t) = price t ∧ f t ≤ t ∧ ∀ ch ∈ S, ch.1 ≤ t → ch.1 ≤ f t) (k : tot price S T = some v) :
    ∃ u, tot price S U = some u ∧ u ≤ v := by
  obtain ⟨a, p1, rfl⟩ := tot_some.mp k
  obtain ⟨x, q1, q2⟩ := fees_le hU h1 (fun ch hc t ht hb => ⟨f t, (hm _).mpr (List.mem_map.mpr ⟨t, ht, rfl⟩), (hf t ht).2.2 ch hc hb, (hf t ht).2.1⟩) p1
  have := sum_sub hp (U := U) (L := T.map f) (incr_nodup hU) fun t ht => (hm t).mp ht
  have e : ((T.map f).map price).sum = (T.map price).sum := by
    rw [List.map_map]
    congr 1
    apply List.map_congr_left
    intro t ht
    exact (hf t ht).1
  rw [e] at this
  exact ⟨x + (U.map price).sum, tot_some.mpr ⟨x, q1, rfl⟩, by omega⟩
end
end Plain
end
section
set_option linter.all false
namespace Plain
section
variable {n : Nat} {sp : Nat → Int} {price : Int → Int} {S : List Charge}
/-- the spot ahead of place i -/
def af (sp : Nat → Int) (i : Nat) : Int := if i = 0 then -1 else sp (i - 1)
def mo (n : Nat) (sp : Nat → Int) (j : Nat) : Option Int := if j < n then some (sp j) else none
def isIn (n : Nat) (sp : Nat → Int) (i j : Nat) (ch : Charge) : Bool := decide (af sp i < ch.1) && (decide (n ≤ j) || decide (ch.1 ≤ sp j))
/-- what the charges between two places cost, sent at the second -/
def lkc (n : Nat) (sp : Nat → Int) (price : Int → Int) (S : List Charge) (i j : Nat) : Option Int := if j < i then none else
  (osum ((S.filter (isIn n sp i j)).map fun ch => feeAt ch (mo n sp j))).map fun v => v + (if j < n then price (sp j) else 0)
theorem osum_filter {α : Type} {p q : α → Bool} {f : α → Option Int} : ∀ {S : List α} {v : Int}, osum ((S.filter p).map f) = some v ↔ ∃ a b, osum ((S.filter fun x => p x && q x).map f) = some a ∧ osum ((S.filter fun x => p x && !q x).map f) = some b ∧ v = a + b
  | [], v => by
    constructor
    · intro h
      have : v = 0 := by simpa [osum] using h.symm
      exact ⟨0, 0, rfl, rfl, by omega⟩
    · rintro ⟨a, b, h1, h2, rfl⟩
      have : a = 0 := by simpa [osum] using h1.symm
      have : b = 0 := by simpa [osum] using h2.symm
      subst a b
      rfl
  | x :: S, v => by
    have ih := fun v => osum_filter (p := p) (q := q) (f := f) (S := S) (v := v)
    cases hp : p x with
    | false => simp only [List.filter_cons, hp, Bool.false_and, Bool.false_eq_true, if_false]; exact ih v
    | true =>
      cases hq : q x with
      | true =>
        simp only [List.filter_cons, hp, hq, Bool.and_self, Bool.not_true, Bool.and_false, Bool.false_eq_true, if_true, if_false, List.map_cons, osum_cons]
        constructor
        · rintro ⟨a, b, h1, h2, rfl⟩
          obtain ⟨c, d, k1, k2, rfl⟩ := (ih _).mp h2
          exact ⟨a + c, d, ⟨a, c, h1, k1, rfl⟩, k2, by omega⟩
        · rintro ⟨_, d, ⟨a, c, h1, k1, rfl⟩, k2, rfl⟩
          exact ⟨a, c + d, h1, (ih _).mpr ⟨c, d, k1, k2, rfl⟩, by omega⟩
      | false =>
        simp only [List.filter_cons, hp, hq, Bool.and_false, Bool.not_false, Bool.and_true, Bool.false_eq_true, if_true, if_false, List.map_cons, osum_cons]
        constructor
        · rintro ⟨a, b, h1, h2, rfl⟩
          obtain ⟨c, d, k1, k2, rfl⟩ := (ih _).mp h2
          exact ⟨c, a + d, k1, ⟨a, d, h1, k2, rfl⟩, by omega⟩
        · rintro ⟨c, _, k1, ⟨a, d, h1, k2, rfl⟩, rfl⟩
          exact ⟨a, c + d, h1, (ih _).mpr ⟨c, d, k1, k2, rfl⟩, by omega⟩
theorem osum_congr {α : Type} {f g : α → Option Int} {S : List α} (h : ∀ x ∈ S, f x = g x) : osum (S.map f) = osum (S.map g) := by
  rw [List.map_congr_left h]
/-- places in order, from i on -/
def Seq (n i : Nat) : List Nat → Prop
  | [] => True
  | j :: js => i ≤ j ∧ j < n ∧ Seq n (j + 1) js
theorem seq_ge {i : Nat} : ∀ {js : List Nat}, Seq n i js → ∀ j ∈ js, i ≤ j ∧ j < n
  | k :: ks, ⟨h1, h2, h3⟩, j, hj => by
    rcases List.mem_cons.mp hj with rfl | hj
    · exact ⟨h1, h2⟩
    · have := seq_ge h3 j hj
      omega
variable (hm : ∀ i j, i < j → j < n → sp i < sp j)
include hm
theorem seq_incr {i : Nat} : ∀ {js : List Nat}, Seq n i js → Incr (js.map sp)
  | [], _ => List.Pairwise.nil
  | j :: js, ⟨h1, h2, h3⟩ => by
    rw [List.map_cons]
    refine List.pairwise_cons.mpr ⟨fun t ht => ?_, seq_incr h3⟩
    obtain ⟨k, hk, rfl⟩ := List.mem_map.mp ht
    obtain ⟨a, b⟩ := seq_ge h3 k hk
    exact hm j k (by omega) b
theorem af_lt {i j : Nat} (h : i ≤ j) (hj : j < n) (h0 : -1 < sp j) : af sp i < sp j := by
  unfold af
  by_cases e : i = 0
  · rw [if_pos e]
    exact h0
  · rw [if_neg e]
    exact hm _ _ (by omega) hj
theorem path_tot (h0 : ∀ j, j < n → -1 < sp j) : ∀ {js : List Nat} {i : Nat} {v : Int}, PC n (lkc n sp price S) i js v ↔
    (Seq n i js ∧ i ≤ n) ∧ ∃ a, osum ((S.filter fun ch => decide (af sp i < ch.1)).map (fee (js.map sp))) = some a ∧ v = a + ((js.map sp).map price).sum
  | [], i, v => by
    have key : ∀ (h : i ≤ n), lkc n sp price S i n = osum ((S.filter fun ch => decide (af sp i < ch.1)).map (fee [])) := fun h => by
      unfold lkc mo
      rw [if_neg (by omega), if_neg (by omega), if_neg (by omega)]
      have e1 : S.filter (isIn n sp i n) = S.filter fun ch => decide (af sp i < ch.1) := by
        apply List.filter_congr
        intro ch _
        unfold isIn
        simp
      rw [e1]
      simp only [Int.add_zero]
      have : (fun ch : Charge => feeAt ch none) = fee [] := rfl
      rw [this]
      simp
    constructor
    · intro h
      cases h with
      | nil h =>
        have hi : i ≤ n := by
          apply Decidable.byContradiction
          intro z
          unfold lkc at h
          rw [if_pos (by omega)] at h
          cases h
        rw [key hi] at h
        exact ⟨⟨trivial, hi⟩, v, h, by simp⟩
    · rintro ⟨⟨_, hi⟩, a, h1, rfl⟩
      have e : a + ((([] : List Nat).map sp).map price).sum = a := by simp
      rw [e]
      exact .nil (by rw [key hi]; exact h1)
  | j :: js, i, v => by
    have split : ∀ (h1 : i ≤ j) (h2 : j < n), ∀ u, osum ((S.filter fun ch => decide (af sp i < ch.1)).map (fee ((j :: js).map sp))) = some u ↔ ∃ a b, osum ((S.filter (isIn n sp i j)).map fun ch => feeAt ch (mo n sp j)) = some a ∧
        osum ((S.filter fun ch => decide (af sp (j + 1) < ch.1)).map (fee (js.map sp))) = some b ∧ u = a + b := fun h1 h2 u => by
      rw [osum_filter (q := fun ch => decide (ch.1 ≤ sp j))]
      have e1 : (S.filter fun x => decide (af sp i < x.1) && decide (x.1 ≤ sp j)) = S.filter (isIn n sp i j) := by
        apply List.filter_congr
        intro ch _
        unfold isIn
        rw [decide_eq_false (show ¬ n ≤ j by omega), Bool.false_or]
      have e2 : (S.filter fun x => decide (af sp i < x.1) && !decide (x.1 ≤ sp j)) = S.filter fun ch => decide (af sp (j + 1) < ch.1) := by
        apply List.filter_congr
        intro ch _
        have := af_lt hm h1 h2 (h0 j h2)
        have e3 : af sp (j + 1) = sp j := by unfold af; rw [if_neg (by omega)]; rfl
        rw [e3]
        by_cases h : sp j < ch.1
        · rw [decide_eq_true (show af sp i < ch.1 by omega), decide_eq_false (show ¬ ch.1 ≤ sp j by omega), decide_eq_true h]
          rfl
        · rw [decide_eq_true (show ch.1 ≤ sp j by omega), decide_eq_false h]
          simp
      rw [e1, e2]
      have f1 : osum ((S.filter (isIn n sp i j)).map (fee ((j :: js).map sp))) = osum ((S.filter (isIn n sp i j)).map fun ch => feeAt ch (mo n sp j)) := by
        apply osum_congr
        intro ch hc
        have := (List.mem_filter.mp hc).2
        unfold isIn at this
        rw [decide_eq_false (show ¬ n ≤ j by omega), Bool.false_or, Bool.and_eq_true] at this
        have hb : ch.1 ≤ sp j := by simpa using this.2
        unfold fee nextT mo
        rw [List.map_cons, List.find?_cons, decide_eq_true hb, if_pos h2]
      have f2 : osum ((S.filter fun ch => decide (af sp (j + 1) < ch.1)).map (fee ((j :: js).map sp))) = osum ((S.filter fun ch => decide (af sp (j + 1) < ch.1)).map (fee (js.map sp))) := by
        apply osum_congr
        intro ch hc
        have h := (List.mem_filter.mp hc).2
        have e3 : af sp (j + 1) = sp j := by unfold af; rw [if_neg (by omega)]; rfl
        rw [e3] at h
        have hb : sp j < ch.1 := by simpa using h
        unfold fee nextT
        rw [List.map_cons, List.find?_cons, decide_eq_false (show ¬ ch.1 ≤ sp j by omega)]
      rw [f1, f2]
    have lk : ∀ (h1 : i ≤ j) (h2 : j < n) u, lkc n sp price S i j = some u ↔ ∃ a, osum ((S.filter (isIn n sp i j)).map fun ch => feeAt ch (mo n sp j)) = some a ∧ u = a + price (sp j) := fun h1 h2 u => by
      unfold lkc
      rw [if_neg (by omega), if_pos h2]
      simp only [Option.map_eq_some_iff]
      constructor
      · rintro ⟨a, k1, k2⟩
        exact ⟨a, k1, k2.symm⟩
      · rintro ⟨a, k1, k2⟩
        exact ⟨a, k1, k2.symm⟩
    constructor
    · intro h
      cases h with
      | cons h1 h2 h3 h4 =>
        obtain ⟨⟨k1, k2⟩, b, k3, rfl⟩ := (path_tot h0).mp h4
        obtain ⟨a, q1, rfl⟩ := (lk h1 h2 _).mp h3
        exact ⟨⟨⟨h1, h2, k1⟩, by omega⟩, a + b, (split h1 h2 _).mpr ⟨a, b, q1, k3, rfl⟩, by simp only [List.map_cons, List.sum_cons]; omega⟩
    · rintro ⟨⟨⟨h1, h2, h3⟩, h4⟩, u, k1, rfl⟩
      obtain ⟨a, b, q1, q2, rfl⟩ := (split h1 h2 _).mp k1
      have key := PC.cons h1 h2 ((lk h1 h2 _).mpr ⟨a, q1, rfl⟩) ((path_tot h0 (js := js) (i := j + 1)).mpr ⟨⟨h3, h2⟩, b, q2, rfl⟩)
      have e : a + b + (((j :: js).map sp).map price).sum = a + price (sp j) + (b + ((js.map sp).map price).sum) := by
        simp only [List.map_cons, List.sum_cons]
        omega
      rw [e]
      exact key
end
end Plain
end
section
set_option linter.all false
namespace Plain
section
variable {n : Nat} {sp : Nat → Int} {price : Int → Int} {S : List Charge}
variable (hm : ∀ i j, i < j → j < n → sp i < sp j) (h0 : ∀ j, j < n → -1 < sp j)
include hm h0
theorem af_le {i i' : Nat} (h : i ≤ i') (hi : i' ≤ n) : af sp i ≤ af sp i' := by
  by_cases e : i = i'
  · rw [e]
    exact Int.le_refl _
  · have := af_lt hm (i := i) (j := i' - 1) (by omega) (by omega) (h0 _ (by omega))
    have e3 : af sp i' = sp (i' - 1) := by unfold af; rw [if_neg (by omega)]
    omega
theorem lk_split {i i' j : Nat} (h1 : i ≤ i') (h2 : i' ≤ j) (h3 : j ≤ n) {v : Int} : lkc n sp price S i j = some v ↔ ∃ a b, osum ((S.filter fun ch => decide (af sp i < ch.1) && decide (ch.1 ≤ af sp i')).map fun ch => feeAt ch (mo n sp j)) = some a ∧ lkc n sp price S i' j = some b ∧ v = a + b := by
  have hle := af_le hm h0 h1 (by omega)
  have e1 : (S.filter fun x => isIn n sp i j x && decide (af sp i' < x.1)) = S.filter (isIn n sp i' j) := by
    apply List.filter_congr
    intro ch _
    unfold isIn
    by_cases h : af sp i' < ch.1
    · rw [decide_eq_true h, decide_eq_true (show af sp i < ch.1 by omega)]
      simp
    · rw [decide_eq_false h]
      simp
  have e2 : (S.filter fun x => isIn n sp i j x && !decide (af sp i' < x.1)) = S.filter fun ch => decide (af sp i < ch.1) && decide (ch.1 ≤ af sp i') := by
    apply List.filter_congr
    intro ch _
    unfold isIn
    by_cases h : af sp i' < ch.1
    · rw [decide_eq_true h, decide_eq_false (show ¬ ch.1 ≤ af sp i' by omega)]
      simp
    · rw [decide_eq_false h, decide_eq_true (show ch.1 ≤ af sp i' by omega)]
      have : (decide (n ≤ j) || decide (ch.1 ≤ sp j)) = true := by
        by_cases hj : n ≤ j
        · rw [decide_eq_true hj]
          rfl
        · have := af_lt hm h2 (by omega) (h0 j (by omega))
          rw [decide_eq_true (show ch.1 ≤ sp j by omega)]
          simp
      rw [this]
      simp
  unfold lkc
  rw [if_neg (show ¬ j < i by omega), if_neg (show ¬ j < i' by omega)]
  simp only [Option.map_eq_some_iff, osum_filter (p := isIn n sp i j) (q := fun x => decide (af sp i' < x.1)), e1, e2]
  constructor
  · rintro ⟨_, ⟨a, b, k1, k2, rfl⟩, rfl⟩
    exact ⟨b, _, k2, ⟨a, k1, rfl⟩, by omega⟩
  · rintro ⟨a, _, k1, ⟨b, k2, rfl⟩, rfl⟩
    exact ⟨b + a, ⟨b, a, k2, k1, rfl⟩, by omega⟩
theorem lkc_monge (hS : ∀ ch ∈ S, ChOk ch) : Monge n (lkc n sp price S) := by
  intro i i' j j' a b h1 h2 h3 h4 ha hb
  obtain ⟨u, y, k1, k2, rfl⟩ := (lk_split hm h0 h1 (Nat.le_trans h2 h3) h4).mp ha
  obtain ⟨w, q1, q2⟩ := osum_le (g := fun ch => feeAt ch (mo n sp j)) (fun ch hc v hv => by
    have hc' := hS ch (List.mem_filter.mp hc).1
    by_cases hj : j < n
    · have e : mo n sp j = some (sp j) := by unfold mo; rw [if_pos hj]
      rw [e]
      refine feeAt_mono hc' (fun t ht => ?_) hv
      unfold mo at ht
      by_cases hj' : j' < n
      · rw [if_pos hj'] at ht
        cases ht
        by_cases e : j = j'
        · rw [e]
          exact Int.le_refl _
        · exact Int.le_of_lt (hm j j' (by omega) hj')
      · rw [if_neg hj'] at ht
        cases ht
    · have e : mo n sp j = mo n sp j' := by unfold mo; rw [if_neg hj, if_neg (by omega)]
      rw [e]
      exact ⟨v, hv, Int.le_refl _⟩) k1
  exact ⟨w + b, y, (lk_split hm h0 h1 h2 (by omega)).mpr ⟨w, b, q1, hb, rfl⟩, k2, by omega⟩
/-- all the charges: a path from place 0 is a total at its spots -/
theorem path0 (hb : ∀ ch ∈ S, 0 ≤ ch.1) {js : List Nat} {v : Int} : PC n (lkc n sp price S) 0 js v ↔ Seq n 0 js ∧ tot price S (js.map sp) = some v := by
  rw [path_tot hm h0]
  have e : (S.filter fun ch => decide (af sp 0 < ch.1)) = S := by
    apply List.filter_eq_self.mpr
    intro ch hc
    have := hb ch hc
    have e : af sp 0 = -1 := rfl
    rw [e]
    exact decide_eq_true (by omega)
  rw [e]
  constructor
  · rintro ⟨⟨k1, _⟩, a, k2, rfl⟩
    exact ⟨k1, tot_some.mpr ⟨a, k2, rfl⟩⟩
  · rintro ⟨k1, k2⟩
    obtain ⟨a, q1, q2⟩ := tot_some.mp k2
    exact ⟨⟨k1, Nat.zero_le _⟩, a, q1, q2⟩
end
end Plain
end
section
set_option linter.all false
namespace Plain
section
variable {n : Nat} {sp : Nat → Int} {price : Int → Int} {S : List Charge}
theorem seq_of : ∀ {js : List Nat} {i : Nat}, js.Pairwise (· < ·) → (∀ j ∈ js, i ≤ j ∧ j < n) → Seq n i js
  | [], _, _, _ => trivial
  | j :: js, i, h, k => by
    obtain ⟨h1, h2⟩ := List.pairwise_cons.mp h
    obtain ⟨k1, k2⟩ := k j List.mem_cons_self
    exact ⟨k1, k2, seq_of h2 fun x hx => ⟨h1 x hx, (k x (List.mem_cons_of_mem _ hx)).2⟩⟩
/-- the spots at which it is enough to send -/
structure Spots (n : Nat) (sp : Nat → Int) (price : Int → Int) (S : List Charge) : Prop where
  mono : ∀ i j, i < j → j < n → sp i < sp j
  nat : ∀ j, j < n → -1 < sp j
  push : ∀ t, 0 ≤ t → ∃ j, j < n ∧ sp j ≤ t ∧ price (sp j) = price t ∧ ∀ ch ∈ S, ch.1 ≤ t → ch.1 ≤ sp j
theorem Spots.times (X : Spots n sp price S) {js : List Nat} (h : Seq n 0 js) : Times (js.map sp) := ⟨seq_incr X.mono h, fun t ht => by
  obtain ⟨j, hj, rfl⟩ := List.mem_map.mp ht
  have := X.nat j (seq_ge h j hj).2
  omega⟩
open Classical in
theorem Spots.enough (X : Spots n sp price S) (hp : ∀ t, 0 ≤ price t) (hS : ∀ ch ∈ S, ChOk ch) {T : List Int} {v : Int} (hT : Times T) (hv : tot price S T = some v) : ∃ js u, Seq n 0 js ∧ tot price S (js.map sp) = some u ∧ u ≤ v := by
  have ch : ∀ t, ∃ j, 0 ≤ t → j < n ∧ sp j ≤ t ∧ price (sp j) = price t ∧ ∀ ch ∈ S, ch.1 ≤ t → ch.1 ≤ sp j := fun t => by
    by_cases h : 0 ≤ t
    · obtain ⟨j, k⟩ := X.push t h
      exact ⟨j, fun _ => k⟩
    · exact ⟨0, fun z => absurd z h⟩
  let f : Int → Int := fun t => sp (choose (ch t))
  have hf : ∀ t, 0 ≤ t → choose (ch t) < n ∧ f t ≤ t ∧ price (f t) = price t ∧ ∀ ch ∈ S, ch.1 ≤ t → ch.1 ≤ f t := fun t h => choose_spec (ch t) h
  have hq : Seq n 0 ((List.range n).filter fun j => decide (sp j ∈ T.map f)) := by
    refine seq_of (List.Pairwise.filter _ (List.pairwise_lt_range)) fun j hj => ⟨Nat.zero_le _, ?_⟩
    exact List.mem_range.mp (List.mem_filter.mp hj).1
  have A : ∀ t, t ∈ ((List.range n).filter fun j => decide (sp j ∈ T.map f)).map sp ↔ t ∈ T.map f := fun t => by
    constructor
    · intro h
      obtain ⟨j, hj, rfl⟩ := List.mem_map.mp h
      exact of_decide_eq_true (List.mem_filter.mp hj).2
    · intro h
      obtain ⟨x, hx, rfl⟩ := List.mem_map.mp h
      have := hf x (hT.2 x hx)
      exact List.mem_map.mpr ⟨choose (ch x), List.mem_filter.mpr ⟨List.mem_range.mpr this.1, decide_eq_true (List.mem_map.mpr ⟨x, hx, rfl⟩)⟩, rfl⟩
  obtain ⟨u, k1, k2⟩ := tot_push hp hS (f := f) (seq_incr X.mono hq) A (fun t ht => by
    have := hf t (hT.2 t ht)
    exact ⟨this.2.2.1, this.2.1, this.2.2.2⟩) hv
  exact ⟨_, u, hq, k1, k2⟩
/-- the table's best: the least of all totals -/
theorem Spots.min (X : Spots n sp price S) (hp : ∀ t, 0 ≤ price t) (hS : ∀ ch ∈ S, ChOk ch) (hb : ∀ ch ∈ S, 0 ≤ ch.1) {W : Nat → Nat → Option Int} (T : Tab n (lkc n sp price S) W) {k : Nat} {w : Int} (hk : W k 0 = some w) (next : ∀ w', W (k + 1) 0 = some w' → w ≤ w')
    (first : ∀ m, m < k → ∀ w', W m 0 = some w' → w ≤ w') : IsMin price S w := by
  refine ⟨?_, fun Ts v hT hv => ?_⟩
  · obtain ⟨P, _, p2⟩ := T.path k (Nat.zero_le _) hk
    obtain ⟨q1, q2⟩ := (path0 X.mono X.nat hb).mp p2
    exact ⟨_, X.times q1, q2⟩
  · obtain ⟨js, u, k1, k2, k3⟩ := X.enough hp hS hT hv
    obtain ⟨w', q1, q2⟩ := T.below (Nat.zero_le _) ((path0 X.mono X.nat hb).mpr ⟨k1, k2⟩)
    have : w ≤ w' := by
      by_cases h : js.length < k
      · exact first _ h _ q1
      · exact T.best (lkc_monge X.mono X.nat hS) hk next _ _ (by omega) q1
    omega
/-- it can be served at all: a moment at each spot -/
theorem Spots.serves (X : Spots n sp price S) (hS : ∀ ch ∈ S, ChOk ch) (hin : ∀ ch ∈ S, ∃ j, j < n ∧ sp j = ch.1) : ∃ v, tot price S ((List.range n).map sp) = some v := by
  have h : ∀ {R : List Charge}, (∀ ch ∈ R, ch ∈ S) → ∃ a, fees R ((List.range n).map sp) = some a := by
    intro R
    induction R with
    | nil => exact fun _ => ⟨0, rfl⟩
    | cons ch R ih =>
      intro hR
      obtain ⟨a, ha⟩ := ih fun c hc => hR c (List.mem_cons_of_mem _ hc)
      obtain ⟨j, hj, e⟩ := hin ch (hR ch List.mem_cons_self)
      have hq : Seq n 0 (List.range n) := seq_of List.pairwise_lt_range fun j hj => ⟨Nat.zero_le _, List.mem_range.mp hj⟩
      obtain ⟨u, k1, k2⟩ := nextT_least (T := (List.range n).map sp) (b := ch.1) (t := ch.1) (seq_incr X.mono hq) (List.mem_map.mpr ⟨j, List.mem_range.mpr hj, e⟩) (Int.le_refl _)
      obtain ⟨k3, k4⟩ := nextT_some k1
      have e2 : u = ch.1 := by omega
      subst e2
      have hf : fee ((List.range n).map sp) ch = some (ch.2.2.1 * (ch.1 - ch.1)) := by
        unfold fee
        rw [k1]
        unfold feeAt
        simp only
        rw [if_pos (hS ch (hR ch List.mem_cons_self)).be]
      exact ⟨_, osum_cons.mpr ⟨_, a, hf, ha, rfl⟩⟩
  obtain ⟨a, ha⟩ := h (R := S) fun _ h => h
  exact ⟨_, tot_some.mpr ⟨a, ha, rfl⟩⟩
end
end Plain
end
section
set_option linter.all false
namespace Plain
/-- item by item -/
inductive F2 {α β : Type} (r : α → β → Prop) : List α → List β → Prop
  | nil : F2 r [] []
  | cons {a : α} {b : β} {l : List α} {m : List β} : r a b → F2 r l m → F2 r (a :: l) (b :: m)
section
variable {n : Nat} {c : Nat → Nat → Option Int} {W : Nat → Nat → Option Int}
/-- the earliest moments by the table: k from place i on -/
inductive Ear (n : Nat) (c W : Nat → Nat → Option Int) : Nat → Nat → List Nat → Prop
  | nil {i : Nat} : Ear n c W 0 i []
  | cons {k i j : Nat} {js : List Nat} {a b : Int} : i ≤ j → j < n → c i j = some a → W k (j + 1) = some b → W (k + 1) i = some (a + b) →
      (∀ q a' b', i ≤ q → q < j → c i q = some a' → W k (q + 1) = some b' → a' + b' ≠ a + b) → Ear n c W k (j + 1) js → Ear n c W (k + 1) i (j :: js)
theorem Ear.path (T : Tab n c W) {k i : Nat} {js : List Nat} (h : Ear n c W k i js) : ∀ {w : Int}, i ≤ n → W k i = some w → js.length = k ∧ PC n c i js w := by
  induction h with
  | nil =>
    intro w hi hw
    exact ⟨rfl, .nil (by rw [← T.zero _ hi]; exact hw)⟩
  | cons h1 h2 h3 h4 h5 h6 h7 ih =>
    intro w hi hw
    rw [h5] at hw
    cases hw
    obtain ⟨e, p⟩ := ih h2 h4
    exact ⟨by simp [e], .cons h1 h2 h3 p⟩
theorem Ear.early (T : Tab n c W) (M : Monge n c) {k i : Nat} {P : List Nat} (h : Ear n c W k i P) : ∀ {i' : Nat} {Q : List Nat} {w : Int}, i ≤ i' → PC n c i' Q w → W k i' = some w → Q.length = k → F2 (· ≤ ·) P Q := by
  induction h with
  | nil =>
    intro i' Q w _ _ _ hl
    cases Q with
    | nil => exact .nil
    | cons _ _ => simp at hl
  | @cons k i j js a b h1 h2 h3 h4 h5 h6 h7 ih =>
    intro i' Q w hi hQ hw hl
    cases hQ with
    | nil _ => simp at hl
    | @cons _ q Qt x y k1 k2 k3 k4 =>
      have hl : Qt.length = k := by simpa using hl
      obtain ⟨y0, q1, q2⟩ := T.below (i := q + 1) k2 k4
      rw [hl] at q1
      obtain ⟨u, r1, r2⟩ := T.low k i' q _ _ k1 k2 k3 q1
      rw [hw] at r1
      cases r1
      have e : y0 = y := by omega
      subst e
      have hjq : j ≤ q := by
        apply Decidable.byContradiction
        intro hn
        obtain ⟨x1, y1, m1, m2, m3⟩ := M i i' q j a x hi k1 (by omega) (Nat.le_of_lt h2) h3 k3
        obtain ⟨u1, s1, s2⟩ := T.low k i q _ _ (by omega) k2 m1 q1
        rw [h5] at s1
        cases s1
        obtain ⟨u2, t1, t2⟩ := T.low k i' j _ _ (by omega) h2 m2 h4
        rw [hw] at t1
        cases t1
        exact h6 q x1 y0 (by omega) (by omega) m1 q1 (by omega)
      exact .cons hjq (ih (by omega) k4 q1 hl)
end
/-! ### pushing to spots, with the number told -/
def pushL (f : Int → Int) : List Int → List Int
  | [] => []
  | t :: T => if (pushL f T).head? = some (f t) then pushL f T else f t :: pushL f T
theorem pushL_mem {f : Int → Int} : ∀ {T : List Int} {u : Int}, u ∈ pushL f T ↔ u ∈ T.map f
  | [], u => by simp [pushL]
  | t :: T, u => by
    have ih := pushL_mem (f := f) (T := T) (u := u)
    unfold pushL
    by_cases h : (pushL f T).head? = some (f t)
    · rw [if_pos h, List.map_cons, List.mem_cons, ih]
      constructor
      · exact .inr
      · rintro (rfl | h1)
        · exact pushL_mem.mp (List.mem_of_mem_head? h)
        · exact h1
    · rw [if_neg h, List.mem_cons, List.map_cons, List.mem_cons, ih]
theorem pushL_len {f : Int → Int} : ∀ (T : List Int), (pushL f T).length ≤ T.length ∧ ((pushL f T).length = T.length → pushL f T = T.map f)
  | [] => ⟨Nat.le_refl _, fun _ => rfl⟩
  | t :: T => by
    obtain ⟨h1, h2⟩ := pushL_len (f := f) T
    unfold pushL
    by_cases h : (pushL f T).head? = some (f t)
    · rw [if_pos h]
      refine ⟨by simp; omega, fun e => ?_⟩
      simp at e
      omega
    · rw [if_neg h]
      refine ⟨by simp; omega, fun e => ?_⟩
      rw [h2 (by simpa using e)]
      rfl
theorem pushL_incr {f : Int → Int} : ∀ {T : List Int}, Incr T → (∀ t ∈ T, ∀ u ∈ T, t ≤ u → f t ≤ f u) → Incr (pushL f T)
  | [], _, _ => List.Pairwise.nil
  | t :: T, h, hf => by
    obtain ⟨h1, h2⟩ := List.pairwise_cons.mp h
    have ih := pushL_incr h2 fun a ha b hb => hf a (List.mem_cons_of_mem _ ha) b (List.mem_cons_of_mem _ hb)
    unfold pushL
    by_cases e : (pushL f T).head? = some (f t)
    · rw [if_pos e]
      exact ih
    · rw [if_neg e]
      have le : ∀ u ∈ pushL f T, f t ≤ u := fun u hu => by
        obtain ⟨x, hx, rfl⟩ := List.mem_map.mp (pushL_mem.mp hu)
        exact hf t List.mem_cons_self x (List.mem_cons_of_mem _ hx) (Int.le_of_lt (h1 x hx))
      refine List.pairwise_cons.mpr ⟨fun u hu => ?_, ih⟩
      cases hq : pushL f T with
      | nil => rw [hq] at hu; cases hu
      | cons x r =>
        rw [hq] at e hu ih le
        have hne : x ≠ f t := fun z => e (by rw [z]; rfl)
        have := le x List.mem_cons_self
        rcases List.mem_cons.mp hu with rfl | hu
        · omega
        · have := (List.pairwise_cons.mp ih).1 u hu
          omega
section
variable {n : Nat} {sp : Nat → Int} {price : Int → Int} {S : List Charge}
theorem seq_at (hm : ∀ i j, i < j → j < n → sp i < sp j) : ∀ {U : List Int} {i : Nat}, Incr U → (∀ u ∈ U, ∃ j, i ≤ j ∧ j < n ∧ sp j = u) → ∃ js, Seq n i js ∧ js.map sp = U
  | [], _, _, _ => ⟨[], trivial, rfl⟩
  | u :: U, i, h, k => by
    obtain ⟨h1, h2⟩ := List.pairwise_cons.mp h
    obtain ⟨j, a, b, e⟩ := k u List.mem_cons_self
    obtain ⟨js, s1, s2⟩ := seq_at (i := j + 1) hm h2 fun x hx => by
      obtain ⟨q, _, q2, q3⟩ := k x (List.mem_cons_of_mem _ hx)
      have := h1 x hx
      refine ⟨q, ?_, q2, q3⟩
      apply Decidable.byContradiction
      intro hn
      by_cases hq : q = j
      · subst hq
        omega
      · have := hm q j (by omega) b
        omega
    exact ⟨j :: js, ⟨a, b, s1⟩, by rw [List.map_cons, e, s2]⟩
/-- the largest spot is enough -/
def Top (n : Nat) (sp : Nat → Int) (price : Int → Int) (S : List Charge) : Prop := ∀ t, 0 ≤ t → ∃ j, j < n ∧ sp j ≤ t ∧ price (sp j) = price t ∧ (∀ ch ∈ S, ch.1 ≤ t → ch.1 ≤ sp j) ∧ ∀ q, q < n → sp q ≤ t → sp q ≤ sp j
open Classical in
theorem Spots.enough2 (X : Spots n sp price S) (Y : Top n sp price S) (hp : ∀ t, 0 ≤ price t) (hS : ∀ ch ∈ S, ChOk ch) {T : List Int} {v : Int} (hT : Times T) (hv : tot price S T = some v) :
    ∃ js u, Seq n 0 js ∧ tot price S (js.map sp) = some u ∧ u ≤ v ∧ js.length ≤ T.length ∧ (js.length = T.length → F2 (· ≤ ·) (js.map sp) T) := by
  have ch : ∀ t, ∃ j, 0 ≤ t → j < n ∧ sp j ≤ t ∧ price (sp j) = price t ∧ (∀ ch ∈ S, ch.1 ≤ t → ch.1 ≤ sp j) ∧ ∀ q, q < n → sp q ≤ t → sp q ≤ sp j := fun t => by
    by_cases h : 0 ≤ t
    · obtain ⟨j, k⟩ := Y t h
      exact ⟨j, fun _ => k⟩
    · exact ⟨0, fun z => absurd z h⟩
  let f : Int → Int := fun t => sp (choose (ch t))
  have hf : ∀ t, 0 ≤ t → choose (ch t) < n ∧ f t ≤ t ∧ price (f t) = price t ∧ (∀ ch ∈ S, ch.1 ≤ t → ch.1 ≤ f t) ∧ ∀ q, q < n → sp q ≤ t → sp q ≤ f t := fun t h => choose_spec (ch t) h
  have hI : Incr (pushL f T) := pushL_incr hT.1 fun t ht u hu h => by
    have a := hf t (hT.2 t ht)
    have b := hf u (hT.2 u hu)
    exact b.2.2.2.2 _ a.1 (Int.le_trans a.2.1 h)
  obtain ⟨js, s1, s2⟩ := seq_at (i := 0) X.mono hI fun u hu => by
    obtain ⟨t, ht, rfl⟩ := List.mem_map.mp (pushL_mem.mp hu)
    exact ⟨_, Nat.zero_le _, (hf t (hT.2 t ht)).1, rfl⟩
  obtain ⟨u, k1, k2⟩ := tot_push hp hS (f := f) hI (fun t => pushL_mem) (fun t ht => by
    have := hf t (hT.2 t ht)
    exact ⟨this.2.2.1, this.2.1, this.2.2.2.1⟩) hv
  have hl : js.length = (pushL f T).length := by rw [← s2, List.length_map]
  obtain ⟨l1, l2⟩ := pushL_len (f := f) T
  refine ⟨js, u, s1, by rw [s2]; exact k1, k2, by omega, fun e => ?_⟩
  rw [s2, l2 (by omega)]
  have key : ∀ {R : List Int}, (∀ t ∈ R, t ∈ T) → F2 (· ≤ ·) (R.map f) R := by
    intro R
    induction R with
    | nil => exact fun _ => .nil
    | cons t R ih => exact fun h => .cons (hf t (hT.2 t (h t List.mem_cons_self))).2.1 (ih fun x hx => h x (List.mem_cons_of_mem _ hx))
  exact key fun _ h => h
/-- the best times -/
structure IsBest (price : Int → Int) (S : List Charge) (T : List Int) : Prop where
  times : Times T
  min : ∃ w, tot price S T = some w ∧ IsMin price S w
  few : ∀ T', Times T' → tot price S T' = tot price S T → T.length ≤ T'.length ∧ (T'.length = T.length → F2 (· ≤ ·) T T')
theorem forall2_anti : ∀ {A B : List Int}, F2 (· ≤ ·) A B → F2 (· ≤ ·) B A → A = B
  | _, _, .nil, _ => rfl
  | _, _, .cons h t, .cons k u => by rw [forall2_anti t u, Int.le_antisymm h k]
theorem IsBest.uniq {T1 T2 : List Int} (a : IsBest price S T1) (b : IsBest price S T2) : T1 = T2 := by
  obtain ⟨w1, p1, m1⟩ := a.min
  obtain ⟨w2, p2, m2⟩ := b.min
  have e := m1.uniq m2
  subst e
  obtain ⟨l1, f1⟩ := a.few T2 b.times (p2.trans p1.symm)
  obtain ⟨l2, f2⟩ := b.few T1 a.times (p1.trans p2.symm)
  have e : T1.length = T2.length := by omega
  exact forall2_anti (f1 e.symm) (f2 e)
theorem tot_perm_eq {S2 : List Charge} {T : List Int} (p : S.Perm S2) : tot price S T = tot price S2 T := by
  cases h : tot price S T with
  | some v => exact (tot_perm p h).symm
  | none =>
    cases h2 : tot price S2 T with
    | none => rfl
    | some v => rw [tot_perm p.symm h2] at h; cases h
theorem IsBest.perm {S2 : List Charge} {T : List Int} (p : S.Perm S2) (h : IsBest price S T) : IsBest price S2 T := by
  obtain ⟨w, h1, h2⟩ := h.min
  refine ⟨h.times, ⟨w, by rw [← tot_perm_eq p]; exact h1, h2.perm p⟩, fun T' hT' e => h.few T' hT' ?_⟩
  rw [tot_perm_eq p, tot_perm_eq p]
  exact e
/-- the table's earliest times are the best ones -/
theorem Spots.best (X : Spots n sp price S) (Y : Top n sp price S) (hp : ∀ t, 0 ≤ price t) (hS : ∀ ch ∈ S, ChOk ch) (hb : ∀ ch ∈ S, 0 ≤ ch.1) {W : Nat → Nat → Option Int} (T : Tab n (lkc n sp price S) W) {k : Nat} {w : Int} (hk : W k 0 = some w)
    (next : ∀ w', W (k + 1) 0 = some w' → w ≤ w') (first : ∀ m, m < k → ∀ w', W m 0 = some w' → w < w') {P : List Nat} (hP : Ear n (lkc n sp price S) W k 0 P) : IsBest price S (P.map sp) := by
  have M : Monge n (lkc n sp price S) := lkc_monge X.mono X.nat hS
  have hmin := X.min hp hS hb T hk next fun m hm w' hw => Int.le_of_lt (first m hm w' hw)
  obtain ⟨hl, p⟩ := hP.path T (Nat.zero_le _) hk
  obtain ⟨s1, s2⟩ := (path0 X.mono X.nat hb).mp p
  refine ⟨X.times s1, ⟨w, s2, hmin⟩, fun T' hT' e => ?_⟩
  rw [s2] at e
  obtain ⟨js, u, a1, a2, a3, a4, a5⟩ := X.enough2 Y hp hS hT' e
  have eu : u = w := by
    have := hmin.low _ _ (X.times a1) a2
    omega
  subst eu
  obtain ⟨w', b1, b2⟩ := T.below (Nat.zero_le _) ((path0 X.mono X.nat hb).mpr ⟨a1, a2⟩)
  have hlen : k ≤ js.length := by
    apply Decidable.byContradiction
    intro hn
    have := first _ (by omega) _ b1
    omega
  rw [List.length_map, hl]
  refine ⟨by omega, fun e2 => ?_⟩
  have ejs : js.length = k := by omega
  have f1 := a5 (by omega)
  have hw' : w' = u := by
    rw [ejs, hk] at b1
    cases b1
    rfl
  have f2 := hP.early T M (Nat.le_refl _) ((path0 X.mono X.nat hb).mpr ⟨a1, a2⟩) hk ejs
  have mono : ∀ {A B : List Nat}, F2 (· ≤ ·) A B → (∀ b ∈ B, b < n) → F2 (· ≤ ·) (A.map sp) (B.map sp) := by
    intro A B h
    induction h with
    | nil => exact fun _ => .nil
    | @cons x y A B h _ ih =>
      intro hB
      refine .cons ?_ (ih fun b hb => hB b (List.mem_cons_of_mem _ hb))
      by_cases e : x = y
      · rw [e]
        exact Int.le_refl _
      · exact Int.le_of_lt (X.mono x y (by omega) (hB y List.mem_cons_self))
  have f3 := mono f2 fun b hb => (seq_ge a1 b hb).2
  have trans : ∀ {A B C : List Int}, F2 (· ≤ ·) A B → F2 (· ≤ ·) B C → F2 (· ≤ ·) A C := by
    intro A B C h
    induction h generalizing C with
    | nil => intro k; cases k; exact .nil
    | cons h t ih => intro k; cases k with | cons k u => exact .cons (Int.le_trans h k) (ih u)
  exact trans f3 f1
end
end Plain
end
section
set_option linter.all false
namespace LawK
open Lmo Plain
theorem cost_for_eq (ch : Charge) (m : Option Int) : cost_for (ch, m) = match m with
  | none => ch.2.2.1 * (ch.2.1 - ch.1) + ch.2.2.2.getD default
  | some t => ch.2.2.1 * (t - ch.1) := by
  cases m <;> rfl
/-- the fee by what is sent -/
theorem fee_cost {ch : Charge} {m : Option Int} {sent : Option Int} (hs : sent = if (m.isSome && decide (m.getD default ≤ ch.2.1)) = true then m else none) :
    feeAt ch m = if (sent.isNone && ch.2.2.2.isNone) = true then none else some (cost_for (ch, sent)) := by
  rw [cost_for_eq]
  obtain ⟨b, e, w, f⟩ := ch
  cases m with
  | none =>
    simp at hs
    subst hs
    cases f <;> simp [feeAt]
  | some t =>
    unfold feeAt
    by_cases h : t ≤ e
    · simp [h] at hs
      subst hs
      simp [h]
    · simp [h] at hs
      subst hs
      simp only [h, if_false]
      cases f <;> simp
theorem link_loop {s : List Charge × List Int × List Int × Unit × Unit × Unit} {lo hi af : Int} {mo : Option Int} : ∀ (L : List Charge) (t : Int), forL Links_link_b7 L (s, lo, hi, af, mo, t, (), (), ()) =
    match osum ((L.filter fun ch => decide (af < ch.1) && (mo.isNone || decide (ch.1 ≤ mo.getD default))).map fun ch => feeAt ch mo) with
    | none => .rt (none, s)
    | some v => .nx (s, lo, hi, af, mo, t + v, (), (), ())
  | [], t => by simp [forL, osum]
  | ch :: L, t => by
    have ih := fun t => link_loop (s := s) (lo := lo) (hi := hi) (af := af) (mo := mo) L t
    unfold forL
    rw [List.filter_cons]
    cases hc : (decide (af < ch.1) && (mo.isNone || decide (ch.1 ≤ mo.getD default))) with
    | false =>
      have e : Links_link_b7 (s, lo, hi, af, mo, t, (), (), ()) ch = .nx (s, lo, hi, af, mo, t, (), (), ()) := by
        unfold Links_link_b7
        simp only [hc, Bool.false_eq_true, if_false]
      rw [e]
      simp only [Bool.false_eq_true, if_false]
      exact ih t
    | true =>
      simp only [if_true, List.map_cons]
      have hf := fee_cost (ch := ch) (m := mo) rfl
      cases hn : ((if (mo.isSome && decide (mo.getD default ≤ ch.2.1)) = true then mo else none).isNone && ch.2.2.2.isNone) with
      | true =>
        rw [hn] at hf
        simp only [if_true] at hf
        have e : Links_link_b7 (s, lo, hi, af, mo, t, (), (), ()) ch = .rt (none, s) := by
          unfold Links_link_b7
          simp only [hc, if_true, hn]
        rw [e, hf]
        rfl
      | false =>
        rw [hn] at hf
        simp only [Bool.false_eq_true, if_false] at hf
        have e : Links_link_b7 (s, lo, hi, af, mo, t, (), (), ()) ch = .nx (s, lo, hi, af, mo, t + cost_for (ch, if (mo.isSome && decide (mo.getD default ≤ ch.2.1)) = true then mo else none), (), (), ()) := by
          unfold Links_link_b7
          simp only [hc, if_true, hn, Bool.false_eq_true, if_false]
        rw [e, hf]
        simp only
        rw [ih]
        simp only [osum]
        cases osum ((L.filter fun ch => decide (af < ch.1) && (mo.isNone || decide (ch.1 ≤ mo.getD default))).map fun ch => feeAt ch mo) with
        | none => rfl
        | some v =>
          simp only [Option.map_some]
          rw [Int.add_assoc]
abbrev Part := List Charge × List Int × List Int × Unit × Unit × Unit
def lkAf (s : Part) (lo : Int) : Int := if 0 ≤ lo then geti s.2.1 lo else -1
def lkMo (s : Part) (hi : Int) : Option Int := if hi < (s.2.1.length : Int) then some (geti s.2.1 hi) else none
def lkTo (s : Part) (hi : Int) : Int := if hi < (s.2.1.length : Int) then geti s.2.2.1 hi else 0
theorem link_eq (s : Part) (lo hi : Int) : Links_link s (lo, hi) = (if hi ≤ lo then none else
    (osum ((s.1.filter fun ch => decide (lkAf s lo < ch.1) && ((lkMo s hi).isNone || decide (ch.1 ≤ (lkMo s hi).getD default))).map fun ch => feeAt ch (lkMo s hi))).map fun v => lkTo s hi + v, s) := by
  unfold Links_link Links_link_o
  by_cases h : hi ≤ lo
  · simp only [h, decide_true, if_true, Out.get]
  · have e1 : (if decide ((0 : Int) ≤ lo) = true then (geti s.2.1 lo) else (-(1 : Int))) = lkAf s lo := by
      unfold lkAf
      by_cases h : 0 ≤ lo <;> simp [h]
    have e2 : (if decide (hi < (s.2.1.length : Int)) = true then (some (geti s.2.1 hi)) else (none : (Option Int))) = lkMo s hi := by
      unfold lkMo
      by_cases h : hi < (s.2.1.length : Int) <;> simp [h]
    have e3 : (if (lkMo s hi).isSome = true then (geti s.2.2.1 hi) else (0 : Int)) = lkTo s hi := by
      unfold lkMo lkTo
      by_cases h : hi < (s.2.1.length : Int) <;> simp [h]
    simp only [h, decide_false, Bool.false_eq_true, if_false]
    simp only [e1, e2, e3]
    rw [link_loop]
    cases osum ((s.1.filter fun ch => decide (lkAf s lo < ch.1) && ((lkMo s hi).isNone || decide (ch.1 ≤ (lkMo s hi).getD default))).map fun ch => feeAt ch (lkMo s hi)) with
    | none => rfl
    | some v => rfl
end LawK
end
section
set_option linter.all false
namespace LawK
open Lmo Plain
theorem lcG_const {α β E : Type} {step : E → α → Option β × E} {e : E} {v : α → β} : ∀ {xs : List α}, (∀ x ∈ xs, step e x = (some (v x), e)) → lcG step xs e = (xs.map v, e)
  | [], _ => rfl
  | x :: xs, h => by
    have h1 := h x List.mem_cons_self
    have h2 := lcG_const (xs := xs) fun y hy => h y (List.mem_cons_of_mem _ hy)
    simp only [lcG, h1, h2, Option.toList_some, List.map_cons, List.singleton_append]
theorem lcP_const {α β E : Type} {step : E → α → Option β × E} {P : E → α → Prop} {e : E} : ∀ {xs : List α}, (∀ x ∈ xs, (step e x).2 = e ∧ P e x) → lcP step P xs e
  | [], _ => trivial
  | x :: xs, h => by
    obtain ⟨h1, h2⟩ := h x List.mem_cons_self
    refine ⟨h2, ?_⟩
    rw [h1]
    exact lcP_const fun y hy => h y (List.mem_cons_of_mem _ hy)
abbrev Charges := List (Int × Charge)
abbrev Tariff := List (Int × Int)
def spotsOf (cs : Charges) (tf : Tariff) : List Int := uniq ((cs.map fun x => x.2).map (fun ch => ch.1) ++ ((tf.map fun x => x.1) ++ []))
def partOf (cs : Charges) (tf : Tariff) : Part := (cs.map fun x => x.2, spotsOf cs tf, (spotsOf cs tf).map fun t => price_at (tf, t), (), (), ())
def costsOf (cs : Charges) (tf : Tariff) : List (List (Option Int)) := (rng (-1) ((spotsOf cs tf).length + 1 : Nat)).map fun lo => (rng 0 ((spotsOf cs tf).length + 1 : Nat)).map fun hi => (Links_link (partOf cs tf) (lo, hi)).1
def linksOf (cs : Charges) (tf : Tariff) : Links_F := (cs.map fun x => x.2, spotsOf cs tf, (spotsOf cs tf).map fun t => price_at (tf, t), costsOf cs tf, [], ())
theorem link_same (s : Part) (z : Int × Int) : (Links_link s z).2 = s := by
  obtain ⟨lo, hi⟩ := z
  rw [link_eq]
theorem init_rows (cs : Charges) (tf : Tariff) (bg : List Int) (lo : Int) : Links_init_c20 (partOf cs tf, cs, tf, (), bg, (), (), (), ((spotsOf cs tf).length : Int), (), (), ()) lo =
    (some ((rng 0 ((spotsOf cs tf).length + 1 : Nat)).map fun hi => (Links_link (partOf cs tf) (lo, hi)).1), (partOf cs tf, cs, tf, (), bg, (), (), (), ((spotsOf cs tf).length : Int), (), (), ())) := by
  unfold Links_init_c20
  simp only
  have n2 : ((((spotsOf cs tf).length : Int)) + (1 : Int)).toNat = (spotsOf cs tf).length + 1 := by omega
  rw [n2, lcG_const (v := fun hi => (Links_link (partOf cs tf) (lo, hi)).1) fun hi _ => ?_]
  unfold Links_init_c18
  simp only [link_same]
theorem init_eq (cs : Charges) (tf : Tariff) : Links_init Links_0 (cs, tf) = ((), linksOf cs tf) := by
  have n1 : ((((spotsOf cs tf).length : Int)) - (-(1 : Int))).toNat = (spotsOf cs tf).length + 1 := by omega
  have key := lcG_const (step := Links_init_c20) (e := (partOf cs tf, cs, tf, (), (cs.map fun x => x.2).map (fun ch => ch.1), (), (), (), ((spotsOf cs tf).length : Int), (), (), ()))
    (v := fun lo => (rng 0 ((spotsOf cs tf).length + 1 : Nat)).map fun hi => (Links_link (partOf cs tf) (lo, hi)).1) (xs := rng (-1) ((spotsOf cs tf).length + 1 : Nat)) fun lo _ => init_rows cs tf _ lo
  have e : Links_init Links_0 (cs, tf) = (fun r : List (List (Option Int)) × (Part × Charges × Tariff × Unit × List Int × Unit × Unit × Unit × Int × Unit × Unit × Unit) => (((), (r.2.1.1, r.2.1.2.1, r.2.1.2.2.1, r.1, ([] : List (Int × List (Option Int))), r.2.1.2.2.2.2.2)) : Unit × Links_F))
      (lcG Links_init_c20 (rng (-(1 : Int)) ((((spotsOf cs tf).length : Int)) - (-(1 : Int))).toNat) (partOf cs tf, cs, tf, (), (cs.map fun x => x.2).map (fun ch => ch.1), (), (), (), ((spotsOf cs tf).length : Int), (), (), ())) := rfl
  rw [e, n1, key]
  rfl
end LawK
end
section
set_option linter.all false
namespace LawK
open Lmo Plain
theorem dget_dput {κ β : Type} [DecidableEq κ] {k z : κ} {x : β} : ∀ {d : List (κ × β)}, dget (dput d k x) z = if z = k then some x else dget d z
  | [] => by
    unfold dput dget
    by_cases h : k = z
    · rw [if_pos h, if_pos h.symm]
    · rw [if_neg h, if_neg fun e => h e.symm]
      rfl
  | (k', y) :: r => by
    have ih := dget_dput (k := k) (z := z) (x := x) (d := r)
    unfold dput
    by_cases h : k' = k
    · subst h
      rw [if_pos rfl]
      unfold dget
      by_cases h2 : k' = z
      · rw [if_pos h2, if_pos h2.symm]
      · rw [if_neg h2, if_neg fun e => h2 e.symm, if_neg h2]
    · rw [if_neg h]
      unfold dget
      by_cases h2 : k' = z
      · rw [if_pos h2, if_pos h2, if_neg fun e => h (h2.trans e)]
      · rw [if_neg h2, if_neg h2]
        exact ih
def withK (B : Links_F) (d : List (Int × List (Option Int))) : Links_F := (B.1, B.2.1, B.2.2.1, B.2.2.2.1, d, ())
def lf (B : Links_F) (p : Int) (b : List (Option Int)) : Option Int :=
  lminO (((rng p ((B.2.1.length : Int) - p).toNat).filter fun x => (geti (geti B.2.2.2.1 p) x).isSome && (geti b (x + 1)).isSome).map fun x => (geti (geti B.2.2.2.1 p) x).getD default + (geti b (x + 1)).getD default)
theorem least_from_eq (s : Links_F) (p : Int) (b : List (Option Int)) : Links_least_from s (p, b) = (lf s p b, s) := by
  unfold Links_least_from Links_least_from_o lf
  simp only [Out.get]
  rw [show ∀ l : List Int, (l.map fun x => x) = l from fun l => List.map_id' l]
  rfl
def rowOf (B : Links_F) : Nat → List (Option Int)
  | 0 => (rng 0 (B.2.1.length + 1)).map fun p => geti (geti B.2.2.2.1 p) (B.2.1.length : Int)
  | k + 1 => (rng 0 (B.2.1.length + 1)).map fun p => lf B p (rowOf B k)
def Known (B : Links_F) (d : List (Int × List (Option Int))) : Prop := ∀ z r, dget d z = some r → 0 ≤ z ∧ r = rowOf B z.toNat
theorem row_step (B : Links_F) (d : List (Int × List (Option Int))) (z sz : Int) (b : List (Option Int)) (x : Int) : Links_row_c8 (withK B d, z, sz, (), (), b, ()) x = (some (lf B x b), (withK B d, z, sz, (), (), b, ())) := by
  unfold Links_row_c8
  simp only [least_from_eq]
  rfl
theorem row_val (B : Links_F) : ∀ (k n : Nat), k < n → ∀ d, Known B d → ∃ d', Links_row_f n (withK B d) (k : Int) = (rowOf B k, withK B d') ∧ Known B d' ∧ ∀ z, (dget d' z).isSome = true → (dget d z).isSome = true ∨ (0 ≤ z ∧ z ≤ k) := by
  intro k
  induction k with
  | zero =>
    intro n hn d hd
    obtain ⟨m, rfl⟩ : ∃ m, n = m + 1 := ⟨n - 1, by omega⟩
    cases e : dget d ((0 : Nat) : Int) with
    | some r =>
      refine ⟨d, ?_, hd, fun z h => .inl h⟩
      obtain ⟨_, h2⟩ := hd _ _ e
      have h2 : r = rowOf B 0 := h2
      have e' : dget (withK B d).2.2.2.2.1 ((0 : Nat) : Int) = some r := e
      unfold Links_row_f
      simp only [e', Option.isSome_some, Bool.not_true, Bool.false_eq_true, if_false, Out.bind, Out.get, Option.getD_some, h2]
    | none =>
      have e' : dget (withK B d).2.2.2.2.1 ((0 : Nat) : Int) = none := e
      have n2 : ((((withK B d).2.1.length : Int)) + (1 : Int)).toNat = B.2.1.length + 1 := by
        show (((B.2.1.length : Int)) + 1).toNat = _
        omega
      refine ⟨dput d 0 (rowOf B 0), ?_, fun z r h => ?_, fun z h => ?_⟩
      · unfold Links_row_f
        simp only [e', Option.isSome_none, Bool.not_false, if_true, n2]
        rw [if_pos (by simp)]
        simp only [Out.bind, Out.get]
        show ((dget (dput d 0 (rowOf B 0)) 0).getD default, withK B (dput d 0 (rowOf B 0))) = _
        rw [dget_dput, if_pos rfl]
        first | done | rfl
      · rw [dget_dput] at h
        by_cases hz : z = 0
        · rw [if_pos hz] at h
          cases h
          subst hz
          exact ⟨Int.le_refl _, rfl⟩
        · rw [if_neg hz] at h
          exact hd _ _ h
      · rw [dget_dput] at h
        by_cases hz : z = 0
        · exact .inr ⟨by omega, by omega⟩
        · rw [if_neg hz] at h
          exact .inl h
  | succ k ih =>
    intro n hn d hd
    obtain ⟨m, rfl⟩ : ∃ m, n = m + 1 := ⟨n - 1, by omega⟩
    cases e : dget d ((k + 1 : Nat) : Int) with
    | some r =>
      refine ⟨d, ?_, hd, fun z h => .inl h⟩
      obtain ⟨_, h2⟩ := hd _ _ e
      have h2 : r = rowOf B (k + 1) := h2
      have e' : dget (withK B d).2.2.2.2.1 ((k + 1 : Nat) : Int) = some r := e
      unfold Links_row_f
      simp only [e', Option.isSome_some, Bool.not_true, Bool.false_eq_true, if_false, Out.bind, Out.get]
      rw [h2]
      rfl
    | none =>
      obtain ⟨d1, k1, k2, k3⟩ := ih m (by omega) d hd
      have e' : dget (withK B d).2.2.2.2.1 ((k + 1 : Nat) : Int) = none := e
      have n2 : ((((withK B d).2.1.length : Int)) + (1 : Int)).toNat = B.2.1.length + 1 := by
        show (((B.2.1.length : Int)) + 1).toNat = _
        omega
      have z1 : (((k + 1 : Nat) : Int)) - (1 : Int) = (k : Int) := by omega
      refine ⟨dput d1 ((k + 1 : Nat) : Int) (rowOf B (k + 1)), ?_, fun z r h => ?_, fun z h => ?_⟩
      · unfold Links_row_f
        simp only [e', Option.isSome_none, Bool.not_false, if_true, n2, z1, k1]
        rw [if_neg (by simp; omega)]
        rw [lcG_const (v := fun x => lf B x (rowOf B k)) fun x _ => row_step B d1 _ _ _ x]
        simp only [Out.bind, Out.get]
        show ((dget (dput d1 ((k + 1 : Nat) : Int) (rowOf B (k + 1))) ((k + 1 : Nat) : Int)).getD default, withK B (dput d1 ((k + 1 : Nat) : Int) (rowOf B (k + 1)))) = _
        rw [dget_dput, if_pos rfl]
        first | done | rfl
      · rw [dget_dput] at h
        by_cases hz : z = ((k + 1 : Nat) : Int)
        · rw [if_pos hz] at h
          cases h
          subst hz
          exact ⟨by omega, rfl⟩
        · rw [if_neg hz] at h
          exact k2 _ _ h
      · rw [dget_dput] at h
        by_cases hz : z = ((k + 1 : Nat) : Int)
        · exact .inr ⟨by omega, by omega⟩
        · rw [if_neg hz] at h
          rcases k3 _ h with q | q
          · exact .inl q
          · exact .inr ⟨q.1, by omega⟩
end LawK
end
section
set_option linter.all false
namespace LawK
open Lmo Plain
theorem geti_rng {α : Type} [Inhabited α] {f : Int → α} {N i : Nat} (h : i < N) : geti ((rng 0 N).map f) (i : Int) = f i := by
  unfold geti
  rw [at_nat, List.getElem?_map, rng_get 0 N h]
  simp
theorem lminO_mem {xs : List Int} {y : Int} (h : y ∈ xs) : ∃ w, lminO xs = some w ∧ w ≤ y := by
  rw [lminO_eq, if_neg (List.ne_nil_of_mem h)]
  exact ⟨_, rfl, lmin_le h⟩
theorem lminO_got {xs : List Int} {w : Int} (h : lminO xs = some w) : w ∈ xs := by
  rw [lminO_eq] at h
  by_cases e : xs = []
  · rw [if_pos e] at h
    cases h
  · rw [if_neg e] at h
    cases h
    exact lmin_mem e
def cOf (B : Links_F) (i j : Nat) : Option Int := geti (geti B.2.2.2.1 (i : Int)) (j : Int)
def wOf (B : Links_F) (k i : Nat) : Option Int := geti (rowOf B k) (i : Int)
theorem tab_of (B : Links_F) (hlt : ∀ i j, i ≤ B.2.1.length → j < i → cOf B i j = none) : Tab B.2.1.length (cOf B) (wOf B) := by
  refine ⟨fun i hi => ?_, fun k i j a b h1 h2 h3 h4 => ?_, fun k i w hi h => ?_⟩
  · unfold wOf rowOf cOf
    rw [geti_rng (by omega)]
  · have hw : wOf B (k + 1) i = lf B i (rowOf B k) := by
      unfold wOf
      rw [show rowOf B (k + 1) = (rng 0 (B.2.1.length + 1)).map fun p => lf B p (rowOf B k) from rfl, geti_rng (by omega)]
    rw [hw]
    unfold lf
    refine lminO_mem (List.mem_map.mpr ⟨(j : Int), List.mem_filter.mpr ⟨mem_rng.mpr ⟨by omega, by omega⟩, ?_⟩, ?_⟩)
    · have e1 : geti (geti B.2.2.2.1 (i : Int)) (j : Int) = some a := h3
      have e2 : geti (rowOf B k) ((j : Int) + 1) = some b := h4
      rw [e1, e2]
      rfl
    · have e1 : geti (geti B.2.2.2.1 (i : Int)) (j : Int) = some a := h3
      have e2 : geti (rowOf B k) ((j : Int) + 1) = some b := h4
      rw [e1, e2]
      rfl
  · have hw : wOf B (k + 1) i = lf B i (rowOf B k) := by
      unfold wOf
      rw [show rowOf B (k + 1) = (rng 0 (B.2.1.length + 1)).map fun p => lf B p (rowOf B k) from rfl, geti_rng (by omega)]
    rw [hw] at h
    unfold lf at h
    obtain ⟨x, hx, e⟩ := List.mem_map.mp (lminO_got h)
    obtain ⟨h1, h2⟩ := List.mem_filter.mp hx
    obtain ⟨q1, q2⟩ := mem_rng.mp h1
    obtain ⟨a1, a2⟩ := Bool.and_eq_true_iff.mp h2
    obtain ⟨a, ha⟩ := Option.isSome_iff_exists.mp a1
    obtain ⟨b, hb⟩ := Option.isSome_iff_exists.mp a2
    obtain ⟨j, rfl⟩ : ∃ j : Nat, x = (j : Int) := ⟨x.toNat, by omega⟩
    rw [ha, hb] at e
    exact ⟨j, a, b, by omega, by omega, ha, hb, e.symm⟩
end LawK
end
section
set_option linter.all false
namespace LawK
open Lmo Plain
theorem geti_rngD {α : Type} [Inhabited α] {f : Int → α} {lo : Int} {N i : Nat} (h : i < N) : geti ((rng lo N).map f) (i : Int) = f (lo + i) := by
  unfold geti
  rw [at_nat, List.getElem?_map, rng_get lo N h]
  rfl
def spO (cs : Charges) (tf : Tariff) (j : Nat) : Int := geti (spotsOf cs tf) (j : Int)
def prO (tf : Tariff) (t : Int) : Int := price_at (tf, t)
theorem cOf_link (cs : Charges) (tf : Tariff) {i j : Nat} (hi : i ≤ (spotsOf cs tf).length) (hj : j ≤ (spotsOf cs tf).length) : cOf (linksOf cs tf) i j = lkc (spotsOf cs tf).length (spO cs tf) (prO tf) (cs.map fun x => x.2) i j := by
  have e1 : cOf (linksOf cs tf) i j = (Links_link (partOf cs tf) (-1 + (i : Int), (j : Int))).1 := by
    show geti (geti (costsOf cs tf) (i : Int)) (j : Int) = _
    unfold costsOf
    rw [geti_rngD (by omega), geti_rng (by omega)]
  rw [e1, link_eq]
  unfold lkc
  by_cases h : j < i
  · rw [if_pos h]
    simp only
    rw [if_pos (by omega)]
  · rw [if_neg h]
    simp only
    rw [if_neg (by omega)]
    have a1 : lkAf (partOf cs tf) (-1 + (i : Int)) = af (spO cs tf) i := by
      unfold lkAf af
      by_cases hi0 : i = 0
      · subst hi0
        rfl
      · rw [if_pos (by omega), if_neg hi0]
        show geti (spotsOf cs tf) (-1 + (i : Int)) = geti (spotsOf cs tf) ((i - 1 : Nat) : Int)
        congr 1
        omega
    have a2 : lkMo (partOf cs tf) (j : Int) = mo (spotsOf cs tf).length (spO cs tf) j := by
      unfold lkMo mo
      show (if (j : Int) < ((spotsOf cs tf).length : Int) then _ else _) = _
      by_cases hj2 : j < (spotsOf cs tf).length
      · rw [if_pos (by omega), if_pos hj2]
        rfl
      · rw [if_neg (by omega), if_neg hj2]
    have a3 : lkTo (partOf cs tf) (j : Int) = if j < (spotsOf cs tf).length then prO tf (spO cs tf j) else 0 := by
      unfold lkTo
      show (if (j : Int) < ((spotsOf cs tf).length : Int) then geti ((spotsOf cs tf).map fun t => price_at (tf, t)) (j : Int) else 0) = _
      by_cases hj2 : j < (spotsOf cs tf).length
      · rw [if_pos (by omega), if_pos hj2]
        unfold prO spO geti
        rw [at_nat, at_nat, List.getElem?_map, List.getElem?_eq_getElem hj2]
        rfl
      · rw [if_neg (by omega), if_neg hj2]
    rw [a1, a2, a3]
    have a4 : (cs.map fun x => x.2).filter (fun ch => decide (af (spO cs tf) i < ch.1) && ((mo (spotsOf cs tf).length (spO cs tf) j).isNone || decide (ch.1 ≤ (mo (spotsOf cs tf).length (spO cs tf) j).getD default))) = (cs.map fun x => x.2).filter (isIn (spotsOf cs tf).length (spO cs tf) i j) := by
      apply List.filter_congr
      intro ch _
      unfold isIn mo
      by_cases hj2 : j < (spotsOf cs tf).length
      · rw [if_pos hj2, decide_eq_false (show ¬ (spotsOf cs tf).length ≤ j by omega)]
        rfl
      · rw [if_neg hj2, decide_eq_true (show (spotsOf cs tf).length ≤ j by omega)]
        rfl
    show Option.map _ (osum (List.map _ ((cs.map fun x => x.2).filter _))) = _
    rw [a4]
    congr 1
    funext v
    omega
end LawK
end
section
set_option linter.all false
namespace LawK
open Lmo Plain
theorem geti_last {α : Type} [Inhabited α] {xs : List α} : geti xs (-1) = (xs.getLast?).getD default := by
  unfold geti at? L2.ixN
  cases xs with
  | nil => rfl
  | cons x xs =>
    rw [List.getLast?_eq_getElem?]
    have h : ¬ (0 ≤ (-1 : Int)) := by omega
    rw [if_neg h]
    rw [if_pos (by simp; omega)]
    have e : (-1 + ((x :: xs).length : Int)).toNat = (x :: xs).length - 1 := by simp; omega
    simp only [Option.bind_some, e]
theorem price_eq (tf : Tariff) (t : Int) : price_at (tf, t) = (((tf.filter fun x => decide (x.1 ≤ t)).map fun x => x.2).getLast?).getD 0 := by
  unfold price_at price_at_o
  simp only [Out.get]
  exact geti_last
theorem price_nonneg {tf : Tariff} (h : ∀ x ∈ tf, 0 ≤ x.2) (t : Int) : 0 ≤ price_at (tf, t) := by
  rw [price_eq]
  cases e : (((tf.filter fun x => decide (x.1 ≤ t)).map fun x => x.2).getLast?) with
  | none => exact Int.le_refl _
  | some v =>
    obtain ⟨x, hx, rfl⟩ := List.mem_map.mp (List.mem_of_getLast? e)
    exact h x (List.mem_filter.mp hx).1
end LawK
end
section
set_option linter.all false
namespace LawK
open Lmo Plain
structure TfOk (tf : Tariff) : Prop where
  first : ∃ p r, tf = (0, p) :: r
  incr : (tf.map fun x => x.1).Pairwise (· < ·)
  pos : ∀ x ∈ tf, 0 ≤ x.2
structure CsOk (cs : Charges) : Prop where
  ok : ∀ x ∈ cs, ChOk x.2
  begin_ : ∀ x ∈ cs, 0 ≤ x.2.1
theorem mem_spots {cs : Charges} {tf : Tariff} {t : Int} : t ∈ spotsOf cs tf ↔ (∃ x ∈ cs, x.2.1 = t) ∨ ∃ x ∈ tf, x.1 = t := by
  unfold spotsOf
  rw [mem_uniq]
  simp only [List.append_nil, List.mem_append, List.mem_map]
  constructor
  · rintro (⟨ch, ⟨x, hx, rfl⟩, rfl⟩ | ⟨x, hx, rfl⟩)
    · exact .inl ⟨x, hx, rfl⟩
    · exact .inr ⟨x, hx, rfl⟩
  · rintro (⟨x, hx, rfl⟩ | ⟨x, hx, rfl⟩)
    · exact .inl ⟨x.2, ⟨x, hx, rfl⟩, rfl⟩
    · exact .inr ⟨x, hx, rfl⟩
theorem spO_get {cs : Charges} {tf : Tariff} {j : Nat} (h : j < (spotsOf cs tf).length) : spO cs tf j = (spotsOf cs tf)[j] := by
  unfold spO geti
  rw [at_nat, List.getElem?_eq_getElem h]
  rfl
theorem spO_mono {cs : Charges} {tf : Tariff} (i j : Nat) (h : i < j) (hj : j < (spotsOf cs tf).length) : spO cs tf i < spO cs tf j := by
  rw [spO_get hj, spO_get (by omega)]
  exact List.pairwise_iff_getElem.mp (uniq_lt _) i j (by unfold spotsOf at hj; omega) hj h
theorem spots_ok {cs : Charges} {tf : Tariff} (hc : CsOk cs) (ht : TfOk tf) : Spots (spotsOf cs tf).length (spO cs tf) (prO tf) (cs.map fun x => x.2) := by
  have zero : (0 : Int) ∈ spotsOf cs tf := by
    obtain ⟨p, r, rfl⟩ := ht.first
    exact mem_spots.mpr (.inr ⟨(0, p), List.mem_cons_self, rfl⟩)
  have pos : ∀ s ∈ spotsOf cs tf, 0 ≤ s := fun s hs => by
    rcases mem_spots.mp hs with ⟨x, hx, rfl⟩ | ⟨x, hx, rfl⟩
    · exact hc.begin_ x hx
    · obtain ⟨p, r, rfl⟩ := ht.first
      rcases List.mem_cons.mp hx with rfl | h
      · exact Int.le_refl _
      · have := (List.pairwise_cons.mp ht.incr).1 x.1 (List.mem_map.mpr ⟨x, h, rfl⟩)
        exact Int.le_of_lt this
  refine ⟨fun i j h hj => spO_mono i j h hj, fun j hj => ?_, fun t h0 => ?_⟩
  · have := pos _ (List.getElem_mem hj)
    rw [spO_get hj]
    omega
  · have ne : ((spotsOf cs tf).filter fun s => decide (s ≤ t)) ≠ [] := List.ne_nil_of_mem (List.mem_filter.mpr ⟨zero, decide_eq_true h0⟩)
    obtain ⟨m1, m2⟩ := List.mem_filter.mp (lmax_mem ne)
    have top : ∀ s ∈ spotsOf cs tf, s ≤ t → s ≤ lmax ((spotsOf cs tf).filter fun s => decide (s ≤ t)) := fun s hs hst => le_lmax (List.mem_filter.mpr ⟨hs, decide_eq_true hst⟩)
    have m2 : lmax ((spotsOf cs tf).filter fun s => decide (s ≤ t)) ≤ t := of_decide_eq_true m2
    generalize lmax ((spotsOf cs tf).filter fun s => decide (s ≤ t)) = u at m1 m2 top
    obtain ⟨j, hj, rfl⟩ := List.mem_iff_getElem.mp m1
    refine ⟨j, hj, by rw [spO_get hj]; exact m2, ?_, fun ch hch hb => ?_⟩
    · unfold prO
      rw [spO_get hj, price_eq, price_eq]
      have e : (tf.filter fun x => decide (x.1 ≤ (spotsOf cs tf)[j])) = tf.filter fun x => decide (x.1 ≤ t) := by
        apply List.filter_congr
        intro x hx
        have := top x.1 (mem_spots.mpr (.inr ⟨x, hx, rfl⟩))
        by_cases h : x.1 ≤ t
        · rw [decide_eq_true h, decide_eq_true (this h)]
        · rw [decide_eq_false h, decide_eq_false (by omega)]
      rw [e]
    · obtain ⟨x, hx, rfl⟩ := List.mem_map.mp hch
      rw [spO_get hj]
      exact top _ (mem_spots.mpr (.inl ⟨x, hx, rfl⟩)) hb
end LawK
end
section
set_option linter.all false
namespace LawK
open Lmo Plain
theorem at_ok {α : Type} {xs : List α} {i : Int} (h0 : 0 ≤ i) (h1 : i < (xs.length : Int)) : (at? xs i).isSome = true := by
  obtain ⟨j, rfl⟩ : ∃ j : Nat, i = (j : Int) := ⟨i.toNat, by omega⟩
  rw [at_nat, List.getElem?_eq_getElem (by omega)]
  rfl
theorem at_last {α : Type} {xs : List α} (h : xs ≠ []) : (at? xs (-1)).isSome = true := by
  unfold at? L2.ixN
  have hl := List.length_pos_iff.mpr h
  rw [if_neg (by omega), if_pos (by omega)]
  simp only [Option.bind_some]
  rw [List.getElem?_eq_getElem (by omega)]
  rfl
structure Shape (B : Links_F) : Prop where
  few : B.2.1.length ≤ 64
  rows : B.2.2.2.1.length = B.2.1.length + 1
  cols : ∀ i : Int, 0 ≤ i → i ≤ (B.2.1.length : Int) → (geti B.2.2.2.1 i).length = B.2.1.length + 1
theorem rowOf_len (B : Links_F) (k : Nat) : (rowOf B k).length = B.2.1.length + 1 := by
  cases k <;> simp [rowOf, rng_len]
theorem least_pre {s : Links_F} (h : Shape s) {p : Int} {b : List (Option Int)} (h0 : 0 ≤ p) (h1 : p ≤ (s.2.1.length : Int)) (hb : b.length = s.2.1.length + 1) : Links_least_from_pre s (p, b) := by
  have hf := h.few
  have hr := h.rows
  have hc := h.cols p h0 h1
  have hL : (LIM : Int) = 1000000 := rfl
  unfold Links_least_from_pre
  refine ⟨⟨trivial, trivial, at_ok h0 (by first | omega | (dsimp only; omega))⟩, ⟨⟨⟨trivial, trivial, trivial⟩, ⟨by first | omega | (dsimp only; omega), by first | omega | (dsimp only; omega), by first | omega | (dsimp only; omega), by first | omega | (dsimp only; omega)⟩, by first | omega | (dsimp only; omega)⟩, fun x hx => ⟨⟨⟨trivial, trivial, trivial⟩, ?_⟩, fun _ => trivial⟩⟩, trivial, fun x hx => ?_⟩
  · obtain ⟨q1, q2⟩ := mem_rng.mp hx
    have q1 : p ≤ x := q1
    have q2 : x < p + (((s.2.1.length : Int) - p).toNat : Int) := q2
    exact ⟨⟨⟨trivial, trivial, at_ok (xs := geti s.2.2.2.1 p) (i := x) (by omega) (by omega)⟩, trivial, trivial⟩, fun _ => ⟨⟨trivial, ⟨trivial, trivial, trivial⟩, at_ok (xs := b) (i := x + 1) (by omega) (by omega)⟩, trivial, trivial⟩⟩
  · obtain ⟨y, hy, rfl⟩ := List.mem_map.mp hx
    obtain ⟨hy, hg⟩ := List.mem_filter.mp hy
    obtain ⟨q1, q2⟩ := mem_rng.mp hy
    have q1 : p ≤ y := q1
    have q2 : y < p + (((s.2.1.length : Int) - p).toNat : Int) := q2
    have hg : ((geti (geti s.2.2.2.1 p) y).isSome && (geti b (y + 1)).isSome) = true := hg
    obtain ⟨g1, g2⟩ := Bool.and_eq_true_iff.mp hg
    exact ⟨⟨⟨trivial, trivial, at_ok (xs := geti s.2.2.2.1 p) (i := y) (by omega) (by omega)⟩, g1⟩, ⟨⟨trivial, ⟨trivial, trivial, trivial⟩, at_ok (xs := b) (i := y + 1) (by omega) (by omega)⟩, g2⟩, trivial⟩
end LawK
end
section
set_option linter.all false
namespace LawK
open Lmo Plain
structure Kn (B : Links_F) (d : List (Int × List (Option Int))) : Prop where
  val : Known B d
  nd : (d.map (·.1)).Nodup
  top : ∀ z ∈ d.map (·.1), z ≤ 100
theorem dget_mem {κ β : Type} [DecidableEq κ] {d : List (κ × β)} {z : κ} (h : z ∈ d.map (·.1)) : (dget d z).isSome = true := by
  cases e : dget d z with
  | some _ => rfl
  | none => exact absurd h (dget_none.mp e)
theorem Kn.len {B : Links_F} {d : List (Int × List (Option Int))} (h : Kn B d) : d.length ≤ 101 := by
  have := nodup_le (ys := rng 0 101) h.nd fun z hz => mem_rng.mpr ⟨by
    obtain ⟨r, hr⟩ := Option.isSome_iff_exists.mp (dget_mem hz)
    exact (h.val z r hr).1, by
    have := h.top z hz
    omega⟩
  rw [rng_len, List.length_map] at this
  exact this
theorem Kn.put {B : Links_F} {d : List (Int × List (Option Int))} (h : Kn B d) {k : Nat} (hk : k ≤ 100) : Kn B (dput d (k : Int) (rowOf B k)) := ⟨fun z r hz => by
    rw [dget_dput] at hz
    by_cases e : z = (k : Int)
    · rw [if_pos e] at hz
      cases hz
      subst e
      exact ⟨by omega, by simp⟩
    · rw [if_neg e] at hz
      exact h.val _ _ hz, dput_nodup h.nd, fun z hz => by
    rw [dput_keys] at hz
    by_cases e : (k : Int) ∈ d.map (·.1)
    · rw [if_pos e] at hz
      exact h.top z hz
    · rw [if_neg e] at hz
      rcases List.mem_append.mp hz with q | q
      · exact h.top z q
      · have := List.mem_singleton.mp q
        omega⟩
end LawK
end
section
set_option linter.all false
namespace LawK
open Lmo Plain
theorem shape_withK {B : Links_F} (h : Shape B) (d : List (Int × List (Option Int))) : Shape (withK B d) := ⟨h.few, h.rows, h.cols⟩
theorem row_valK (B : Links_F) : ∀ (k n : Nat), k < n → k ≤ 100 → ∀ d, Kn B d → ∃ d', Links_row_f n (withK B d) (k : Int) = (rowOf B k, withK B d') ∧ Kn B d' := by
  intro k
  induction k with
  | zero =>
    intro n hn hk d hd
    obtain ⟨m, rfl⟩ : ∃ m, n = m + 1 := ⟨n - 1, by omega⟩
    cases e : dget d ((0 : Nat) : Int) with
    | some r =>
      refine ⟨d, ?_, hd⟩
      obtain ⟨_, h2⟩ := hd.val _ _ e
      have h2 : r = rowOf B 0 := h2
      have e' : dget (withK B d).2.2.2.2.1 ((0 : Nat) : Int) = some r := e
      unfold Links_row_f
      simp only [e', Option.isSome_some, Bool.not_true, Bool.false_eq_true, if_false, Out.bind, Out.get, Option.getD_some, h2]
    | none =>
      have e' : dget (withK B d).2.2.2.2.1 ((0 : Nat) : Int) = none := e
      have n2 : ((((withK B d).2.1.length : Int)) + (1 : Int)).toNat = B.2.1.length + 1 := by
        show (((B.2.1.length : Int)) + 1).toNat = _
        omega
      refine ⟨dput d 0 (rowOf B 0), ?_, hd.put (k := 0) hk⟩
      · unfold Links_row_f
        simp only [e', Option.isSome_none, Bool.not_false, if_true, n2]
        rw [if_pos (by simp)]
        simp only [Out.bind, Out.get]
        show ((dget (dput d 0 (rowOf B 0)) 0).getD default, withK B (dput d 0 (rowOf B 0))) = _
        rw [dget_dput, if_pos rfl]
        first | done | rfl
  | succ k ih =>
    intro n hn hk d hd
    obtain ⟨m, rfl⟩ : ∃ m, n = m + 1 := ⟨n - 1, by omega⟩
    cases e : dget d ((k + 1 : Nat) : Int) with
    | some r =>
      refine ⟨d, ?_, hd⟩
      obtain ⟨_, h2⟩ := hd.val _ _ e
      have h2 : r = rowOf B (k + 1) := h2
      have e' : dget (withK B d).2.2.2.2.1 ((k + 1 : Nat) : Int) = some r := e
      unfold Links_row_f
      simp only [e', Option.isSome_some, Bool.not_true, Bool.false_eq_true, if_false, Out.bind, Out.get]
      rw [h2]
      rfl
    | none =>
      obtain ⟨d1, k1, k2⟩ := ih m (by omega) (by omega) d hd
      have e' : dget (withK B d).2.2.2.2.1 ((k + 1 : Nat) : Int) = none := e
      have n2 : ((((withK B d).2.1.length : Int)) + (1 : Int)).toNat = B.2.1.length + 1 := by
        show (((B.2.1.length : Int)) + 1).toNat = _
        omega
      have z1 : (((k + 1 : Nat) : Int)) - (1 : Int) = (k : Int) := by omega
      refine ⟨dput d1 ((k + 1 : Nat) : Int) (rowOf B (k + 1)), ?_, k2.put hk⟩
      · unfold Links_row_f
        simp only [e', Option.isSome_none, Bool.not_false, if_true, n2, z1, k1]
        rw [if_neg (by simp; omega)]
        rw [lcG_const (v := fun x => lf B x (rowOf B k)) fun x _ => row_step B d1 _ _ _ x]
        simp only [Out.bind, Out.get]
        show ((dget (dput d1 ((k + 1 : Nat) : Int) (rowOf B (k + 1))) ((k + 1 : Nat) : Int)).getD default, withK B (dput d1 ((k + 1 : Nat) : Int) (rowOf B (k + 1)))) = _
        rw [dget_dput, if_pos rfl]
        first | done | rfl

end LawK
end
section
set_option linter.all false
namespace LawK
open Lmo Plain
theorem row_pre {B : Links_F} (hB : Shape B) : ∀ (k n : Nat), k < n → k ≤ 100 → ∀ d, Kn B d → Links_row_f_pre n (withK B d) (k : Int) := by
  have hf := hB.few
  have hr := hB.rows
  have hL : (LIM : Int) = 1000000 := rfl
  have n2 : ∀ d, ((((withK B d).2.1.length : Int)) + (1 : Int)).toNat = B.2.1.length + 1 := fun d => by
    show (((B.2.1.length : Int)) + 1).toNat = _
    omega
  have bl : ∀ d, -(LIM : Int) ≤ ((withK B d).2.1.length : Int) + 1 ∧ ((withK B d).2.1.length : Int) + 1 ≤ LIM := fun d => by
    show -(LIM : Int) ≤ (B.2.1.length : Int) + 1 ∧ (B.2.1.length : Int) + 1 ≤ LIM
    omega
  intro k
  induction k with
  | zero =>
    intro n hn hk d hd
    obtain ⟨m, rfl⟩ : ∃ m, n = m + 1 := ⟨n - 1, by omega⟩
    unfold Links_row_f_pre
    refine ⟨⟨⟨trivial, trivial⟩, fun _ => ?h1, fun _ => trivial⟩, fun e he => ?h2⟩
    case h1 =>
      refine ⟨⟨trivial, trivial⟩, ⟨⟨trivial, trivial, trivial⟩, fun _ => ⟨⟨⟨⟨trivial, trivial, trivial⟩, bl d⟩, fun x hx => ?_⟩, trivial⟩, fun h => absurd h (by decide)⟩, fun e10 he => ?_⟩
      · rw [n2] at hx
        obtain ⟨q1, q2⟩ := mem_rng.mp hx
        have hc := hB.cols x (by omega) (by omega)
        exact ⟨⟨trivial, trivial, at_ok (xs := B.2.2.2.1) (by omega) (by omega)⟩, trivial, at_ok (xs := geti B.2.2.2.1 x) (i := (B.2.1.length : Int)) (by omega) (by omega)⟩
      · rw [if_pos (by decide)] at he
        cases he
        have := hd.len
        exact ⟨⟨trivial, trivial, by show d.length < LIM; rw [show LIM = 1000000 from rfl]; omega⟩, trivial⟩
    case h2 =>
      cases q : dget d ((0 : Nat) : Int) with
      | some r =>
        have q' : dget (withK B d).2.2.2.2.1 ((0 : Nat) : Int) = some r := q
        rw [q'] at he
        cases he
        exact ⟨trivial, by rw [q']; rfl⟩
      | none =>
        have q' : dget (withK B d).2.2.2.2.1 ((0 : Nat) : Int) = none := q
        rw [q'] at he
        cases he
        exact ⟨trivial, by show (dget (dput d 0 _) 0).isSome = true; rw [dget_dput, if_pos rfl]; rfl⟩
  | succ k ih =>
    intro n hn hk d hd
    obtain ⟨m, rfl⟩ : ∃ m, n = m + 1 := ⟨n - 1, by omega⟩
    obtain ⟨d1, v1, v2⟩ := row_valK B k m (by omega) (by omega) d hd
    have z1 : (((k + 1 : Nat) : Int)) - (1 : Int) = (k : Int) := by omega
    have dec : decide ((((k + 1 : Nat) : Int)) = 0) = false := decide_eq_false (by omega)
    have lc : ∀ x y, lcG Links_row_c8 (rng 0 (B.2.1.length + 1)) (withK B d1, x, y, (), (), rowOf B k, ()) = ((rng 0 (B.2.1.length + 1)).map fun x => lf B x (rowOf B k), (withK B d1, x, y, (), (), rowOf B k, ())) := fun x y => lcG_const fun z _ => row_step B d1 _ _ _ z
    unfold Links_row_f_pre
    refine ⟨⟨⟨trivial, trivial⟩, fun _ => ?h1, fun _ => trivial⟩, fun e he => ?h2⟩
    case h1 =>
      refine ⟨⟨trivial, trivial⟩, ⟨⟨trivial, trivial, trivial⟩, fun h => ?_, fun _ => ?_⟩, fun e10 he => ?_⟩
      · rw [dec] at h
        cases h
      · simp only [z1, v1, n2]
        refine ⟨⟨⟨trivial, trivial, trivial⟩, ih m (by omega) (by omega) d hd⟩, ⟨⟨⟨trivial, trivial, trivial⟩, bl d⟩, lcP_const fun x hx => ⟨?_, ?_⟩⟩, trivial⟩
        · rw [row_step]
        · obtain ⟨q1, q2⟩ := mem_rng.mp hx
          exact ⟨trivial, fun _ => ⟨⟨trivial, trivial⟩, least_pre (shape_withK hB d1) (by omega) (by show x ≤ (B.2.1.length : Int); omega) (rowOf_len B k)⟩⟩
      · rw [dec, if_neg Bool.false_ne_true] at he
        simp only [z1, v1, n2, lc] at he
        cases he
        have := v2.len
        exact ⟨⟨trivial, trivial, by show d1.length < LIM; rw [show LIM = 1000000 from rfl]; omega⟩, trivial⟩
    case h2 =>
      cases q : dget d ((k + 1 : Nat) : Int) with
      | some r =>
        have q' : dget (withK B d).2.2.2.2.1 ((k + 1 : Nat) : Int) = some r := q
        rw [q'] at he
        cases he
        exact ⟨trivial, by rw [q']; rfl⟩
      | none =>
        have q' : dget (withK B d).2.2.2.2.1 ((k + 1 : Nat) : Int) = none := q
        rw [q'] at he
        simp only [Option.isSome_none, Bool.not_false, if_true, dec, Bool.false_eq_true, if_false, z1, v1, n2, lc, Out.bind] at he
        cases he
        exact ⟨trivial, by show (dget (dput d1 ((k + 1 : Nat) : Int) _) ((k + 1 : Nat) : Int)).isSome = true; rw [dget_dput, if_pos rfl]; rfl⟩
end LawK
end
section
set_option linter.all false
namespace LawK
open Lmo Plain
abbrev keysOf {β : Type} (cs : List (Int × β)) : List Int := cs.map fun x => x.1
abbrev valsOf {β : Type} (cs : List (Int × β)) : List β := cs.map fun x => x.2
theorem dget_of {β : Type} : ∀ {cs : List (Int × β)} {x : Int × β}, (keysOf cs).Nodup → x ∈ cs → dget cs x.1 = some x.2
  | y :: cs, x, h, hx => by
    obtain ⟨h1, h2⟩ := List.nodup_cons.mp h
    unfold dget
    rcases List.mem_cons.mp hx with rfl | hx
    · rw [if_pos rfl]
    · rw [if_neg fun e => h1 (List.mem_map.mpr ⟨x, hx, e.symm⟩)]
      exact dget_of h2 hx
theorem keys_map {β γ : Type} (cs : List (Int × β)) (f : Int × β → γ) : keysOf (cs.map fun x => (x.1, f x)) = keysOf cs := by
  unfold keysOf
  rw [List.map_map]
  rfl
structure Small (cs : Charges) : Prop where
  wait : ∀ x ∈ cs, -(2 ^ 64) < x.2.2.2.1 ∧ x.2.2.2.1 < 2 ^ 64
theorem cost_for_ok {ch : Charge} {m : Option Int} (hw : -(2 ^ 64) < ch.2.2.1 ∧ ch.2.2.1 < 2 ^ 64) (hf : (m.isNone && ch.2.2.2.isNone) = false) : cost_for_pre (ch, m) := by
  unfold cost_for_pre
  refine ⟨trivial, ⟨trivial, trivial, trivial⟩, fun hn => ⟨⟨trivial, ⟨trivial, trivial, trivial⟩, .inl hw⟩, ⟨trivial, ?_⟩, trivial⟩, fun hn => ⟨trivial, ⟨⟨trivial, ?_⟩, trivial, trivial⟩, .inl hw⟩⟩
  · simp only at hn ⊢
    rw [hn] at hf
    cases e : ch.2.2.2 with
    | none => rw [e] at hf; cases hf
    | some _ => rfl
  · simp only at hn ⊢
    cases m with
    | none => cases hn
    | some _ => rfl
theorem at_last' {α : Type} {xs : List α} (h : xs ≠ []) : (at? xs (-(1 : Int))).isSome = true := at_last h
theorem price_pre {tf : Tariff} (ht : TfOk tf) {t : Int} (h0 : 0 ≤ t) : price_at_pre (tf, t) := by
  unfold price_at_pre
  refine ⟨⟨trivial, fun x _ => ⟨⟨trivial, trivial, trivial⟩, fun _ => trivial⟩⟩, trivial, at_last' ?_⟩
  obtain ⟨p, r, rfl⟩ := ht.first
  rw [List.filter_cons, if_pos (by simpa using h0)]
  simp
end LawK
end
section
set_option linter.all false
namespace LawK
open Lmo Plain
theorem forP_inv {α E ρ : Type} {b : E → α → Out E ρ} {P : E → α → Prop} (I : E → Prop) : ∀ {L : List α} {e : E}, (∀ e x, x ∈ L → I e → P e x ∧ ∀ e', b e x = .nx e' → I e') → I e → forP b P L e
  | [], _, _, _ => trivial
  | x :: L, e, h, h0 => by
    obtain ⟨h1, h2⟩ := h e x List.mem_cons_self h0
    exact ⟨h1, fun e' he => forP_inv I (fun e y hy => h e y (List.mem_cons_of_mem _ hy)) (h2 e' he)⟩
theorem link_pre (s : Part) (hw : ∀ ch ∈ s.1, -(2 ^ 64) < ch.2.2.1 ∧ ch.2.2.1 < 2 ^ 64) (ht : s.2.2.1.length = s.2.1.length) {lo hi : Int} (h1 : lo < (s.2.1.length : Int)) (h2 : 0 ≤ hi) : Links_link_pre s (lo, hi) := by
  unfold Links_link_pre
  refine ⟨⟨trivial, trivial, trivial⟩, fun _ => trivial, fun _ => ⟨⟨⟨trivial, trivial, trivial⟩, fun h => ⟨trivial, trivial, at_ok (of_decide_eq_true h) h1⟩, fun _ => trivial⟩, ⟨⟨trivial, ⟨trivial, trivial⟩, trivial⟩, fun h => ⟨trivial, trivial, at_ok h2 (of_decide_eq_true h)⟩, fun _ => trivial⟩, ⟨⟨trivial, trivial, trivial⟩, fun h => ⟨trivial, trivial, ?_⟩, fun _ => trivial⟩, ⟨trivial, ?_⟩, fun _ _ => trivial⟩⟩
  · by_cases q : hi < (s.2.1.length : Int)
    · exact at_ok h2 (by simp only; rw [ht]; exact q)
    · simp [q] at h
  · refine forP_inv (fun e => e.1 = s ∧ ∃ a m t, e = (s, lo, hi, a, m, t, (), (), ())) (fun e ch hch he => ?_) ⟨rfl, _, _, _, rfl⟩
    obtain ⟨_, a, m, t, rfl⟩ := he
    refine ⟨?_, fun e' h' => ?_⟩
    · unfold Links_link_b7_p
      refine ⟨⟨⟨trivial, trivial, trivial⟩, fun _ => ⟨⟨trivial, trivial, trivial⟩, fun h => ⟨trivial, ⟨trivial, ?_⟩, trivial⟩⟩⟩, fun _ => ⟨⟨⟨⟨trivial, trivial, trivial⟩, fun h => ⟨⟨trivial, h⟩, trivial, trivial⟩⟩, fun _ => trivial, fun _ => trivial⟩, ⟨⟨trivial, trivial, trivial⟩, fun _ => ⟨trivial, trivial, trivial⟩⟩, fun _ => trivial, fun h => ⟨⟨⟨trivial, trivial⟩, cost_for_ok (hw ch hch) h⟩, trivial⟩⟩, fun _ => trivial⟩
      cases m with
      | none => cases h
      | some _ => rfl
    · unfold Links_link_b7 at h'
      simp only at h'
      repeat' split at h'
      all_goals first | (cases h'; done) | (cases h'; exact ⟨rfl, _, _, _, rfl⟩)
theorem spots_len {cs : Charges} {tf : Tariff} : (spotsOf cs tf).length ≤ cs.length + tf.length := by
  unfold spotsOf
  have := uniq_len ((cs.map fun (x : Int × Charge) => x.2).map (fun (ch : Charge) => ch.1) ++ ((tf.map fun (x : Int × Int) => x.1) ++ []))
  simp at this ⊢
  exact this
theorem init_pre_ok {cs : Charges} {tf : Tariff} (hc : CsOk cs) (ht : TfOk tf) (hw : Small cs) (hl : cs.length + tf.length < 64) : Links_init_pre Links_0 (cs, tf) := by
  have hL : (LIM : Nat) = 1000000 := rfl
  have hsl := spots_len (cs := cs) (tf := tf)
  have n1 : ((((spotsOf cs tf).length : Int)) - (-(1 : Int))).toNat = (spotsOf cs tf).length + 1 := by omega
  have n2 : ((((spotsOf cs tf).length : Int)) + (1 : Int)).toNat = (spotsOf cs tf).length + 1 := by omega
  have len : ((cs.map fun (x : Int × Charge) => x.2).map (fun (ch : Charge) => ch.1) ++ ((tf.map fun (x : Int × Int) => x.1) ++ [])).length = cs.length + tf.length := by simp
  have pos : ∀ s ∈ spotsOf cs tf, 0 ≤ s := fun s hs => by
    obtain ⟨j, hj, rfl⟩ := List.mem_iff_getElem.mp hs
    have := (spots_ok hc ht).nat j hj
    rw [spO_get hj] at this
    omega
  unfold Links_init_pre
  refine ⟨trivial, ⟨trivial, fun _ _ => trivial⟩, ⟨⟨⟨trivial, ⟨trivial, fun _ _ => trivial⟩, trivial⟩, ?_⟩, ?_⟩, ⟨trivial, fun s hs => ⟨⟨trivial, trivial⟩, price_pre ht (pos s hs)⟩⟩, ⟨trivial, trivial⟩, ⟨⟨⟨trivial, trivial⟩, ?_⟩, ?_⟩, trivial, trivial⟩
  · show ((cs.map fun (x : Int × Charge) => x.2).map (fun (ch : Charge) => ch.1) ++ ((tf.map fun (x : Int × Int) => x.1) ++ [])).length ≤ LIM
    omega
  · show ((cs.map fun (x : Int × Charge) => x.2).map (fun (ch : Charge) => ch.1) ++ ((tf.map fun (x : Int × Int) => x.1) ++ [])).length < 64
    omega
  · show (-(2 ^ 62) ≤ (-(1 : Int)) ∧ (-(1 : Int)) < 2 ^ 62 ∧ -(2 ^ 62) ≤ ((spotsOf cs tf).length : Int) ∧ ((spotsOf cs tf).length : Int) < 2 ^ 62) ∧ (((spotsOf cs tf).length : Int) - (-(1 : Int)) ≤ LIM)
    omega
  · show lcP Links_init_c20 Links_init_c20_p (rng (-(1 : Int)) ((((spotsOf cs tf).length : Int)) - (-(1 : Int))).toNat) (partOf cs tf, cs, tf, (), (cs.map fun (x : Int × Charge) => x.2).map (fun (ch : Charge) => ch.1), (), (), (), ((spotsOf cs tf).length : Int), (), (), ())
    rw [n1]
    refine lcP_const fun lo hlo => ⟨by rw [init_rows], trivial, fun _ => ⟨⟨⟨trivial, trivial, trivial⟩, ?_⟩, ?_⟩⟩
    · show -(LIM : Int) ≤ ((spotsOf cs tf).length : Int) + 1 ∧ ((spotsOf cs tf).length : Int) + 1 ≤ LIM
      omega
    · show lcP Links_init_c18 Links_init_c18_p (rng 0 ((((spotsOf cs tf).length : Int)) + (1 : Int)).toNat) _
      rw [n2]
      obtain ⟨l1, l2⟩ := mem_rng.mp hlo
      refine lcP_const fun hi hhi => ⟨?_, trivial, fun _ => ⟨⟨trivial, trivial⟩, ?_⟩⟩
      · unfold Links_init_c18
        simp only [link_same]
      · obtain ⟨g1, g2⟩ := mem_rng.mp hhi
        refine link_pre (partOf cs tf) (fun ch hch => ?_) (by simp [partOf]) (by show lo < ((spotsOf cs tf).length : Int); omega) g1
        obtain ⟨x, hx, rfl⟩ := List.mem_map.mp hch
        exact hw.wait x hx
theorem shape_ok {cs : Charges} {tf : Tariff} (hl : cs.length + tf.length < 64) : Shape (linksOf cs tf) := by
  have hsl := spots_len (cs := cs) (tf := tf)
  refine ⟨?_, ?_, fun i h0 h1 => ?_⟩
  · show (spotsOf cs tf).length ≤ 64
    omega
  · show (costsOf cs tf).length = (spotsOf cs tf).length + 1
    simp [costsOf, rng_len]
  · show (geti (costsOf cs tf) i).length = (spotsOf cs tf).length + 1
    obtain ⟨j, rfl⟩ : ∃ j : Nat, i = (j : Int) := ⟨i.toNat, by omega⟩
    have h1 : (j : Int) ≤ ((spotsOf cs tf).length : Int) := h1
    unfold costsOf
    rw [geti_rngD (by omega)]
    simp [rng_len]
end LawK
end
section
set_option linter.all false
namespace LawK
open Lmo Plain
section
variable {B : Links_F} (hB : Shape B)
abbrev w0 (B : Links_F) (k : Nat) : Option Int := wOf B k 0
theorem cost_val {k : Nat} (hk : k < 100) {d : List (Int × List (Option Int))} (hd : Kn B d) : ∃ d', Links_cost (withK B d) (k : Int) = (w0 B k, withK B d') ∧ Kn B d' := by
  obtain ⟨d', h1, h2⟩ := row_valK B k 100 hk (by omega) d hd
  refine ⟨d', ?_, h2⟩
  unfold Links_cost Links_cost_o
  simp only [h1, Out.get]
  rfl
include hB in
theorem cost_pre_ok {k : Nat} (hk : k < 100) {d : List (Int × List (Option Int))} (hd : Kn B d) : Links_cost_pre (withK B d) (k : Int) := by
  obtain ⟨d', h1, h2⟩ := row_valK B k 100 hk (by omega) d hd
  unfold Links_cost_pre
  refine ⟨⟨trivial, row_pre hB k 100 hk (by omega) d hd⟩, trivial, ?_⟩
  simp only [h1]
  exact at_ok (Int.le_refl 0) (by rw [rowOf_len]; omega)
include hB in
theorem counts_loop1 {k0 : Nat} (h0 : (w0 B k0).isSome = true) (hk0 : k0 < 100) : ∀ (f k : Nat) (d : List (Int × List (Option Int))), Kn B d → (∀ m, m < k → w0 B m = none) → k ≤ k0 → k0 - k < f →
    ∃ (k1 : Nat) (d' : List (Int × List (Option Int))), whL Links_counts_w4_c Links_counts_w4_g Links_counts_w4 f (withK B d, (k : Int), (), (), ()) = .nx (withK B d', (k1 : Int), (), (), ()) ∧ Kn B d' ∧ k1 ≤ k0 ∧ (w0 B k1).isSome = true ∧ (∀ m, m < k1 → w0 B m = none) ∧
      whP Links_counts_w4_c Links_counts_w4_g Links_counts_w4 Links_counts_w4_q Links_counts_w4_p f (withK B d, (k : Int), (), (), ())
  | 0, k, d, _, _, _, h => absurd h (by omega)
  | f + 1, k, d, hd, hn, hk, hf => by
    obtain ⟨d', h1, h2⟩ := cost_val (k := k) (by omega) hd
    have hp := cost_pre_ok hB (k := k) (by omega) hd
    have hc : Links_counts_w4_c (withK B d, (k : Int), (), (), ()) = (w0 B k).isNone := by
      unfold Links_counts_w4_c
      simp only [h1]
    have hg : Links_counts_w4_g (withK B d, (k : Int), (), (), ()) = (withK B d', (k : Int), (), (), ()) := by
      unfold Links_counts_w4_g
      simp only [h1]
    have hq : Links_counts_w4_q (withK B d, (k : Int), (), (), ()) := ⟨⟨trivial, hp⟩, trivial, trivial⟩
    have hb : Links_counts_w4 (withK B d', (k : Int), (), (), ()) = .nx (withK B d', ((k + 1 : Nat) : Int), (), (), ()) := rfl
    rw [whL_succ, hc, hg]
    cases e : w0 B k with
    | some x =>
      refine ⟨k, d', rfl, h2, hk, by rw [e]; rfl, hn, hq, fun z => ?_⟩
      rw [hc, e] at z
      cases z
    | none =>
      have hne : k ≠ k0 := fun z => by rw [← z, e] at h0; cases h0
      obtain ⟨k1, d2, q1, q2, q3, q4, q5, q6⟩ := counts_loop1 h0 hk0 f (k + 1) d' h2 (fun m hm => by
        by_cases z : m = k
        · rw [z, e]
        · exact hn m (by omega)) (by omega) (by omega)
      refine ⟨k1, d2, ?_, q2, q3, q4, q5, hq, fun _ => ?_⟩
      · simp only [Option.isNone_none, if_true, hb]
        exact q1
      · rw [hg]
        refine ⟨⟨trivial, trivial⟩, fun e' he => ?_⟩
        rw [hb] at he
        cases he
        exact q6
def cntL (B : Links_F) (k0 j : Nat) : List (Int × Int) := (List.range (j + 1)).map fun i => (((k0 + i : Nat) : Int), (w0 B (k0 + i)).getD default)
theorem cntL_succ (k0 j : Nat) : cntL B k0 (j + 1) = cntL B k0 j ++ [(((k0 + j : Nat) : Int) + 1, (w0 B (k0 + (j + 1))).getD default)] := by
  unfold cntL
  rw [List.range_succ (n := j + 1), List.map_append]
  rfl
theorem cntL_last (k0 j : Nat) : geti (cntL B k0 j) (-(1 : Int)) = (((k0 + j : Nat) : Int), (w0 B (k0 + j)).getD default) := by
  have : geti (cntL B k0 j) (-1) = (((k0 + j : Nat) : Int), (w0 B (k0 + j)).getD default) := by
    rw [geti_last]
    unfold cntL
    rw [List.range_succ, List.map_append]
    simp
  exact this
theorem cntL_ne (k0 j : Nat) : cntL B k0 j ≠ [] := by
  unfold cntL
  simp
theorem cntL_len (k0 j : Nat) : (cntL B k0 j).length = j + 1 := by simp [cntL]
/-- from the fewest number to the best one -/
structure Cnt (B : Links_F) (k0 j : Nat) : Prop where
  none : ∀ m, m < k0 → w0 B m = none
  some : ∀ i, i ≤ j → (w0 B (k0 + i)).isSome = true
  dec : ∀ i a b, i < j → w0 B (k0 + i) = Option.some a → w0 B (k0 + (i + 1)) = Option.some b → b < a
  stop : ∀ a b, w0 B (k0 + j) = Option.some a → w0 B (k0 + j + 1) = Option.some b → a ≤ b
  le : k0 + j ≤ B.2.1.length
include hB in
theorem counts_loop2 {k0 : Nat} (hlong : ∀ k a, w0 B k = some a → k ≤ B.2.1.length) (hn : ∀ m, m < k0 → w0 B m = none) : ∀ (f j : Nat) (d : List (Int × List (Option Int))), Kn B d → (∀ i, i ≤ j → (w0 B (k0 + i)).isSome = true) →
    (∀ i a b, i < j → w0 B (k0 + i) = some a → w0 B (k0 + (i + 1)) = some b → b < a) → B.2.1.length - (k0 + j) < f →
    ∃ (j' : Nat) (d' : List (Int × List (Option Int))), (whL Links_counts_w9_c Links_counts_w9_g Links_counts_w9 f (withK B d, ((k0 + j : Nat) : Int), cntL B k0 j, (), ()) = .nx (withK B d', ((k0 + j' : Nat) : Int), cntL B k0 j', (), ()) ∨
      whL Links_counts_w9_c Links_counts_w9_g Links_counts_w9 f (withK B d, ((k0 + j : Nat) : Int), cntL B k0 j, (), ()) = .rt (cntL B k0 j', withK B d')) ∧ Kn B d' ∧ Cnt B k0 j' ∧
      whP Links_counts_w9_c Links_counts_w9_g Links_counts_w9 Links_counts_w9_q Links_counts_w9_p f (withK B d, ((k0 + j : Nat) : Int), cntL B k0 j, (), ())
  | 0, j, d, _, _, _, h => absurd h (by omega)
  | f + 1, j, d, hd, hs, hdec, hf => by
    have hL : (LIM : Nat) = 1000000 := rfl
    have hfew := hB.few
    obtain ⟨a, ha⟩ := Option.isSome_iff_exists.mp (hs j (Nat.le_refl _))
    have hle := hlong _ _ ha
    have hc : Links_counts_w9_c (withK B d, ((k0 + j : Nat) : Int), cntL B k0 j, (), ()) = decide (k0 + j < B.2.1.length) := by
      unfold Links_counts_w9_c
      show decide (((k0 + j : Nat) : Int) < (B.2.1.length : Int)) = _
      by_cases h : k0 + j < B.2.1.length
      · rw [decide_eq_true h, decide_eq_true (by omega)]
      · rw [decide_eq_false h, decide_eq_false (by omega)]
    have hg : Links_counts_w9_g (withK B d, ((k0 + j : Nat) : Int), cntL B k0 j, (), ()) = (withK B d, ((k0 + j : Nat) : Int), cntL B k0 j, (), ()) := rfl
    have hq : Links_counts_w9_q (withK B d, ((k0 + j : Nat) : Int), cntL B k0 j, (), ()) := ⟨trivial, ⟨trivial, trivial⟩, trivial⟩
    rw [whL_succ, hc, hg]
    by_cases h : k0 + j < B.2.1.length
    · have zc : (((k0 + j : Nat) : Int)) + 1 = ((k0 + j + 1 : Nat) : Int) := by omega
      obtain ⟨d', h1, h2⟩ := cost_val (k := k0 + j + 1) (by omega) hd
      have hp := cost_pre_ok hB (k := k0 + j + 1) (by omega) hd
      have hlast := cntL_last (B := B) k0 j
      rw [ha] at hlast
      rw [decide_eq_true h]
      simp only [if_true]
      have hP : (w0 B (k0 + j + 1)).isNone = false → Links_counts_w9_p (withK B d, ((k0 + j : Nat) : Int), cntL B k0 j, (), ()) := fun hne => by
        unfold Links_counts_w9_p
        simp only [zc, h1]
        obtain ⟨y, hy⟩ : ∃ y, w0 B (k0 + j + 1) = some y := by
          cases e : w0 B (k0 + j + 1) with
          | none => rw [e] at hne; cases hne
          | some y => exact ⟨y, rfl⟩
        refine ⟨trivial, ⟨trivial, hp⟩, ⟨⟨trivial, trivial, trivial⟩, fun _ => ⟨⟨trivial, by rw [hy]; rfl⟩, ⟨trivial, at_last (cntL_ne k0 j)⟩, trivial⟩⟩, fun _ => trivial, fun _ => ⟨⟨⟨trivial, trivial, by rw [hy]; rfl⟩, by rw [cntL_len]; omega⟩, trivial⟩⟩
      have hP0 : (w0 B (k0 + j + 1)).isNone = true → Links_counts_w9_p (withK B d, ((k0 + j : Nat) : Int), cntL B k0 j, (), ()) := fun hne => by
        unfold Links_counts_w9_p
        simp only [zc, h1]
        refine ⟨trivial, ⟨trivial, hp⟩, ⟨⟨trivial, trivial, trivial⟩, fun z => ?_⟩, fun _ => trivial, fun z => ?_⟩
        · rw [hne] at z
          cases z
        · rw [hne] at z
          cases z
      cases e : w0 B (k0 + j + 1) with
      | none =>
        have hb : Links_counts_w9 (withK B d, ((k0 + j : Nat) : Int), cntL B k0 j, (), ()) = .rt (cntL B k0 j, withK B d') := by
          unfold Links_counts_w9
          simp only [zc, h1, e, Option.isNone_none, Bool.true_or, if_true]
        rw [hb]
        refine ⟨j, d', .inr rfl, h2, ⟨hn, hs, hdec, fun a b _ z => (by rw [e] at z; cases z), hle⟩, hq, fun _ => ?_⟩
        rw [hg]
        refine ⟨hP0 (by rw [e]; rfl), fun e' he => ?_⟩
        rw [hb] at he
        cases he
      | some b =>
        by_cases hab : a ≤ b
        · have hb : Links_counts_w9 (withK B d, ((k0 + j : Nat) : Int), cntL B k0 j, (), ()) = .rt (cntL B k0 j, withK B d') := by
            unfold Links_counts_w9
            simp only [zc, h1, e, hlast, Option.isNone_some, Bool.false_or, Option.getD_some]
            rw [if_pos (decide_eq_true hab)]
          rw [hb]
          refine ⟨j, d', .inr rfl, h2, ⟨hn, hs, hdec, fun a' b' z z' => (by
            rw [ha] at z
            rw [e] at z'
            cases z
            cases z'
            exact hab), hle⟩, hq, fun _ => ?_⟩
          rw [hg]
          refine ⟨hP (by rw [e]; rfl), fun e' he => ?_⟩
          rw [hb] at he
          cases he
        · have hb : Links_counts_w9 (withK B d, ((k0 + j : Nat) : Int), cntL B k0 j, (), ()) = .nx (withK B d', ((k0 + (j + 1) : Nat) : Int), cntL B k0 (j + 1), (), ()) := by
            unfold Links_counts_w9
            simp only [zc, h1, hlast, e, Option.isNone_some, Bool.false_or, Option.getD_some]
            rw [if_neg (by simpa using hab)]
            rw [cntL_succ]
            simp only [zc]
            have e2 : w0 B (k0 + (j + 1)) = some b := e
            rw [e2]
            rfl
          rw [hb]
          obtain ⟨j', d2, q1, q2, q3, q4⟩ := counts_loop2 hlong hn f (j + 1) d' h2 (fun i hi => by
            by_cases z : i = j + 1
            · rw [z]
              show (w0 B (k0 + j + 1)).isSome = true
              rw [e]
              rfl
            · exact hs i (by omega)) (fun i a' b' hi z z' => by
            by_cases y : i = j
            · subst y
              rw [ha] at z
              have z' : w0 B (k0 + i + 1) = some b' := z'
              rw [e] at z'
              cases z
              cases z'
              omega
            · exact hdec i a' b' (by omega) z z') (by omega)
          refine ⟨j', d2, q1, q2, q3, hq, fun _ => ?_⟩
          rw [hg]
          refine ⟨hP (by rw [e]; rfl), fun e' he => ?_⟩
          rw [hb] at he
          cases he
          exact q4
    · rw [decide_eq_false h]
      simp only [Bool.false_eq_true, if_false]
      refine ⟨j, d, .inl rfl, hd, ⟨hn, hs, hdec, fun a b _ z => ?_, hle⟩, hq, fun z => ?_⟩
      · have := hlong _ _ z
        omega
      · rw [hc, decide_eq_false h] at z
        cases z
include hB in
theorem counts_ok (hlong : ∀ k a, w0 B k = some a → k ≤ B.2.1.length) (hex : ∃ k a, w0 B k = some a) {d : List (Int × List (Option Int))} (hd : Kn B d) :
    ∃ (k0 j : Nat) (d' : List (Int × List (Option Int))), Links_counts (withK B d) () = (cntL B k0 j, withK B d') ∧ Kn B d' ∧ Cnt B k0 j ∧ Links_counts_pre (withK B d) () := by
  have hfew := hB.few
  obtain ⟨ke, ae, hke⟩ := hex
  have := hlong _ _ hke
  obtain ⟨k0, d1, p1, p2, p3, p4, p5, p6⟩ := counts_loop1 hB (k0 := ke) (by rw [hke]; rfl) (by omega) 100 0 d hd (fun m hm => absurd hm (by omega)) (Nat.zero_le _) (by omega)
  obtain ⟨d2, c1, c2⟩ := cost_val (k := k0) (by omega) p2
  have cp := cost_pre_ok hB (k := k0) (by omega) p2
  obtain ⟨j, d3, q1, q2, q3, q4⟩ := counts_loop2 hB hlong p5 100 0 d2 c2 (fun i hi => by
    have : i = 0 := by omega
    subst this
    exact p4) (fun i a b hi => absurd hi (by omega)) (by omega)
  have p1' : whL Links_counts_w4_c Links_counts_w4_g Links_counts_w4 100 (withK B d, (0 : Int), (), (), ()) = .nx (withK B d1, (k0 : Int), (), (), ()) := p1
  have cz : cntL B k0 0 = [((k0 : Int), (w0 B k0).getD default)] := rfl
  have q1' : (whL Links_counts_w9_c Links_counts_w9_g Links_counts_w9 100 (withK B d2, (k0 : Int), [((k0 : Int), (w0 B k0).getD default)], (), ()) = .nx (withK B d3, ((k0 + j : Nat) : Int), cntL B k0 j, (), ()) ∨
      whL Links_counts_w9_c Links_counts_w9_g Links_counts_w9 100 (withK B d2, (k0 : Int), [((k0 : Int), (w0 B k0).getD default)], (), ()) = .rt (cntL B k0 j, withK B d3)) := q1
  refine ⟨k0, j, d3, ?_, q2, q3, ?_⟩
  · unfold Links_counts Links_counts_o
    simp only [p1', Out.bind, c1]
    rcases q1' with z | z
    · simp only [z, Out.get]
    · simp only [z, Out.get]
  · unfold Links_counts_pre
    refine ⟨trivial, p6, fun e6 he => ?_⟩
    rw [p1'] at he
    cases he
    simp only [c1]
    exact ⟨⟨trivial, ⟨trivial, cp⟩, p4⟩, q4, fun _ _ => trivial⟩
end
end LawK
end
section
set_option linter.all false
namespace LawK
open Lmo Plain
theorem rngD_zero : rngD ((0 : Nat) : Int) 0 = [] := rfl
theorem rngD_succ (m : Nat) : rngD ((m + 1 : Nat) : Int) 0 = ((m + 1 : Nat) : Int) :: rngD (m : Int) 0 := by
  unfold rngD
  rw [show (((m + 1 : Nat) : Int) - 0).toNat = m + 1 by omega, show (((m : Nat) : Int) - 0).toNat = m by omega, List.range_succ_eq_map, List.map_cons, List.map_map]
  have e : List.map ((fun i : Nat => ((m + 1 : Nat) : Int) - (i : Nat)) ∘ Nat.succ) (List.range m) = List.map (fun i : Nat => (m : Int) - (i : Nat)) (List.range m) := by
    apply List.map_congr_left
    intro i _
    simp only [Function.comp]
    omega
  rw [e]
  simp
theorem can_go_eq (c b : List (Option Int)) (x : Int) : Links_can_go ((), c, b, x) = ((geti c x).isSome && (geti b (x + 1)).isSome) := rfl
theorem rng_pair (lo : Int) (n : Nat) : (rng lo n).Pairwise (· < ·) := by
  unfold rng
  rw [List.pairwise_map]
  exact List.Pairwise.imp (fun h => by omega) (List.pairwise_lt_range)
section
variable {B : Links_F} (hB : Shape B)
def goL (B : Links_F) (m p : Nat) : List Int := ((rng (p : Int) ((B.2.1.length : Int) - p).toNat).filter fun x => (geti (geti B.2.2.2.1 (p : Int)) x).isSome && (geti (rowOf B m) (x + 1)).isSome)
def dueL (B : Links_F) (m p : Nat) : List Int := (goL B m p).filter fun x => decide (some ((geti (geti B.2.2.2.1 (p : Int)) x).getD default + (geti (rowOf B m) (x + 1)).getD default) = wOf B (m + 1) p)
theorem dueL_mem {m p : Nat} {x : Int} : x ∈ dueL B m p ↔ ∃ (j : Nat) (a b : Int), x = j ∧ p ≤ j ∧ j < B.2.1.length ∧ cOf B p j = some a ∧ wOf B m (j + 1) = some b ∧ wOf B (m + 1) p = some (a + b) := by
  unfold dueL goL
  constructor
  · intro h
    obtain ⟨h1, h2⟩ := List.mem_filter.mp h
    obtain ⟨h1, h3⟩ := List.mem_filter.mp h1
    obtain ⟨q1, q2⟩ := mem_rng.mp h1
    obtain ⟨a1, a2⟩ := Bool.and_eq_true_iff.mp h3
    obtain ⟨a, ha⟩ := Option.isSome_iff_exists.mp a1
    obtain ⟨b, hb⟩ := Option.isSome_iff_exists.mp a2
    simp only [ha, hb, Option.getD_some, decide_eq_true_eq] at h2
    obtain ⟨j, rfl⟩ : ∃ j : Nat, x = (j : Int) := ⟨x.toNat, by omega⟩
    exact ⟨j, a, b, rfl, by omega, by omega, ha, hb, h2.symm⟩
  · rintro ⟨j, a, b, rfl, h1, h2, h3, h4, h5⟩
    have e1 : geti (geti B.2.2.2.1 (p : Int)) (j : Int) = some a := h3
    have e2 : geti (rowOf B m) ((j : Int) + 1) = some b := h4
    refine List.mem_filter.mpr ⟨List.mem_filter.mpr ⟨mem_rng.mpr ⟨by omega, by omega⟩, ?_⟩, ?_⟩
    · rw [e1, e2]
      rfl
    · rw [e1, e2, h5]
      exact decide_eq_true rfl
include hB in
theorem times_loop {z : Int} (T : Tab B.2.1.length (cOf B) (wOf B)) : ∀ (m p : Nat) (d : List (Int × List (Option Int))) (found : List Int), Kn B d → p ≤ B.2.1.length → m < 100 → found.length + m ≤ 200 → (∃ w, wOf B m p = some w) →
    ∃ (P : List Nat) (d' : List (Int × List (Option Int))) (p' : Int), Ear B.2.1.length (cOf B) (wOf B) m p P ∧ forL Links_times_b12 (rngD (m : Int) 0) (withK B d, z, found, (p : Int), (), (), (), (), (), (), ()) = .nx (withK B d', z, found ++ P.map (fun (j : Nat) => geti B.2.1 (j : Int)), p', (), (), (), (), (), (), ()) ∧ Kn B d' ∧
      forP Links_times_b12 Links_times_b12_p (rngD (m : Int) 0) (withK B d, z, found, (p : Int), (), (), (), (), (), (), ())
  | 0, p, d, found, hd, _, _, _, _ => by
    refine ⟨[], d, (p : Int), .nil, ?_, hd, trivial⟩
    simp only [List.map_nil, List.append_nil]
    rfl
  | m + 1, p, d, found, hd, hp, hm, hf, hw => by
    have hL : (LIM : Nat) = 1000000 := rfl
    have hfew := hB.few
    obtain ⟨w, hw⟩ := hw
    obtain ⟨d1, v1, k1⟩ := row_valK B m 100 (by omega) (by omega) d hd
    obtain ⟨d2, v2, k2⟩ := row_valK B (m + 1) 100 (by omega) (by omega) d1 k1
    have zm : (((m + 1 : Nat) : Int)) - (1 : Int) = (m : Int) := by omega
    obtain ⟨j0, a0, b0, g1, g2, g3, g4, g5⟩ := T.got m p w hp hw
    have hmem : (j0 : Int) ∈ dueL B m p := dueL_mem.mpr ⟨j0, a0, b0, rfl, g1, g2, g3, g4, by rw [hw, g5]⟩
    have hpw : (dueL B m p).Pairwise (· < ·) := ((rng_pair _ _).filter _).filter _
    cases hF : dueL B m p with
    | nil => rw [hF] at hmem; cases hmem
    | cons x r =>
      rw [hF] at hpw
      obtain ⟨j, a, b, rfl, e1, e2, e3, e4, e5⟩ := dueL_mem.mp (show x ∈ dueL B m p by rw [hF]; exact List.mem_cons_self)
      have first : ∀ q a' b', p ≤ q → q < j → cOf B p q = some a' → wOf B m (q + 1) = some b' → a' + b' ≠ a + b := fun q a' b' h1 h2 h3 h4 h5 => by
        have hq : (q : Int) ∈ dueL B m p := dueL_mem.mpr ⟨q, a', b', rfl, h1, by omega, h3, h4, by rw [e5, h5]⟩
        rw [hF] at hq
        rcases List.mem_cons.mp hq with h | h
        · omega
        · have := (List.pairwise_cons.mp hpw).1 _ h
          omega
      have fit : (((rng (p : Int) ((B.2.1.length : Int) - p).toNat).filter fun x => Links_can_go ((), geti B.2.2.2.1 (p : Int), rowOf B m, x)).map fun x => x) = goL B m p := by
        rw [show ∀ l : List Int, (l.map fun x => x) = l from fun l => List.map_id' l]
        rfl
      have due : ((goL B m p).filter fun x => decide (some ((geti (geti B.2.2.2.1 (p : Int)) x).getD default + (geti (rowOf B m) (x + 1)).getD default) = geti (rowOf B (m + 1)) (p : Int))) = (j : Int) :: r := hF
      have place : geti (((j : Int) :: r).map fun x => x + 1) (0 : Int) = ((j + 1 : Nat) : Int) := by
        show geti (((j : Int) + 1) :: r.map fun x => x + 1) ((0 : Nat) : Int) = _
        unfold geti
        rw [at_nat]
        rfl
      have zj : ((j + 1 : Nat) : Int) - (1 : Int) = (j : Int) := by omega
      have hb : Links_times_b12 (withK B d, z, found, (p : Int), (), (), (), (), (), (), ()) ((m + 1 : Nat) : Int) = .nx (withK B d2, z, found ++ [geti B.2.1 (j : Int)], ((j + 1 : Nat) : Int), (), (), (), (), (), (), ()) := by
        unfold Links_times_b12
        simp only [zm, v1, v2]
        show Out.nx (withK B d2, z, found ++ [geti B.2.1 ((geti (((((rng (p : Int) ((B.2.1.length : Int) - p).toNat).filter fun x => Links_can_go ((), geti B.2.2.2.1 (p : Int), rowOf B m, x)).map fun x => x).filter fun x => decide (some ((geti (geti B.2.2.2.1 (p : Int)) x).getD default + (geti (rowOf B m) (x + 1)).getD default) = geti (rowOf B (m + 1)) (p : Int))).map fun x => x + 1) (0 : Int)) - 1)],
          (geti (((((rng (p : Int) ((B.2.1.length : Int) - p).toNat).filter fun x => Links_can_go ((), geti B.2.2.2.1 (p : Int), rowOf B m, x)).map fun x => x).filter fun x => decide (some ((geti (geti B.2.2.2.1 (p : Int)) x).getD default + (geti (rowOf B m) (x + 1)).getD default) = geti (rowOf B (m + 1)) (p : Int))).map fun x => x + 1) (0 : Int)), (), (), (), (), (), (), ()) = _
        rw [fit, due, place, zj]
      have e4' : ∃ w, wOf B m (j + 1) = some w := ⟨b, e4⟩
      obtain ⟨P, d3, p', q1, q2, q3, q4⟩ := times_loop T m (j + 1) d2 (found ++ [geti B.2.1 (j : Int)]) k2 (by omega) (by omega) (by simp; omega) e4'
      refine ⟨j :: P, d3, p', .cons e1 e2 e3 e4 e5 first q1, ?_, q3, ?_⟩
      · rw [rngD_succ, forL_nx hb, q2]
        simp
      · rw [rngD_succ]
        refine ⟨?_, fun e' he => ?_⟩
        · have hcols := hB.cols (p : Int) (by omega) (by omega)
          have hrows := hB.rows
          have hl1 := rowOf_len B m
          have hl2 := rowOf_len B (m + 1)
          unfold Links_times_b12_p
          simp only [zm, v1, v2]
          refine ⟨⟨⟨⟨trivial, trivial, trivial⟩, row_pre hB m 100 (by omega) (by omega) d hd⟩, ⟨trivial, trivial, at_ok (xs := B.2.2.2.1) (by omega) (by omega)⟩, ⟨trivial, row_pre hB (m + 1) 100 (by omega) (by omega) d1 k1⟩, trivial, at_ok (xs := rowOf B (m + 1)) (by omega) (by omega)⟩, ⟨⟨⟨trivial, trivial, trivial⟩, ?_⟩, fun x hx => ⟨⟨⟨trivial, trivial, trivial⟩, ?_⟩, fun _ => trivial⟩⟩, ?_⟩
          · show (-(2 ^ 62) ≤ (p : Int) ∧ (p : Int) < 2 ^ 62 ∧ -(2 ^ 62) ≤ (B.2.1.length : Int) ∧ (B.2.1.length : Int) < 2 ^ 62) ∧ (B.2.1.length : Int) - (p : Int) ≤ LIM
            omega
          · have hx : x ∈ rng (p : Int) ((B.2.1.length : Int) - p).toNat := hx
            obtain ⟨x1, x2⟩ := mem_rng.mp hx
            have a1 := at_ok (xs := geti B.2.2.2.1 (p : Int)) (i := x) (by omega) (by omega)
            have a2 := at_ok (xs := rowOf B m) (i := x + 1) (by omega) (by omega)
            exact ⟨⟨⟨trivial, trivial, a1⟩, trivial, trivial⟩, fun _ => ⟨⟨trivial, ⟨trivial, trivial, trivial⟩, a2⟩, trivial, trivial⟩⟩
          · show ((True ∧ (∀ x9 ∈ (((rng (p : Int) ((B.2.1.length : Int) - p).toNat).filter fun x => Links_can_go ((), geti B.2.2.2.1 (p : Int), rowOf B m, x)).map fun x => x), ((((True ∧ True ∧ ((at? (geti B.2.2.2.1 (p : Int)) x9).isSome = true)) ∧ ((geti (geti B.2.2.2.1 (p : Int)) x9).isSome = true)) ∧ ((True ∧ (True ∧ True ∧ True) ∧ ((at? (rowOf B m) (x9 + (1 : Int))).isSome = true)) ∧ ((geti (rowOf B m) (x9 + (1 : Int))).isSome = true)) ∧ True) ∧ True ∧ True) ∧ (decide ((some (((geti (geti B.2.2.2.1 (p : Int)) x9).getD default) + ((geti (rowOf B m) (x9 + (1 : Int))).getD default))) = geti (rowOf B (m + 1)) (p : Int)) = true → (True ∧ True ∧ True)))) ∧
              True ∧ ((at? ((((((rng (p : Int) ((B.2.1.length : Int) - p).toNat).filter fun x => Links_can_go ((), geti B.2.2.2.1 (p : Int), rowOf B m, x)).map fun x => x).filter fun x => decide (some ((geti (geti B.2.2.2.1 (p : Int)) x).getD default + (geti (rowOf B m) (x + 1)).getD default) = geti (rowOf B (m + 1)) (p : Int))).map fun x => x + 1)) (0 : Int)).isSome = true)) ∧
              (((True ∧ (True ∧ True ∧ True) ∧ ((at? B.2.1 ((geti ((((((rng (p : Int) ((B.2.1.length : Int) - p).toNat).filter fun x => Links_can_go ((), geti B.2.2.2.1 (p : Int), rowOf B m, x)).map fun x => x).filter fun x => decide (some ((geti (geti B.2.2.2.1 (p : Int)) x).getD default + (geti (rowOf B m) (x + 1)).getD default) = geti (rowOf B (m + 1)) (p : Int))).map fun x => x + 1)) (0 : Int)) - (1 : Int))).isSome = true)) ∧ (found.length < LIM)) ∧ True)
            rw [fit, due, place, zj]
            refine ⟨⟨⟨trivial, fun x hx => ?_⟩, trivial, at_ok (Int.le_refl 0) (by simp)⟩, ⟨⟨trivial, ⟨trivial, trivial, trivial⟩, at_ok (by omega) (by omega)⟩, by omega⟩, trivial⟩
            obtain ⟨h1, h3⟩ := List.mem_filter.mp hx
            obtain ⟨x1, x2⟩ := mem_rng.mp h1
            obtain ⟨a1, a2⟩ := Bool.and_eq_true_iff.mp h3
            exact ⟨⟨⟨⟨⟨trivial, trivial, at_ok (by omega) (by omega)⟩, a1⟩, ⟨⟨trivial, ⟨trivial, trivial, trivial⟩, at_ok (by omega) (by omega)⟩, a2⟩, trivial⟩, trivial, trivial⟩, fun _ => ⟨trivial, trivial, trivial⟩⟩
        · rw [hb] at he
          cases he
          exact q4
include hB in
theorem times_ok (T : Tab B.2.1.length (cOf B) (wOf B)) {k : Nat} (hk : k < 100) {d : List (Int × List (Option Int))} (hd : Kn B d) {w : Int} (hw : w0 B k = some w) :
    ∃ (P : List Nat) (d' : List (Int × List (Option Int))), Ear B.2.1.length (cOf B) (wOf B) k 0 P ∧ Links_times (withK B d) (k : Int) = (P.map (fun (j : Nat) => geti B.2.1 (j : Int)), withK B d') ∧ Kn B d' ∧ Links_times_pre (withK B d) (k : Int) := by
  have hL : (LIM : Nat) = 1000000 := rfl
  obtain ⟨P, d', p', q1, q2, q3, q4⟩ := times_loop hB (z := (k : Int)) T k 0 d [] hd (Nat.zero_le _) hk (by simp; omega) ⟨w, hw⟩
  have q2' : forL Links_times_b12 (rngD (k : Int) (0 : Int)) (withK B d, (k : Int), ([] : List Int), (0 : Int), (), (), (), (), (), (), ()) = .nx (withK B d', (k : Int), P.map (fun (j : Nat) => geti B.2.1 (j : Int)), p', (), (), (), (), (), (), ()) := q2
  refine ⟨P, d', q1, ?_, q3, ?_⟩
  · unfold Links_times Links_times_o
    simp only [q2', Out.bind, Out.get]
  · unfold Links_times_pre
    refine ⟨⟨trivial, trivial⟩, ⟨⟨⟨trivial, trivial, trivial⟩, rfl, ?_⟩, q4⟩, fun _ _ => trivial⟩
    show (-(2 ^ 62) ≤ (k : Int) ∧ (k : Int) < 2 ^ 62 ∧ -(2 ^ 62) ≤ (0 : Int) ∧ (0 : Int) < 2 ^ 62) ∧ (k : Int) - (0 : Int) ≤ LIM
    omega
end
end LawK
end
section
set_option linter.all false
namespace LawK
open Lmo Plain
theorem cnt_first {B : Links_F} {k0 j : Nat} (C : Cnt B k0 j) {w : Int} (hw : w0 B (k0 + j) = Option.some w) : ∀ m, m < k0 + j → ∀ w', w0 B m = some w' → w < w' := by
  have key : ∀ i, i ≤ j → ∀ a, w0 B (k0 + (j - i)) = some a → w ≤ a ∧ (0 < i → w < a) := by
    intro i
    induction i with
    | zero =>
      intro _ a ha
      rw [Nat.sub_zero, hw] at ha
      cases ha
      exact ⟨Int.le_refl _, fun h => absurd h (by omega)⟩
    | succ i ih =>
      intro hi a ha
      obtain ⟨b, hb⟩ := Option.isSome_iff_exists.mp (C.some (j - i) (by omega))
      have e : j - i = j - (i + 1) + 1 := by omega
      have hd := C.dec (j - (i + 1)) a b (by omega) ha (by rw [← e]; exact hb)
      have := (ih (by omega) b hb).1
      exact ⟨by omega, fun _ => by omega⟩
  intro m hm w' hw'
  by_cases h : m < k0
  · rw [C.none m h] at hw'
    cases hw'
  · have e : m = k0 + (j - (k0 + j - m)) := by omega
    rw [e] at hw'
    exact (key (k0 + j - m) (by omega) w' hw').2 (by omega)
/-- charges and a tariff, as the law draws them -/
structure Ok (cs : Charges) (tf : Tariff) : Prop where
  lots : CsOk cs
  tari : TfOk tf
  small : Small cs
  few : cs.length + tf.length < 64
section
variable {cs : Charges} {tf : Tariff} (X : Ok cs tf)
include X
theorem Ok.chs : ∀ ch ∈ valsOf cs, ChOk ch := fun ch hch => by
  obtain ⟨x, hx, rfl⟩ := List.mem_map.mp hch
  exact X.lots.ok x hx
theorem Ok.beg : ∀ ch ∈ valsOf cs, 0 ≤ ch.1 := fun ch hch => by
  obtain ⟨x, hx, rfl⟩ := List.mem_map.mp hch
  exact X.lots.begin_ x hx
theorem Ok.price (t : Int) : 0 ≤ prO tf t := price_nonneg X.tari.pos t
theorem Ok.spots : Spots (spotsOf cs tf).length (spO cs tf) (prO tf) (valsOf cs) := spots_ok X.lots X.tari
theorem Ok.top : Top (spotsOf cs tf).length (spO cs tf) (prO tf) (valsOf cs) := fun t h0 => by
  have zero : (0 : Int) ∈ spotsOf cs tf := by
    obtain ⟨p, r, rfl⟩ := X.tari.first
    exact mem_spots.mpr (.inr ⟨(0, p), List.mem_cons_self, rfl⟩)
  have ne : ((spotsOf cs tf).filter fun s => decide (s ≤ t)) ≠ [] := List.ne_nil_of_mem (List.mem_filter.mpr ⟨zero, decide_eq_true h0⟩)
  obtain ⟨m1, m2⟩ := List.mem_filter.mp (lmax_mem ne)
  have top : ∀ s ∈ spotsOf cs tf, s ≤ t → s ≤ lmax ((spotsOf cs tf).filter fun s => decide (s ≤ t)) := fun s hs hst => le_lmax (List.mem_filter.mpr ⟨hs, decide_eq_true hst⟩)
  have m2 : lmax ((spotsOf cs tf).filter fun s => decide (s ≤ t)) ≤ t := of_decide_eq_true m2
  generalize lmax ((spotsOf cs tf).filter fun s => decide (s ≤ t)) = u at m1 m2 top
  obtain ⟨j, hj, rfl⟩ := List.mem_iff_getElem.mp m1
  refine ⟨j, hj, by rw [spO_get hj]; exact m2, ?_, fun ch hch hb => ?_, fun q hq hqt => ?_⟩
  · unfold prO
    rw [spO_get hj, price_eq, price_eq]
    have e : (tf.filter fun x => decide (x.1 ≤ (spotsOf cs tf)[j])) = tf.filter fun x => decide (x.1 ≤ t) := by
      apply List.filter_congr
      intro x hx
      have := top x.1 (mem_spots.mpr (.inr ⟨x, hx, rfl⟩))
      by_cases h : x.1 ≤ t
      · rw [decide_eq_true h, decide_eq_true (this h)]
      · rw [decide_eq_false h, decide_eq_false (by omega)]
    rw [e]
  · obtain ⟨x, hx, rfl⟩ := List.mem_map.mp hch
    rw [spO_get hj]
    exact top _ (mem_spots.mpr (.inl ⟨x, hx, rfl⟩)) hb
  · rw [spO_get hj]
    rw [spO_get hq] at hqt ⊢
    exact top _ (List.getElem_mem hq) hqt
theorem Ok.tab0 : Tab (spotsOf cs tf).length (cOf (linksOf cs tf)) (wOf (linksOf cs tf)) := tab_of (linksOf cs tf) fun i j hi hj => by
  have hi : i ≤ (spotsOf cs tf).length := hi
  rw [cOf_link cs tf hi (by omega)]
  unfold lkc
  rw [if_pos hj]
theorem Ok.tab : Tab (spotsOf cs tf).length (lkc (spotsOf cs tf).length (spO cs tf) (prO tf) (valsOf cs)) (wOf (linksOf cs tf)) := by
  have T := X.tab0
  refine ⟨fun i hi => ?_, fun k i j a b h1 h2 h3 h4 => ?_, fun k i w hi h => ?_⟩
  · rw [T.zero i hi]
    exact cOf_link cs tf hi (Nat.le_refl _)
  · exact T.low k i j a b h1 h2 (by rw [cOf_link cs tf (by omega) (by omega)]; exact h3) h4
  · obtain ⟨j, a, b, h1, h2, h3, h4, h5⟩ := T.got k i w hi h
    rw [cOf_link cs tf (by omega) (by omega)] at h3
    exact ⟨j, a, b, h1, h2, h3, h4, h5⟩
theorem Ok.long (k : Nat) (a : Int) (h : w0 (linksOf cs tf) k = some a) : k ≤ (spotsOf cs tf).length := by
  obtain ⟨P, p1, p2⟩ := X.tab.path k (Nat.zero_le _) h
  have := PC.len (Nat.zero_le _) p2
  omega
theorem Ok.exists : ∃ k a, w0 (linksOf cs tf) k = some a := by
  have hin : ∀ ch ∈ valsOf cs, ∃ j, j < (spotsOf cs tf).length ∧ spO cs tf j = ch.1 := fun ch hch => by
    obtain ⟨x, hx, rfl⟩ := List.mem_map.mp hch
    obtain ⟨j, hj, e⟩ := List.mem_iff_getElem.mp (mem_spots (cs := cs) (tf := tf) (t := x.2.1) |>.mpr (.inl ⟨x, hx, rfl⟩))
    exact ⟨j, hj, by rw [spO_get hj]; exact e⟩
  obtain ⟨v, hv⟩ := X.spots.serves X.chs hin
  have hq : Seq (spotsOf cs tf).length 0 (List.range (spotsOf cs tf).length) := seq_of List.pairwise_lt_range fun j hj => ⟨Nat.zero_le _, List.mem_range.mp hj⟩
  obtain ⟨w, h1, h2⟩ := X.tab.below (Nat.zero_le _) ((path0 X.spots.mono X.spots.nat X.beg).mpr ⟨hq, hv⟩)
  exact ⟨_, w, h1⟩
theorem Ok.kn0 : Kn (linksOf cs tf) [] := ⟨fun z r h => (by cases h), List.nodup_nil, fun z h => (by cases h)⟩
theorem Ok.shape : Shape (linksOf cs tf) := shape_ok X.few
/-- the numbers of digests -/
theorem Ok.counts : ∃ k0 j d', Links_counts (linksOf cs tf) () = (cntL (linksOf cs tf) k0 j, withK (linksOf cs tf) d') ∧ Kn (linksOf cs tf) d' ∧ Cnt (linksOf cs tf) k0 j ∧ Links_counts_pre (linksOf cs tf) () := by
  have h := counts_ok (B := linksOf cs tf) X.shape X.long X.exists (d := []) X.kn0
  exact h
end
/-- as a tariff is drawn -/
structure TfD (tf : Tariff) : Prop where
  ok : TfOk tf
  few : tf.length ≤ 12
/-- as charges are drawn -/
structure CsD (cs : Charges) : Prop where
  ok : CsOk cs
  small : Small cs
  nd : (keysOf cs).Nodup
theorem loop_ok {α E ρ : Type} {b : E → α → Out E ρ} {P : E → α → Prop} (I : E → Prop) : ∀ {L : List α} {e : E}, (∀ e x, x ∈ L → I e → P e x ∧ ∃ e', b e x = .nx e' ∧ I e') → I e → forP b P L e ∧ ∃ e', forL b L e = .nx e' ∧ I e'
  | [], e, _, h0 => ⟨trivial, e, rfl, h0⟩
  | x :: L, e, h, h0 => by
    obtain ⟨h1, e1, h2, h3⟩ := h e x List.mem_cons_self h0
    obtain ⟨k1, e2, k2, k3⟩ := loop_ok I (L := L) (fun e y hy => h e y (List.mem_cons_of_mem _ hy)) h3
    refine ⟨⟨h1, fun e' he => ?_⟩, e2, ?_, k3⟩
    · rw [h2] at he
      cases he
      exact k1
    · rw [forL_nx h2]
      exact k2
theorem rng_cons (lo : Int) (m : Nat) : rng lo (m + 1) = lo :: rng (lo + 1) m := by
  unfold rng
  rw [List.range_succ_eq_map, List.map_cons, List.map_map]
  have e : List.map ((fun i : Nat => lo + (i : Nat)) ∘ Nat.succ) (List.range m) = List.map (fun i : Nat => lo + 1 + (i : Nat)) (List.range m) := by
    apply List.map_congr_left
    intro i _
    simp only [Function.comp]
    omega
  rw [e]
  simp
theorem rng_snoc (lo : Int) (m : Nat) : rng lo (m + 1) = rng lo m ++ [lo + m] := by
  unfold rng
  rw [List.range_succ, List.map_append]
  rfl
/-- a source of draws -/
structure Src (s : List Int) : Prop where
  is : ∃ a b, s = [a, b] ∧ 0 ≤ a ∧ 0 ≤ b ∧ b < 4294967296
theorem bits64 {x : Int} (h1 : -(2 ^ 64) < x) (h2 : x < 2 ^ 64) : PySem.Builtin.Int.intBits x ≤ 64 := PySem.intBits_le_64 h1 h2
theorem geti_mem {α : Type} [Inhabited α] {xs : List α} {i : Int} (h0 : 0 ≤ i) (h1 : i < (xs.length : Int)) : geti xs i ∈ xs := by
  obtain ⟨j, rfl⟩ : ∃ j : Nat, i = (j : Int) := ⟨i.toNat, by omega⟩
  unfold geti
  rw [at_nat, List.getElem?_eq_getElem (by omega)]
  exact List.getElem_mem _
end LawK
end
section
set_option linter.all false
namespace LawK
open Lmo Plain
section
variable {cs : Charges} {tf : Tariff} (X : Ok cs tf)
include X
/-- what the program tells -/
theorem Ok.leastC : least_cost_pre (cs, tf) ∧ IsMin (prO tf) (valsOf cs) (least_cost (cs, tf)) := by
  obtain ⟨k0, j, d, h1, h2, C, h4⟩ := X.counts
  obtain ⟨w, hw⟩ := Option.isSome_iff_exists.mp (C.some j (Nat.le_refl _))
  have hlast := cntL_last (B := linksOf cs tf) k0 j
  rw [hw] at hlast
  have hi : (Links_init Links_0 (cs, tf)).2 = linksOf cs tf := by rw [init_eq]
  have hip := init_pre_ok X.lots X.tari X.small X.few
  have e1 : least_cost (cs, tf) = w := by
    unfold least_cost least_cost_o
    simp only [Out.get, hi, h1, hlast, Option.getD_some]
  have first := cnt_first C hw
  have next : ∀ w', w0 (linksOf cs tf) (k0 + j + 1) = some w' → w ≤ w' := fun w' h => C.stop w w' hw h
  refine ⟨?_, ?_⟩
  · unfold least_cost_pre
    simp only [hi, h1]
    exact ⟨⟨⟨⟨trivial, trivial⟩, hip⟩, h4⟩, trivial, at_last (cntL_ne k0 j)⟩
  · rw [e1]
    exact X.spots.min X.price X.chs X.beg X.tab hw next fun m hm w' h => Int.le_of_lt (first m hm w' h)
end
end LawK
end
section
set_option linter.all false
namespace Plain
open Lmo
section
variable {price : Int → Int} {S S2 : List Charge}
/-- the times of both -/
abbrev unionT (T1 T2 : List Int) : List Int := uniq (T1 ++ T2)
theorem unionT_mem {T1 T2 : List Int} (t : Int) : t ∈ unionT T1 T2 ↔ t ∈ T1 ∨ t ∈ T2 := by rw [mem_uniq, List.mem_append]
theorem unionT_times {T1 T2 : List Int} (h1 : Times T1) (h2 : Times T2) : Times (unionT T1 T2) := ⟨uniq_lt _, fun t ht => by
  rcases (unionT_mem t).mp ht with h | h
  · exact h1.2 t h
  · exact h2.2 t h⟩
theorem IsMin.sub (hp : ∀ t, 0 ≤ price t) (h1 : ∀ ch ∈ S, ChOk ch) (h2 : ∀ ch ∈ S2, ChOk ch) {w a b : Int} (hw : IsMin price (S ++ S2) w) (ha : IsMin price S a) (hb : IsMin price S2 b) : w ≤ a + b := by
  obtain ⟨T1, t1, e1⟩ := ha.got
  obtain ⟨T2, t2, e2⟩ := hb.got
  obtain ⟨v, k1, k2⟩ := tot_union hp h1 h2 (uniq_lt _) (unionT_mem (T1 := T1) (T2 := T2)) e1 e2
  have := hw.low _ _ (unionT_times t1 t2) k1
  omega
theorem IsMin.singles (hp : ∀ t, 0 ≤ price t) : ∀ {S : List Charge}, (∀ ch ∈ S, ChOk ch) → ∀ {f : Charge → Int}, (∀ ch ∈ S, IsMin price [ch] (f ch)) → ∃ T v, Times T ∧ tot price S T = some v ∧ v ≤ (S.map f).sum
  | [], _, f, _ => ⟨[], 0, ⟨List.Pairwise.nil, fun t h => nomatch h⟩, rfl, by simp⟩
  | ch :: S, hS, f, hf => by
    obtain ⟨T2, v2, t2, e2, l2⟩ := IsMin.singles hp (S := S) (fun c hc => hS c (List.mem_cons_of_mem _ hc)) (fun c hc => hf c (List.mem_cons_of_mem _ hc))
    obtain ⟨T1, t1, e1⟩ := (hf ch List.mem_cons_self).got
    obtain ⟨v, k1, k2⟩ := tot_union (S := [ch]) hp (fun c hc => by rw [List.mem_singleton.mp hc]; exact hS ch List.mem_cons_self) (fun c hc => hS c (List.mem_cons_of_mem _ hc)) (uniq_lt _) (unionT_mem (T1 := T1) (T2 := T2)) e1 e2
    refine ⟨_, v, unionT_times t1 t2, k1, ?_⟩
    rw [List.map_cons, List.sum_cons]
    omega
end
end Plain
namespace LawK
open Lmo Plain
theorem dmerge_app {β : Type} : ∀ {l d : List (Int × β)}, (keysOf (d ++ l)).Nodup → dmerge d l = d ++ l
  | [], d, _ => by simp [dmerge]
  | (k, x) :: l, d, h => by
    have hk : k ∉ d.map (·.1) := fun z => by
      rw [keysOf, List.map_append, List.nodup_append] at h
      exact h.2.2 k z k (List.mem_map.mpr ⟨(k, x), List.mem_cons_self, rfl⟩) rfl
    show dmerge (dput d k x) l = _
    rw [dput_new hk, dmerge_app (by simpa using h)]
    simp
theorem dmerge_keys {β : Type} : ∀ {l d : List (Int × β)} {k : Int}, k ∈ keysOf (dmerge d l) ↔ k ∈ keysOf d ∨ k ∈ keysOf l
  | [], d, k => by simp [dmerge, keysOf]
  | (q, x) :: l, d, k => by
    show k ∈ keysOf (dmerge (dput d q x) l) ↔ _
    rw [dmerge_keys]
    have : k ∈ keysOf (dput d q x) ↔ k ∈ keysOf d ∨ k = q := by
      unfold keysOf
      rw [dput_keys]
      by_cases e : q ∈ d.map (·.1)
      · rw [if_pos e]
        constructor
        · exact .inl
        · rintro (h | rfl)
          · exact h
          · exact e
      · rw [if_neg e, List.mem_append, List.mem_singleton]
    rw [this]
    simp only [keysOf, List.map_cons, List.mem_cons]
    constructor
    · rintro ((h | h) | h)
      · exact .inl h
      · exact .inr (.inl h)
      · exact .inr (.inr h)
    · rintro (h | h | h)
      · exact .inl (.inl h)
      · exact .inl (.inr h)
      · exact .inr h
theorem le_lt {L : List Int} (h : L.Pairwise (· ≤ ·)) (hn : L.Nodup) : Incr L := by
  induction L with
  | nil => exact List.Pairwise.nil
  | cons x L ih =>
    obtain ⟨h1, h2⟩ := List.pairwise_cons.mp h
    obtain ⟨n1, n2⟩ := List.nodup_cons.mp hn
    refine List.pairwise_cons.mpr ⟨fun y hy => ?_, ih h2 n2⟩
    have := h1 y hy
    have : x ≠ y := fun z => n1 (by rw [z]; exact hy)
    omega
theorem srt_incr {L : List Int} (hn : L.Nodup) : Incr (srt L) := le_lt (srt_pair L) ((srt_perm L).nodup_iff.mpr hn)
theorem CsOk.app {a b : Charges} (ha : CsOk a) (hb : CsOk b) : CsOk (a ++ b) := ⟨fun x hx => by
  rcases List.mem_append.mp hx with h | h
  · exact ha.ok x h
  · exact hb.ok x h, fun x hx => by
  rcases List.mem_append.mp hx with h | h
  · exact ha.begin_ x h
  · exact hb.begin_ x h⟩
theorem Small.app {a b : Charges} (ha : Small a) (hb : Small b) : Small (a ++ b) := ⟨fun x hx => by
  rcases List.mem_append.mp hx with h | h
  · exact ha.wait x h
  · exact hb.wait x h⟩
theorem CsD.sub {a b : Charges} (hb : CsD b) (h : a.Sublist b) : CsD a := ⟨⟨fun x hx => hb.ok.ok x (h.subset hx), fun x hx => hb.ok.begin_ x (h.subset hx)⟩, ⟨fun x hx => hb.small.wait x (h.subset hx)⟩, (h.map _).nodup hb.nd⟩
theorem CsD.at {cs : Charges} {tf : Tariff} (a : CsD cs) (b : TfD tf) (h : cs.length ≤ 50) : Ok cs tf := ⟨a.ok, b.ok, a.small, by have := b.few; omega⟩
end LawK
end
section
set_option linter.all false
namespace LawK
open Lmo Plain
theorem without_eq (cs : Charges) (k : Int) : without (cs, k) = cs.filter fun x => !decide (x.1 = k) := by
  unfold without without_o
  simp only [Out.get]
  exact List.map_id' _
theorem perm_without : ∀ {cs : Charges} {x : Int × Charge}, (keysOf cs).Nodup → x ∈ cs → cs.Perm (x :: cs.filter fun y => !decide (y.1 = x.1))
  | y :: cs, x, h, hx => by
    obtain ⟨h1, h2⟩ := List.nodup_cons.mp h
    rcases List.mem_cons.mp hx with rfl | hx
    · rw [List.filter_cons, if_neg (by simp)]
      have e : (cs.filter fun y => !decide (y.1 = x.1)) = cs := List.filter_eq_self.mpr fun z hz => by
        have : z.1 ≠ x.1 := fun q => h1 (List.mem_map.mpr ⟨z, hz, q⟩)
        simp [this]
      rw [e]
    · have hne : y.1 ≠ x.1 := fun q => h1 (List.mem_map.mpr ⟨x, hx, q.symm⟩)
      rw [List.filter_cons, if_pos (by simp [hne])]
      exact ((perm_without h2 hx).cons y).trans (List.Perm.swap x y _)
theorem alone_eq {cs : Charges} {tf : Tariff} {x : Int × Charge} (h : (keysOf cs).Nodup) (hx : x ∈ cs) : cost_alone (cs, tf, x.1) = least_cost ([x], tf) := by
  unfold cost_alone cost_alone_o
  simp only [Out.get, dget_of h hx, Option.getD_some]
  rfl
section
variable {cs : Charges} {tf : Tariff} (a : CsD cs) (b : TfD tf) (hl : cs.length ≤ 50)
include a b hl
theorem alone_ok {x : Int × Charge} (hx : x ∈ cs) : cost_alone_pre (cs, tf, x.1) ∧ IsMin (prO tf) [x.2] (cost_alone (cs, tf, x.1)) := by
  have X := (CsD.sub (a := [x]) a (List.singleton_sublist.mpr hx)).at b (by simp)
  obtain ⟨p, q⟩ := X.leastC
  constructor
  · unfold cost_alone_pre
    simp only [dget_of a.nd hx, Option.getD_some]
    exact ⟨⟨⟨trivial, ⟨trivial, trivial, rfl⟩, trivial⟩, trivial⟩, p⟩
  · rw [alone_eq a.nd hx]
    exact q
theorem all_le_alone : least_cost (cs, tf) ≤ ((keysOf cs).map fun k => cost_alone (cs, tf, k)).sum := by
  have X := a.at b hl
  obtain ⟨_, q⟩ := X.leastC
  have h : ∀ ch ∈ valsOf cs, IsMin (prO tf) [ch] ((fun ch => least_cost ([(0, ch)], tf)) ch) := fun ch hch => by
    obtain ⟨x, hx, rfl⟩ := List.mem_map.mp hch
    have Y : Ok [((0 : Int), x.2)] tf := ⟨⟨fun y hy => by rw [List.mem_singleton.mp hy]; exact a.ok.ok x hx, fun y hy => by rw [List.mem_singleton.mp hy]; exact a.ok.begin_ x hx⟩, b.ok, ⟨fun y hy => by rw [List.mem_singleton.mp hy]; exact a.small.wait x hx⟩, by have := b.few; simp; omega⟩
    exact Y.leastC.2
  obtain ⟨T, v, h1, h2, h3⟩ := IsMin.singles X.price X.chs h
  have := q.low _ _ h1 h2
  have e : ((valsOf cs).map fun ch => least_cost ([(0, ch)], tf)) = (keysOf cs).map fun k => cost_alone (cs, tf, k) := by
    unfold valsOf keysOf
    rw [List.map_map, List.map_map]
    apply List.map_congr_left
    intro x hx
    simp only [Function.comp]
    exact (h x.2 (List.mem_map.mpr ⟨x, hx, rfl⟩)).uniq (alone_ok a b hl hx).2
  rw [e] at h3
  omega
theorem less_ok {x : Int × Charge} (hx : x ∈ cs) : without_pre (cs, x.1) ∧ least_cost_pre (without (cs, x.1), tf) ∧ 0 ≤ least_cost (cs, tf) - least_cost (without (cs, x.1), tf) ∧ least_cost (cs, tf) - least_cost (without (cs, x.1), tf) ≤ cost_alone (cs, tf, x.1) := by
  have X := a.at b hl
  have hs : (cs.filter fun y => !decide (y.1 = x.1)).Sublist cs := List.filter_sublist
  have W := a.sub hs
  have Y := W.at b (by have := hs.length_le; omega)
  obtain ⟨p, q⟩ := Y.leastC
  obtain ⟨_, qa⟩ := X.leastC
  have al := (alone_ok a b hl hx).2
  rw [without_eq]
  have pm : (valsOf cs).Perm (valsOf (cs.filter fun y => !decide (y.1 = x.1)) ++ [x.2]) := by
    have := (perm_without a.nd hx).map (fun y => y.2)
    refine this.trans ?_
    rw [List.map_cons]
    exact (List.perm_append_comm (l₁ := [x.2]))
  have ok1 : ∀ ch ∈ [x.2], ChOk ch := fun ch h => by
    rw [List.mem_singleton.mp h]
    exact a.ok.ok x hx
  have m1 := q.mono ok1 (qa.perm pm)
  have m2 := (qa.perm pm).sub X.price Y.chs ok1 q al
  refine ⟨?_, p, by omega, by omega⟩
  unfold without_pre
  exact ⟨trivial, fun y _ => ⟨⟨trivial, trivial, trivial⟩, fun _ => ⟨trivial, trivial⟩⟩, W.nd⟩
end
end LawK
end
section
set_option linter.all false
namespace LawK
open Lmo Plain
/-! ### the draws (of the laws k83 to k87) -/
theorem draw_ok {s : List Int} (h : Src s) {z : Int} (h0 : 0 < z) (h1 : z < 1073741824) : law_draw_pre s z ∧ ∃ v s', law_draw s z = (v, s') ∧ 0 ≤ v ∧ v < z ∧ Src s' := by
  obtain ⟨a, b, rfl, ha, hb0, hb1⟩ := h.is
  have g0 : geti [a, b] (0 : Int) = a := rfl
  have g1 : geti [a, b] (1 : Int) = b := rfl
  have s0 : ∀ x, seti [a, b] (0 : Int) x = [x, b] := fun x => rfl
  have s1 : ∀ x, seti [a, b] (1 : Int) x = [a, x] := fun x => rfl
  have ok0 : (at? [a, b] (0 : Int)).isSome = true := rfl
  have ok1 : (at? [a, b] (1 : Int)).isSome = true := rfl
  have hm := Int.emod_nonneg (b * 48271 + 12345) (show (2147483647 : Int) ≠ 0 by decide)
  have hm2 := Int.emod_lt_of_pos (b * 48271 + 12345) (show (0 : Int) < 2147483647 by decide)
  have gl : ∀ x, geti [a, x] (1 : Int) = x := fun _ => rfl
  constructor
  · unfold law_draw_pre
    refine ⟨⟨⟨trivial, ok0⟩, trivial, trivial⟩, fun h => ⟨⟨⟨⟨trivial, ok0⟩, trivial⟩, trivial, h0⟩, ⟨⟨⟨trivial, ok0⟩, trivial, h0, h1⟩, trivial, rfl⟩, trivial⟩, fun h => ⟨⟨⟨⟨⟨⟨⟨trivial, ok1⟩, trivial⟩, trivial, ?_⟩, trivial, trivial⟩, trivial, by decide⟩, trivial, rfl⟩, ⟨⟨⟨⟨⟨⟨⟨trivial, ?_⟩, trivial⟩, trivial, ?_⟩, trivial, by decide⟩, trivial, ?_⟩, trivial, by decide⟩, trivial, by decide, by decide⟩, trivial, h0⟩⟩
    · rw [g1]
      show (PySem.Builtin.Int.intBits b : Int) + (PySem.Builtin.Int.intBits (48271 : Int) : Int) ≤ 134217728
      have e1 := bits64 (x := b) (by omega) (by omega)
      have e2 := bits64 (x := 48271) (by decide) (by decide)
      omega
    · rw [g1, s1]
      rfl
    · rw [g1, s1, gl]
      refine ⟨by decide, ?_⟩
      have e1 := bits64 (x := (b * 48271 + 12345) % 2147483647) (by omega) (by omega)
      omega
    · rw [g1, s1, gl]
      refine ⟨by decide, ?_⟩
      have k1 := Int.emod_nonneg (((b * 48271 + 12345) % 2147483647) ^ ((3 : Int)).toNat) (show (2147483629 : Int) ≠ 0 by decide)
      have k2 := Int.emod_lt_of_pos (((b * 48271 + 12345) % 2147483647) ^ ((3 : Int)).toNat) (show (0 : Int) < 2147483629 by decide)
      have e1 := bits64 (x := ((b * 48271 + 12345) % 2147483647) ^ ((3 : Int)).toNat % 2147483629) (by omega) (by omega)
      omega
  · unfold law_draw law_draw_o
    rw [g0, g1]
    by_cases h : z ≤ a
    · rw [if_pos (decide_eq_true h)]
      simp only [Out.get, s0]
      exact ⟨_, _, rfl, Int.emod_nonneg _ (by omega), Int.emod_lt_of_pos _ h0, ⟨_, _, rfl, Int.ediv_nonneg ha (by omega), hb0, hb1⟩⟩
    · rw [if_neg (by simpa using h)]
      simp only [Out.get, s1]
      exact ⟨_, _, rfl, Int.emod_nonneg _ (by omega), Int.emod_lt_of_pos _ h0, ⟨_, _, rfl, ha, hm, by omega⟩⟩
theorem choose_ok {s : List Int} (h : Src s) {L : List (Option Int)} (h0 : 0 < L.length) (h1 : L.length < 1000) : law_choose_pre s L ∧ ∃ v s', law_choose s L = (v, s') ∧ v ∈ L ∧ Src s' := by
  obtain ⟨p, v, s', e, a, b, c⟩ := draw_ok h (z := (L.length : Int)) (by omega) (by omega)
  constructor
  · unfold law_choose_pre
    simp only [e]
    exact ⟨trivial, ⟨⟨trivial, trivial⟩, p⟩, at_ok a b⟩
  · unfold law_choose law_choose_o
    simp only [e, Out.get]
    exact ⟨_, _, rfl, geti_mem a b, c⟩
theorem erase_perm {α : Type} : ∀ {l : List α} {k : Nat} {x : α}, l[k]? = some x → l.Perm (x :: l.eraseIdx k)
  | [], k, x, h => by simp at h
  | a :: l, 0, x, h => by
    simp at h
    subst h
    exact List.Perm.refl _
  | a :: l, k + 1, x, h => by
    have ih := erase_perm (l := l) (k := k) (x := x) (by simpa using h)
    show (a :: l).Perm (x :: a :: l.eraseIdx k)
    exact (ih.cons a).trans (List.Perm.swap x a _)
theorem popi_nat {α : Type} {xs : List α} {j : Nat} (h : j < xs.length) : popi xs (j : Int) = xs.eraseIdx j := by
  unfold popi L2.ixN
  rw [if_pos (by omega), if_pos (by omega)]
  simp
theorem shuffle_loop {z : List Int} : ∀ (n : Nat) (left found s : List Int), left.length = n → found.length + n < 1000 → Src s →
    ∃ (L' s' : List Int), whL law_shuffled_w2_c law_shuffled_w2_g law_shuffled_w2 (n + 1) (s, z, left, found, ()) = .nx (s', z, [], L', ()) ∧ Src s' ∧ L'.Perm (found ++ left) ∧ whP law_shuffled_w2_c law_shuffled_w2_g law_shuffled_w2 law_shuffled_w2_q law_shuffled_w2_p (n + 1) (s, z, left, found, ())
  | 0, left, found, s, hl, hf, hs => by
    have e : left = [] := List.length_eq_zero_iff.mp hl
    subst e
    refine ⟨found, s, ?_, hs, by simp, ⟨trivial, trivial, trivial⟩, fun h => ?_⟩
    · rw [whL_succ]
      rfl
    · unfold law_shuffled_w2_c at h
      simp at h
  | n + 1, left, found, s, hl, hf, hs => by
    have hL : (LIM : Nat) = 1000000 := rfl
    have hc : law_shuffled_w2_c (s, z, left, found, ()) = true := by
      unfold law_shuffled_w2_c
      have : left ≠ [] := fun e => by rw [e] at hl; simp at hl
      simp [this]
    obtain ⟨p1, v, s1, e1, a1, b1, c1⟩ := draw_ok hs (z := (left.length : Int)) (by omega) (by omega)
    obtain ⟨j, rfl⟩ : ∃ j : Nat, v = (j : Int) := ⟨v.toNat, by omega⟩
    have hj : j < left.length := by omega
    have hx : left[j]? = some left[j] := List.getElem?_eq_getElem hj
    have hb : law_shuffled_w2 (s, z, left, found, ()) = .nx (s1, z, left.eraseIdx j, found ++ [left[j]], ()) := by
      unfold law_shuffled_w2
      simp only [e1]
      rw [popi_nat hj]
      unfold geti
      rw [at_nat, hx]
      rfl
    obtain ⟨L', s', q1, q2, q3, q4⟩ := shuffle_loop (z := z) n (left.eraseIdx j) (found ++ [left[j]]) s1 (by rw [List.length_eraseIdx_of_lt hj]; omega) (by simp; omega) c1
    refine ⟨L', s', ?_, q2, ?_, ⟨trivial, trivial, trivial⟩, fun _ => ⟨?_, fun e' he => ?_⟩⟩
    · rw [whL_succ, hc, if_pos rfl, show law_shuffled_w2_g (s, z, left, found, ()) = (s, z, left, found, ()) from rfl, hb]
      exact q1
    · refine q3.trans ?_
      rw [List.append_assoc]
      exact List.Perm.append_left _ (erase_perm hx).symm
    · show law_shuffled_w2_p (s, z, left, found, ())
      unfold law_shuffled_w2_p
      simp only [e1]
      refine ⟨⟨⟨⟨⟨trivial, trivial⟩, p1⟩, at_ok (by omega) (by omega)⟩, by omega⟩, trivial⟩
    · have he : law_shuffled_w2 (s, z, left, found, ()) = .nx e' := he
      rw [hb] at he
      cases he
      exact q4
theorem shuffled_ok {s : List Int} (h : Src s) {L : List Int} (hl : L.length < 900) : law_shuffled_pre s L ∧ ∃ L' s', law_shuffled s L = (L', s') ∧ L'.Perm L ∧ Src s' := by
  obtain ⟨L', s', q1, q2, q3, q4⟩ := shuffle_loop (z := L) L.length L [] s rfl (by simp; omega) h
  constructor
  · unfold law_shuffled_pre
    exact ⟨⟨⟨trivial, trivial⟩, trivial⟩, q4, fun _ _ => trivial⟩
  · refine ⟨L', s', ?_, by simpa using q3, q2⟩
    unfold law_shuffled law_shuffled_o
    simp only [q1, Out.bind, Out.get]
theorem cut_take {α : Type} (xs : List α) (m : Nat) : cut xs none (some (m : Int)) = xs.take m := by
  unfold cut
  rw [HT.sIx_none, HT.sIx_nat]
  simp only [List.drop_zero, Nat.sub_zero]
  by_cases h : m ≤ xs.length
  · rw [Nat.min_eq_left h]
  · rw [Nat.min_eq_right (by omega), List.take_of_length_le (Nat.le_refl _), List.take_of_length_le (by omega)]
theorem cut_drop {α : Type} (xs : List α) (m : Nat) : cut xs (some (m : Int)) none = xs.drop m := by
  unfold cut
  rw [HT.sIx_none, HT.sIx_nat]
  by_cases h : m ≤ xs.length
  · rw [Nat.min_eq_left h, List.take_of_length_le (by simp)]
  · rw [Nat.min_eq_right (by omega), List.drop_of_length_le (Nat.le_refl _), List.drop_of_length_le (by omega)]
    simp
/-- a drawn charge up to a moment -/
structure ChD (last : Int) (ch : Charge) : Prop where
  b0 : 0 ≤ ch.1
  be : ch.1 ≤ ch.2.1
  el : ch.2.1 ≤ last
  w0 : 0 ≤ ch.2.2.1
  w1 : ch.2.2.1 ≤ 5
  fine : ∀ x, ch.2.2.2 = some x → 0 ≤ x ∧ x ≤ 25
theorem charge_ok {s : List Int} (h : Src s) {last : Int} (h0 : 0 ≤ last) (h1 : last ≤ 1000) : law_charge_pre s last ∧ ∃ ch s', law_charge s last = (ch, s') ∧ ChD last ch ∧ Src s' := by
  obtain ⟨p1, v1, s1, e1, a1, b1, c1⟩ := draw_ok h (z := last + 1) (by omega) (by omega)
  obtain ⟨p2, v2, s2, e2, a2, b2, c2⟩ := draw_ok c1 (z := (last - v1) + 1) (by omega) (by omega)
  obtain ⟨p3, v3, s3, e3, m3, c3⟩ := choose_ok c2 (L := [(some (0 : Int)), (some (1 : Int)), (some (2 : Int)), (some (4 : Int)), (some (9 : Int)), (some (9 : Int)), (some (25 : Int)), (none : (Option Int))]) (by decide) (by decide)
  obtain ⟨p4, v4, s4, e4, m4, c4⟩ := choose_ok c3 (L := [(some (0 : Int)), (some (0 : Int)), (some (1 : Int)), (some (1 : Int)), (some (2 : Int)), (some (5 : Int))]) (by decide) (by decide)
  have hfine : ∀ x, v3 = some x → 0 ≤ x ∧ x ≤ 25 := by
    intro x hx
    subst hx
    simp only [List.mem_cons, List.not_mem_nil, or_false] at m3
    rcases m3 with e | e | e | e | e | e | e | e <;> cases e <;> decide
  have hwait : v4.isSome = true ∧ 0 ≤ v4.getD default ∧ v4.getD default ≤ 5 := by
    simp only [List.mem_cons, List.not_mem_nil, or_false] at m4
    rcases m4 with rfl | rfl | rfl | rfl | rfl | rfl <;> exact ⟨rfl, by decide, by decide⟩
  constructor
  · unfold law_charge_pre
    simp only [e1, e2, e3, e4]
    exact ⟨⟨⟨trivial, trivial, trivial⟩, p1⟩, ⟨trivial, ⟨⟨⟨trivial, trivial, trivial⟩, trivial, trivial⟩, p2⟩, trivial⟩, ⟨⟨trivial, trivial, trivial, trivial, trivial, trivial, trivial, trivial⟩, p3⟩, trivial, trivial, ⟨⟨⟨trivial, trivial, trivial, trivial, trivial, trivial⟩, p4⟩, hwait.1⟩, trivial⟩
  · refine ⟨(v1, v1 + v2, v4.getD default, v3), s4, ?_, ⟨?_, ?_, ?_, hwait.2.1, hwait.2.2, hfine⟩, c4⟩
    · unfold law_charge law_charge_o
      simp only [e1, e2, e3, e4, Out.get]
    · exact a1
    · show v1 ≤ v1 + v2
      omega
    · show v1 + v2 ≤ last
      omega
theorem charges_ok {s : List Int} (h : Src s) {most : Nat} {last : Int} (hm : most ≤ 8) (h0 : 0 ≤ last) (h1 : last ≤ 1000) : law_charges_pre s ((most : Int), last) ∧ ∃ cs s', law_charges s ((most : Int), last) = (cs, s') ∧ (keysOf cs).Nodup ∧ (∀ x ∈ cs, ChD last x.2) ∧ cs.length ≤ most ∧ (∀ k ∈ keysOf cs, 1 ≤ k ∧ k ≤ 1000000) ∧ Src s' := by
  have hL : (LIM : Nat) = 1000000 := rfl
  obtain ⟨p1, v1, s1, e1, a1, b1, c1⟩ := draw_ok h (z := (most : Int) + 1) (by omega) (by omega)
  obtain ⟨m, rfl⟩ : ∃ m : Nat, v1 = (m : Int) := ⟨v1.toNat, by omega⟩
  obtain ⟨p2, L, s2, e2, perm, c2⟩ := shuffled_ok c1 (L := [(1 : Int), (2 : Int), (3 : Int), (5 : Int), (8 : Int), (13 : Int), (21 : Int), (1000000 : Int)]) (by decide)
  have nd : L.Nodup := perm.nodup_iff.mpr (by decide)
  have rngk : ∀ k ∈ L, 1 ≤ k ∧ k ≤ 1000000 := fun k hk => by
    have := perm.mem_iff.mp hk
    simp only [List.mem_cons, List.not_mem_nil, or_false] at this
    omega
  have step : ∀ (ks : List Int) (s : List Int) (cs : Charges), Src s → (keysOf cs ++ ks).Nodup → (∀ x ∈ cs, ChD last x.2) → cs.length + ks.length ≤ 8 →
      ∃ cs' s', forL law_charges_b7 ks (s, (most : Int), last, cs, (m : Int), (), ()) = .nx (s', (most : Int), last, cs', (m : Int), (), ()) ∧ Src s' ∧ keysOf cs' = keysOf cs ++ ks ∧ (∀ x ∈ cs', ChD last x.2) ∧ forP law_charges_b7 law_charges_b7_p ks (s, (most : Int), last, cs, (m : Int), (), ()) := by
    intro ks
    induction ks with
    | nil =>
      intro s cs h1 h2 h3 h4
      exact ⟨cs, s, rfl, h1, by simp, h3, trivial⟩
    | cons k ks ih =>
      intro s cs hs hn hc hl
      obtain ⟨q1, ch, s', q2, q3, q4⟩ := charge_ok hs h0 h1
      have hk : k ∉ cs.map (·.1) := fun z => (List.nodup_append.mp hn).2.2 k z k List.mem_cons_self rfl
      have hb : law_charges_b7 (s, (most : Int), last, cs, (m : Int), (), ()) k = .nx (s', (most : Int), last, cs ++ [(k, ch)], (m : Int), (), ()) := by
        unfold law_charges_b7
        simp only [q2]
        rw [dput_new hk]
      have hp : law_charges_b7_p (s, (most : Int), last, cs, (m : Int), (), ()) k := by
        unfold law_charges_b7_p
        simp only [q2]
        refine ⟨⟨⟨trivial, q1⟩, trivial, ?_⟩, trivial⟩
        simp only [List.length_cons] at hl
        omega
      have hk2 : keysOf (cs ++ [(k, ch)]) = keysOf cs ++ [k] := by simp [keysOf]
      obtain ⟨cs', s2', r1, r2, r3, r4, r5⟩ := ih s' (cs ++ [(k, ch)]) q4 (by rw [hk2, List.append_assoc]; exact hn) (fun x hx => by
        rcases List.mem_append.mp hx with hx | hx
        · exact hc x hx
        · rw [List.mem_singleton.mp hx]
          exact q3) (by simp at hl ⊢; omega)
      refine ⟨cs', s2', ?_, r2, ?_, r4, ?_⟩
      · rw [forL_nx hb]
        exact r1
      · rw [r3, hk2, List.append_assoc]
        rfl
      · refine ⟨hp, fun e' he => ?_⟩
        rw [hb] at he
        cases he
        exact r5
  obtain ⟨cs, s', r1, r2, r3, r4, r5⟩ := step (L.take m) s2 [] c2 (by simpa [keysOf] using (List.take_sublist m L).nodup nd) (fun x hx => (nomatch hx)) (by
    have := perm.length_eq
    simp at this ⊢
    omega)
  have r3 : keysOf cs = L.take m := by simpa [keysOf] using r3
  have hlen : cs.length ≤ most := by
    have e := congrArg List.length r3
    rw [List.length_map, List.length_take] at e
    omega
  constructor
  · unfold law_charges_pre
    simp only [e1, e2]
    rw [cut_take]
    exact ⟨⟨trivial, ⟨trivial, trivial, trivial⟩, p1⟩, ⟨⟨⟨⟨trivial, trivial, trivial, trivial, trivial, trivial, trivial, trivial⟩, p2⟩, trivial, trivial⟩, r5⟩, fun _ _ => trivial⟩
  · refine ⟨cs, s', ?_, by rw [r3]; exact (List.take_sublist m L).nodup nd, r4, hlen, fun k hk => rngk k (by rw [r3] at hk; exact List.mem_of_mem_take hk), r2⟩
    unfold law_charges law_charges_o
    simp only [e1, e2]
    rw [cut_take]
    simp only [r1, Out.bind, Out.get]
theorem ChD.ok {last : Int} {ch : Charge} (h : ChD last ch) : ChOk ch := ⟨h.be, h.w0, fun x hx => (h.fine x hx).1⟩
theorem csd_of {last : Int} {cs : Charges} (h : ∀ x ∈ cs, ChD last x.2) (nd : (keysOf cs).Nodup) : CsD cs := ⟨⟨fun x hx => (h x hx).ok, fun x hx => (h x hx).b0⟩, ⟨fun x hx => by
  have := (h x hx).w0
  have := (h x hx).w1
  omega⟩, nd⟩
theorem tariff_ok {s : List Int} (h : Src s) {last : Nat} (h1 : last ≤ 1000) : law_tariff_pre s (last : Int) ∧ ∃ tf s', law_tariff s (last : Int) = (tf, s') ∧ TfD tf ∧ (∀ x ∈ tf, x.1 ≤ last ∧ x.2 ≤ 30) ∧ Src s' := by
  have hL : (LIM : Nat) = 1000000 := rfl
  have val : ∀ v : Option Int, v ∈ [(some (0 : Int)), (some (1 : Int)), (some (2 : Int)), (some (5 : Int)), (some (9 : Int)), (some (30 : Int))] → v.isSome = true ∧ 0 ≤ v.getD default ∧ v.getD default ≤ 30 := by
    intro v hv
    simp only [List.mem_cons, List.not_mem_nil, or_false] at hv
    rcases hv with rfl | rfl | rfl | rfl | rfl | rfl <;> exact ⟨rfl, by decide, by decide⟩
  obtain ⟨p1, v1, s1, e1, m1, c1⟩ := choose_ok h (L := [(some (0 : Int)), (some (1 : Int)), (some (2 : Int)), (some (5 : Int)), (some (9 : Int)), (some (30 : Int))]) (by decide) (by decide)
  obtain ⟨w1, w2, w3⟩ := val v1 m1
  have step : ∀ (n : Nat) (lo : Int) (s : List Int) (tf : Tariff), Src s → TfOk tf → tf.length ≤ 12 → (∀ x ∈ tf, x.1 < lo ∧ x.2 ≤ 30) →
      ∃ tf' s', forL law_tariff_b7 (rng lo n) (s, (last : Int), tf, (), ()) = .nx (s', (last : Int), tf', (), ()) ∧ Src s' ∧ TfOk tf' ∧ tf'.length ≤ 12 ∧ (∀ x ∈ tf', x.1 < lo + n ∧ x.2 ≤ 30) ∧ forP law_tariff_b7 law_tariff_b7_p (rng lo n) (s, (last : Int), tf, (), ()) := by
    intro n
    induction n with
    | zero =>
      intro lo s tf h1 h2 h3 h4
      exact ⟨tf, s, rfl, h1, h2, h3, fun x hx => by have := h4 x hx; omega, trivial⟩
    | succ n ih =>
      intro lo s tf hs ht hl hx
      rw [rng_cons]
      obtain ⟨pa, va, sa, ea, aa, ba, ca⟩ := draw_ok hs (z := 5) (by decide) (by decide)
      cases hc : (decide (va = (0 : Int)) && decide ((tf.length : Int) < (12 : Int))) with
      | false =>
        have hb : law_tariff_b7 (s, (last : Int), tf, (), ()) lo = .nx (sa, (last : Int), tf, (), ()) := by
          unfold law_tariff_b7
          simp only [ea, hc, Bool.false_eq_true, if_false]
        obtain ⟨tf', s', r1, r2, r3, r4, r5, r6⟩ := ih (lo + 1) sa tf ca ht hl (fun x h => by have := hx x h; omega)
        refine ⟨tf', s', by rw [forL_nx hb]; exact r1, r2, r3, r4, fun x h => by have := r5 x h; omega, ?_, fun e' he => ?_⟩
        · unfold law_tariff_b7_p
          simp only [ea, hc]
          exact ⟨⟨⟨⟨trivial, pa⟩, trivial, trivial⟩, fun _ => ⟨⟨trivial, trivial⟩, trivial, trivial⟩⟩, fun z => (nomatch z), fun _ => trivial⟩
        · rw [hb] at he
          cases he
          exact r6
      | true =>
        have hlt : tf.length < 12 := by
          have := of_decide_eq_true (Bool.and_eq_true_iff.mp hc).2
          omega
        obtain ⟨pb, vb, sb, eb, mb, cb⟩ := choose_ok ca (L := [(some (0 : Int)), (some (1 : Int)), (some (2 : Int)), (some (5 : Int)), (some (9 : Int)), (some (30 : Int))]) (by decide) (by decide)
        obtain ⟨q1, q2, q3⟩ := val vb mb
        have hb : law_tariff_b7 (s, (last : Int), tf, (), ()) lo = .nx (sb, (last : Int), tf ++ [(lo, vb.getD default)], (), ()) := by
          unfold law_tariff_b7
          simp only [ea, hc, if_true, eb]
        obtain ⟨tf', s', r1, r2, r3, r4, r5, r6⟩ := ih (lo + 1) sb (tf ++ [(lo, vb.getD default)]) cb ⟨by
            obtain ⟨p, r, rfl⟩ := ht.first
            exact ⟨p, r ++ [(lo, vb.getD default)], rfl⟩, by
            rw [List.map_append, List.pairwise_append]
            refine ⟨ht.incr, List.pairwise_singleton _ _, fun a ha b hb => ?_⟩
            obtain ⟨y, hy, rfl⟩ := List.mem_map.mp ha
            simp only [List.map_cons, List.map_nil, List.mem_singleton] at hb
            subst hb
            exact (hx y hy).1, fun y hy => by
            rcases List.mem_append.mp hy with hy | hy
            · exact ht.pos y hy
            · rw [List.mem_singleton.mp hy]
              exact q2⟩ (by simp; omega) (fun y hy => by
            rcases List.mem_append.mp hy with hy | hy
            · have := hx y hy
              omega
            · rw [List.mem_singleton.mp hy]
              exact ⟨by show lo < lo + 1; omega, q3⟩)
        refine ⟨tf', s', by rw [forL_nx hb]; exact r1, r2, r3, r4, fun x h => by have := r5 x h; omega, ?_, fun e' he => ?_⟩
        · unfold law_tariff_b7_p
          simp only [ea, hc, eb]
          exact ⟨⟨⟨⟨trivial, pa⟩, trivial, trivial⟩, fun _ => ⟨⟨trivial, trivial⟩, trivial, trivial⟩⟩, fun _ => ⟨⟨⟨trivial, ⟨⟨trivial, trivial, trivial, trivial, trivial, trivial⟩, pb⟩, q1⟩, by omega⟩, trivial⟩, fun z => (nomatch z)⟩
        · rw [hb] at he
          cases he
          exact r6
  obtain ⟨tf, s', r1, r2, r3, r4, r5, r6⟩ := step last 1 s1 [((0 : Int), v1.getD default)] c1 ⟨⟨_, _, rfl⟩, List.pairwise_singleton _ _, fun x hx => by rw [List.mem_singleton.mp hx]; exact w2⟩ (by simp) (fun x hx => by
    rw [List.mem_singleton.mp hx]
    exact ⟨by show (0 : Int) < 1; decide, w3⟩)
  have zn : ((last : Int) + (1 : Int) - (1 : Int)).toNat = last := by omega
  constructor
  · unfold law_tariff_pre
    simp only [e1, zn]
    refine ⟨⟨trivial, ⟨⟨trivial, trivial, trivial, trivial, trivial, trivial⟩, p1⟩, w1⟩, ⟨⟨⟨trivial, trivial, trivial, trivial⟩, ?_, ?_⟩, r6⟩, fun _ _ => trivial⟩
    · omega
    · omega
  · refine ⟨tf, s', ?_, ⟨r3, r4⟩, fun x hx => ?_, r2⟩
    · unfold law_tariff law_tariff_o
      simp only [e1, zn, r1, Out.bind, Out.get]
    · have := r5 x hx
      omega
open PySem.Builtin.Int (intBits) in
theorem stream_ok {z : List Int} (hz : ∀ x ∈ z, intBits x ≤ 1048576) {start : Int} (h0 : 0 ≤ start) (h1 : start ≤ 100) : law_stream_pre (z, start) ∧ Src (law_stream (z, start)) := by
  have key := loop_ok (b := law_stream_b4) (P := law_stream_b4_p) (fun e => ∃ x, e = (z, start, x, (), (), ()) ∧ 0 ≤ x ∧ x < 4294967296) (L := z) (e := (z, start, 127 + start, (), (), ())) (fun e x hx he => by
    obtain ⟨y, rfl, y0, y1⟩ := he
    have k1 := Int.emod_nonneg ((y * 40127 + x) ^ ((3 : Int)).toNat) (show (2147483629 : Int) ≠ 0 by decide)
    have k2 := Int.emod_lt_of_pos ((y * 40127 + x) ^ ((3 : Int)).toNat) (show (0 : Int) < 2147483629 by decide)
    refine ⟨?_, _, rfl, _, rfl, by omega, by omega⟩
    unfold law_stream_b4_p
    have b1 := bits64 (x := y) (by omega) (by omega)
    have b2 : intBits (40127 : Int) ≤ 64 := bits64 (by decide) (by decide)
    have b3 := PySem.intBits_mul_le b1 b2
    have b4 := PySem.intBits_add_le b3 (hz x hx)
    refine ⟨⟨⟨⟨⟨⟨trivial, trivial, ?_⟩, ⟨trivial, trivial⟩, trivial⟩, trivial, ?_⟩, trivial, by decide⟩, trivial, trivial⟩, trivial⟩
    · show (intBits y : Int) + (intBits (40127 : Int) : Int) ≤ 134217728
      omega
    · refine ⟨by decide, ?_⟩
      show (intBits (y * 40127 + x) : Int) * 3 ≤ 134217728
      omega) ⟨_, rfl, by omega, by omega⟩
  obtain ⟨k1, e', k2, y, rfl, y0, y1⟩ := key
  have hat : decide (start < (z.length : Int)) = true → (at? z start).isSome = true := fun h => at_ok h0 (of_decide_eq_true h)
  have hten : CPowX (10 : Int) (18 : Int) := by
    refine ⟨by decide, ?_⟩
    have b2 : intBits (10 : Int) ≤ 64 := bits64 (by decide) (by decide)
    omega
  constructor
  · unfold law_stream_pre
    refine ⟨⟨trivial, trivial, trivial⟩, ⟨trivial, k1⟩, fun e5 he => ?_⟩
    rw [k2] at he
    cases he
    refine ⟨trivial, ⟨⟨⟨trivial, ⟨trivial, trivial⟩, trivial⟩, fun h => ⟨⟨trivial, trivial, hat h⟩, ⟨trivial, trivial, hten⟩, trivial⟩⟩, fun h => ⟨⟨⟨trivial, trivial, hat (Bool.and_eq_true_iff.mp h).1⟩, ⟨trivial, trivial, hten⟩, trivial⟩, trivial⟩, fun _ => trivial⟩, fun _ _ => ⟨trivial, trivial⟩⟩
  · unfold law_stream law_stream_o
    simp only [k2, Out.bind]
    cases h : (decide (start < (z.length : Int)) && decide (((10 : Int) ^ ((18 : Int)).toNat) ≤ (geti z start))) with
    | true =>
      simp only [if_true, Out.get]
      have h2 := of_decide_eq_true (Bool.and_eq_true_iff.mp h).2
      exact ⟨_, _, rfl, by omega, y0, y1⟩
    | false =>
      simp only [Bool.false_eq_true, if_false, Out.get]
      exact ⟨_, _, rfl, Int.le_refl _, y0, y1⟩
end LawK
end
section
set_option linter.all false
namespace Plain
/-! ### sums -/
theorem sum_add {β : Type} (f g : β → Int) : ∀ B : List β, (B.map fun b => f b + g b).sum = (B.map f).sum + (B.map g).sum
  | [] => by simp
  | b :: B => by
    have := sum_add f g B
    simp only [List.map_cons, List.sum_cons, this]
    omega
theorem sum_zero {β : Type} {f : β → Int} : ∀ {B : List β}, (∀ b ∈ B, f b = 0) → (B.map f).sum = 0
  | [], _ => rfl
  | b :: B, h => by
    rw [List.map_cons, List.sum_cons, h b List.mem_cons_self, sum_zero fun x hx => h x (List.mem_cons_of_mem _ hx)]
    rfl
theorem sum_swap {α β : Type} (f : α → β → Int) (B : List β) : ∀ A : List α, (A.map fun a => (B.map fun b => f a b).sum).sum = (B.map fun b => (A.map fun a => f a b).sum).sum
  | [] => by simp [sum_zero]
  | a :: A => by
    rw [List.map_cons, List.sum_cons, sum_swap f B A, ← sum_add]
    rfl
theorem sum_pos {β : Type} {f : β → Int} : ∀ {B : List β}, (∀ b ∈ B, 0 ≤ f b) → 0 ≤ (B.map f).sum
  | [], _ => by simp
  | b :: B, h => by
    have := h b List.mem_cons_self
    have := sum_pos fun x hx => h x (List.mem_cons_of_mem b hx)
    simp only [List.map_cons, List.sum_cons]
    omega
theorem sum_mem {β : Type} {f : β → Int} : ∀ {B : List β} {x : β}, (∀ b ∈ B, 0 ≤ f b) → x ∈ B → f x ≤ (B.map f).sum
  | b :: B, x, h, hx => by
    have h0 := h b List.mem_cons_self
    have h1 := sum_pos fun x hx => h x (List.mem_cons_of_mem b hx)
    simp only [List.map_cons, List.sum_cons]
    rcases List.mem_cons.mp hx with rfl | hx
    · omega
    · have := sum_mem (fun x hx => h x (List.mem_cons_of_mem b hx)) hx
      omega
theorem sum_one {β : Type} {f : β → Int} : ∀ {B : List β} {x : β}, B.Nodup → x ∈ B → (∀ b ∈ B, b ≠ x → f b = 0) → (B.map f).sum = f x
  | b :: B, x, hn, hx, h => by
    obtain ⟨h1, h2⟩ := List.nodup_cons.mp hn
    simp only [List.map_cons, List.sum_cons]
    rcases List.mem_cons.mp hx with rfl | hx
    · rw [sum_zero fun y hy => h y (List.mem_cons_of_mem _ hy) fun e => h1 (e ▸ hy)]
      omega
    · rw [sum_one h2 hx fun y hy => h y (List.mem_cons_of_mem _ hy), h b List.mem_cons_self fun e => h1 (e ▸ hx)]
      omega
theorem sum_le {β : Type} {f g : β → Int} : ∀ {B : List β}, (∀ b ∈ B, f b ≤ g b) → (B.map f).sum ≤ (B.map g).sum
  | [], _ => by simp
  | b :: B, h => by
    have := h b List.mem_cons_self
    have := sum_le fun x hx => h x (List.mem_cons_of_mem b hx)
    simp only [List.map_cons, List.sum_cons]
    omega
theorem sum_eq {β : Type} {f g : β → Int} {B : List β} (h : ∀ b ∈ B, f b = g b) : (B.map f).sum = (B.map g).sum := by
  rw [List.map_congr_left h]
theorem sum_permI {l m : List Int} (p : l.Perm m) : l.sum = m.sum := by
  induction p with
  | nil => rfl
  | cons x _ ih => simp only [List.sum_cons, ih]
  | swap x y l => simp only [List.sum_cons]; omega
  | trans _ _ h1 h2 => exact h1.trans h2
theorem osum_low {β : Type} {f : β → Option Int} {g : β → Int} : ∀ {B : List β} {v : Int}, (∀ b ∈ B, ∀ a, f b = some a → g b ≤ a) → osum (B.map f) = some v → (B.map g).sum ≤ v
  | [], v, _, h => by
    have : v = 0 := by simpa [osum] using h.symm
    simp [this]
  | b :: B, v, h, hv => by
    rw [List.map_cons] at hv
    obtain ⟨x, y, h1, h2, rfl⟩ := osum_cons.mp hv
    have := h b List.mem_cons_self x h1
    have := osum_low (fun x hx => h x (List.mem_cons_of_mem b hx)) h2
    simp only [List.map_cons, List.sum_cons]
    omega
theorem osum_up {β : Type} {f : β → Option Int} {g : β → Int} : ∀ {B : List β}, (∀ b ∈ B, ∃ a, f b = some a ∧ a ≤ g b) → ∃ v, osum (B.map f) = some v ∧ v ≤ (B.map g).sum
  | [], _ => ⟨0, rfl, by simp⟩
  | b :: B, h => by
    obtain ⟨x, h1, h2⟩ := h b List.mem_cons_self
    obtain ⟨v, k1, k2⟩ := osum_up fun x hx => h x (List.mem_cons_of_mem b hx)
    refine ⟨x + v, osum_cons.mpr ⟨x, v, h1, k1, rfl⟩, ?_⟩
    simp only [List.map_cons, List.sum_cons]
    omega
/-! ### what a share offers at a moment -/
def offC (ch : Charge) (h t : Int) : Int := if ch.1 ≤ t ∧ t ≤ ch.2.1 then max 0 (h - ch.2.2.1 * (t - ch.1)) else 0
theorem offC_nonneg {ch : Charge} {h t : Int} : 0 ≤ offC ch h t := by
  unfold offC
  split <;> omega
/-- the most that may be asked of a charge -/
def mostC (ch : Charge) : Option Int := ch.2.2.2.map fun f => ch.2.2.1 * (ch.2.1 - ch.1) + f
section
variable {price : Int → Int} {c : Int → Charge} {h : Int → Int} {K : List Int}
theorem fees_map {T : List Int} : fees (K.map c) T = osum (K.map fun k => fee T (c k)) := by
  unfold fees
  rw [List.map_map]
  rfl
/-- shares that are right: no group bears more than it costs -/
theorem weak (hm : ∀ k ∈ K, ∀ y, mostC (c k) = some y → h k ≤ y) {T : List Int} (hr : ∀ t ∈ T, (K.map fun k => offC (c k) (h k) t).sum ≤ price t) {v : Int} (hv : tot price (K.map c) T = some v) : (K.map h).sum ≤ v := by
  obtain ⟨a, h1, rfl⟩ := tot_some.mp hv
  rw [fees_map] at h1
  have A := osum_low (g := fun k => h k - (T.map fun t => offC (c k) (h k) t).sum) (fun k hk a ha => by
    have hs : 0 ≤ (T.map fun t => offC (c k) (h k) t).sum := sum_pos fun t _ => offC_nonneg
    have late : ∀ z, (c k).2.2.2.map (fun fine => (c k).2.2.1 * ((c k).2.1 - (c k).1) + fine) = some z → h k - (T.map fun t => offC (c k) (h k) t).sum ≤ z := fun z hz => by
      have := hm k hk z hz
      omega
    unfold fee at ha
    cases e : nextT T (c k).1 with
    | none =>
      rw [e] at ha
      exact late a ha
    | some t =>
      rw [e] at ha
      obtain ⟨t1, t2⟩ := nextT_some e
      unfold feeAt at ha
      simp only at ha
      by_cases ht : t ≤ (c k).2.1
      · rw [if_pos ht] at ha
        have e2 := Option.some.inj ha
        have := sum_mem (f := fun t => offC (c k) (h k) t) (fun t _ => offC_nonneg) t1
        have e3 : offC (c k) (h k) t = max 0 (h k - (c k).2.2.1 * (t - (c k).1)) := by
          unfold offC
          rw [if_pos ⟨t2, ht⟩]
        omega
      · rw [if_neg ht] at ha
        exact late a ha) h1
  have B := sum_le hr
  rw [← sum_swap (fun k t => offC (c k) (h k) t)] at B
  have C := sum_add (fun k => h k - (T.map fun t => offC (c k) (h k) t).sum) (fun k => (T.map fun t => offC (c k) (h k) t).sum) K
  have D : (K.map fun k => h k - (T.map fun t => offC (c k) (h k) t).sum + (T.map fun t => offC (c k) (h k) t).sum).sum = (K.map h).sum := sum_eq fun k _ => by omega
  omega
/-- times whose prices are all offered -/
theorem reach (ok : ∀ k ∈ K, ChOk (c k)) {T : List Int} (hI : Incr T) (hr : ∀ t ∈ T, (K.map fun k => offC (c k) (h k) t).sum = price t)
    (A : ∀ k ∈ K, mostC (c k) = some (h k) ∨ ∃ t ∈ T, (c k).1 ≤ t ∧ t ≤ (c k).2.1 ∧ (c k).2.2.1 * (t - (c k).1) ≤ h k)
    (B : ∀ t1 ∈ T, ∀ t2 ∈ T, t1 < t2 → ∀ k ∈ K, (c k).1 ≤ t1 → offC (c k) (h k) t2 = 0) : ∃ v, tot price (K.map c) T = some v ∧ v ≤ (K.map h).sum := by
  have F := osum_up (f := fun k => fee T (c k)) (g := fun k => h k - (T.map fun t => offC (c k) (h k) t).sum) (B := K) (fun k hk => by
    have hw := (ok k hk).wait
    have late : nextT T (c k).1 = none ∨ (∃ t, nextT T (c k).1 = some t ∧ (c k).2.1 < t) → mostC (c k) = some (h k) ∧ (T.map fun t => offC (c k) (h k) t).sum = 0 := fun q => by
      have no : ∀ t ∈ T, (c k).1 ≤ t → (c k).2.1 < t := fun t ht hb => by
        obtain ⟨u, u1, u2⟩ := nextT_least hI ht hb
        rcases q with q | ⟨x, q1, q2⟩
        · rw [q] at u1
          cases u1
        · rw [q1] at u1
          cases u1
          omega
      refine ⟨?_, sum_zero fun t ht => ?_⟩
      · rcases A k hk with z | ⟨t, t1, t2, t3, _⟩
        · exact z
        · have := no t t1 t2
          omega
      · unfold offC
        rw [if_neg]
        intro z
        have := no t ht z.1
        omega
    unfold fee
    cases e : nextT T (c k).1 with
    | none =>
      obtain ⟨l1, l2⟩ := late (.inl e)
      refine ⟨h k, l1, ?_⟩
      omega
    | some t =>
      obtain ⟨t1, t2⟩ := nextT_some e
      unfold feeAt
      simp only
      by_cases ht : t ≤ (c k).2.1
      · rw [if_pos ht]
        refine ⟨_, rfl, ?_⟩
        have hh : (c k).2.2.1 * (t - (c k).1) ≤ h k := by
          rcases A k hk with z | ⟨u, u1, u2, u3, u4⟩
          · unfold mostC at z
            obtain ⟨f, f1, f2⟩ := Option.map_eq_some_iff.mp z
            have := (ok k hk).fine f f1
            have := Int.mul_le_mul_of_nonneg_left (show t - (c k).1 ≤ (c k).2.1 - (c k).1 by omega) hw
            omega
          · obtain ⟨x, x1, x2⟩ := nextT_least hI u1 u2
            rw [e] at x1
            cases x1
            have := Int.mul_le_mul_of_nonneg_left (show t - (c k).1 ≤ u - (c k).1 by omega) hw
            omega
        rw [sum_one (incr_nodup hI) t1 (f := fun t => offC (c k) (h k) t) (fun u hu hne => by
          by_cases hb : (c k).1 ≤ u
          · obtain ⟨x, x1, x2⟩ := nextT_least hI hu hb
            rw [e] at x1
            cases x1
            exact B t t1 u hu (by omega) k hk t2
          · unfold offC
            rw [if_neg fun z => hb z.1])]
        unfold offC
        rw [if_pos ⟨t2, ht⟩]
        omega
      · rw [if_neg ht]
        obtain ⟨l1, l2⟩ := late (.inr ⟨t, e, by omega⟩)
        refine ⟨h k, l1, ?_⟩
        omega)
  obtain ⟨v, h1, h2⟩ := F
  refine ⟨v + (T.map price).sum, tot_some.mpr ⟨v, by rw [fees_map]; exact h1, rfl⟩, ?_⟩
  have B := sum_eq hr
  rw [← sum_swap (fun k t => offC (c k) (h k) t)] at B
  have C := sum_add (fun k => h k - (T.map fun t => offC (c k) (h k) t).sum) (fun k => (T.map fun t => offC (c k) (h k) t).sum) K
  have D : (K.map fun k => h k - (T.map fun t => offC (c k) (h k) t).sum + (T.map fun t => offC (c k) (h k) t).sum).sum = (K.map h).sum := sum_eq fun k _ => by omega
  omega
/-! ### the settled times: from the stops, the last first -/
def settle (c : Int → Charge) : List (Int × Int × Int) → List Int
  | [] => []
  | x :: r => if (settle c r).any (fun t => decide ((c x.2.1).1 ≤ t) && decide (t ≤ x.1)) = true then settle c r else x.2.2 :: settle c r
structure Stops (c : Int → Charge) (h : Int → Int) (K : List Int) (L : List (Int × Int × Int)) : Prop where
  at_ : ∀ x ∈ L, (c x.2.1).1 ≤ x.2.2 ∧ x.2.2 ≤ x.1 ∧ x.1 ≤ (c x.2.1).2.1
  pair : L.Pairwise fun x y => x.1 ≤ y.1 ∧ ((c y.2.1).1 ≤ x.2.2 → x.2.2 ≤ y.2.2)
  past : ∀ x ∈ L, ∀ k ∈ K, (c k).1 ≤ x.2.2 → ∀ t, x.1 < t → offC (c k) (h k) t = 0
theorem settle_sub : ∀ {L : List (Int × Int × Int)} {t : Int}, t ∈ settle c L → ∃ x ∈ L, x.2.2 = t
  | x :: L, t, ht => by
    unfold settle at ht
    by_cases q : (settle c L).any (fun t => decide ((c x.2.1).1 ≤ t) && decide (t ≤ x.1)) = true
    · rw [if_pos q] at ht
      obtain ⟨y, y1, y2⟩ := settle_sub ht
      exact ⟨y, List.mem_cons_of_mem _ y1, y2⟩
    · rw [if_neg q] at ht
      rcases List.mem_cons.mp ht with rfl | ht
      · exact ⟨x, List.mem_cons_self, rfl⟩
      · obtain ⟨y, y1, y2⟩ := settle_sub ht
        exact ⟨y, List.mem_cons_of_mem _ y1, y2⟩
theorem settle_no {L : List (Int × Int × Int)} {x : Int × Int × Int} (q : ¬ (settle c L).any (fun t => decide ((c x.2.1).1 ≤ t) && decide (t ≤ x.1)) = true) : ∀ t ∈ settle c L, ¬ ((c x.2.1).1 ≤ t ∧ t ≤ x.1) := fun t ht z => by
  apply q
  rw [List.any_eq_true]
  exact ⟨t, ht, by simp [z.1, z.2]⟩
theorem Stops.tail {x : Int × Int × Int} {L : List (Int × Int × Int)} (X : Stops c h K (x :: L)) : Stops c h K L :=
  ⟨fun y hy => X.at_ y (List.mem_cons_of_mem _ hy), (List.pairwise_cons.mp X.pair).2, fun y hy => X.past y (List.mem_cons_of_mem _ hy)⟩
theorem settle_nodup : ∀ {L : List (Int × Int × Int)}, Stops c h K L → (settle c L).Nodup
  | [], _ => List.nodup_nil
  | x :: L, X => by
    have ih := settle_nodup X.tail
    unfold settle
    by_cases q : (settle c L).any (fun t => decide ((c x.2.1).1 ≤ t) && decide (t ≤ x.1)) = true
    · rw [if_pos q]
      exact ih
    · rw [if_neg q]
      have := X.at_ x List.mem_cons_self
      exact List.nodup_cons.mpr ⟨fun z => settle_no q _ z ⟨this.1, this.2.1⟩, ih⟩
theorem settle_hit : ∀ {L : List (Int × Int × Int)}, Stops c h K L → ∀ x ∈ L, ∃ t ∈ settle c L, (c x.2.1).1 ≤ t ∧ t ≤ x.1
  | x :: L, X, y, hy => by
    unfold settle
    by_cases q : (settle c L).any (fun t => decide ((c x.2.1).1 ≤ t) && decide (t ≤ x.1)) = true
    · rw [if_pos q]
      rcases List.mem_cons.mp hy with rfl | hy
      · obtain ⟨t, t1, t2⟩ := List.any_eq_true.mp q
        simp only [Bool.and_eq_true, decide_eq_true_eq] at t2
        exact ⟨t, t1, t2⟩
      · exact settle_hit X.tail y hy
    · rw [if_neg q]
      rcases List.mem_cons.mp hy with rfl | hy
      · have := X.at_ y List.mem_cons_self
        exact ⟨_, List.mem_cons_self, this.1, this.2.1⟩
      · obtain ⟨t, t1, t2⟩ := settle_hit X.tail y hy
        exact ⟨t, List.mem_cons_of_mem _ t1, t2⟩
theorem settle_once : ∀ {L : List (Int × Int × Int)}, Stops c h K L → ∀ t1 ∈ settle c L, ∀ t2 ∈ settle c L, t1 < t2 → ∀ k ∈ K, (c k).1 ≤ t1 → offC (c k) (h k) t2 = 0
  | [], _, t1, h1, _, _, _, _, _, _ => nomatch h1
  | x :: L, X, t1, h1, t2, h2, hlt, k, hk, hb => by
    unfold settle at h1 h2
    by_cases q : (settle c L).any (fun t => decide ((c x.2.1).1 ≤ t) && decide (t ≤ x.1)) = true
    · rw [if_pos q] at h1 h2
      exact settle_once X.tail t1 h1 t2 h2 hlt k hk hb
    · rw [if_neg q] at h1 h2
      have no := settle_no q
      obtain ⟨a1, a2, a3⟩ := X.at_ x List.mem_cons_self
      rcases List.mem_cons.mp h1 with rfl | h1
      · rcases List.mem_cons.mp h2 with rfl | h2
        · omega
        · have := no t2 h2
          exact X.past x List.mem_cons_self k hk hb t2 (by omega)
      · rcases List.mem_cons.mp h2 with rfl | h2
        · exfalso
          obtain ⟨y, y1, rfl⟩ := settle_sub h1
          have := (List.pairwise_cons.mp X.pair).1 y y1
          have := no _ h1
          have := (X.tail.at_ y y1).1
          have := this
          omega
        · exact settle_once X.tail t1 h1 t2 h2 hlt k hk hb
end
end Plain
end
section
set_option linter.all false
namespace Plain
/-- what waiting to a moment costs -/
def cst (ch : Charge) (t : Int) : Int := ch.2.2.1 * (t - ch.1)
theorem cst_add (ch : Charge) (t n : Int) : cst ch (t + n) = cst ch t + n * ch.2.2.1 := by
  unfold cst
  rw [show t + n - ch.1 = (t - ch.1) + n by omega, Int.mul_add, Int.mul_comm n]
theorem cst_at (ch : Charge) : cst ch ch.1 = 0 := by
  unfold cst
  rw [Int.sub_self, Int.mul_zero]
theorem cst_mono {ch : Charge} (h : 0 ≤ ch.2.2.1) {t u : Int} (k : t ≤ u) : cst ch t ≤ cst ch u := Int.mul_le_mul_of_nonneg_left (by omega) h
theorem offC_in {ch : Charge} {h t : Int} (h1 : ch.1 ≤ t) (h2 : t ≤ ch.2.1) : offC ch h t = max 0 (h - cst ch t) := by
  unfold offC
  rw [if_pos ⟨h1, h2⟩]
  rfl
theorem offC_out {ch : Charge} {h t : Int} (k : ¬ (ch.1 ≤ t ∧ t ≤ ch.2.1)) : offC ch h t = 0 := by
  unfold offC
  rw [if_neg k]
theorem offC_zero {ch : Charge} {h t : Int} (k : ch.1 ≤ t → t ≤ ch.2.1 → h ≤ cst ch t) : offC ch h t = 0 := by
  by_cases q : ch.1 ≤ t ∧ t ≤ ch.2.1
  · rw [offC_in q.1 q.2]
    have := k q.1 q.2
    omega
  · exact offC_out q
theorem mostC_eq {ch : Charge} {y : Int} : mostC ch = some y ↔ ∃ f, ch.2.2.2 = some f ∧ y = cst ch ch.2.1 + f := by
  unfold mostC cst
  rw [Option.map_eq_some_iff]
  constructor
  · rintro ⟨f, h1, h2⟩
    exact ⟨f, h1, h2.symm⟩
  · rintro ⟨f, h1, h2⟩
    exact ⟨f, h1, h2.symm⟩
theorem sum_upd {β : Type} {f g : β → Int} : ∀ {B : List β} {x : β}, B.Nodup → x ∈ B → (∀ b, b ≠ x → g b = f b) → (B.map g).sum = (B.map f).sum + (g x - f x)
  | b :: B, x, hn, hx, h => by
    obtain ⟨h1, h2⟩ := List.nodup_cons.mp hn
    simp only [List.map_cons, List.sum_cons]
    rcases List.mem_cons.mp hx with rfl | hx
    · rw [sum_eq (f := g) (g := f) fun y hy => h y fun e => h1 (e ▸ hy)]
      omega
    · rw [sum_upd h2 hx h, h b fun e => h1 (e ▸ hx)]
      omega
theorem sum_part {β : Type} {f : β → Int} {p : β → Bool} : ∀ {B : List β}, (∀ b ∈ B, 0 ≤ f b) → ((B.filter p).map f).sum ≤ (B.map f).sum
  | [], _ => by simp
  | b :: B, h => by
    have h0 := h b List.mem_cons_self
    have := sum_part (p := p) fun x hx => h x (List.mem_cons_of_mem b hx)
    rw [List.filter_cons]
    split
    · simp only [List.map_cons, List.sum_cons]
      omega
    · simp only [List.map_cons, List.sum_cons]
      omega
end Plain
end
section
set_option linter.all false
namespace LawK
open Lmo Plain
def chO (cs : Charges) (k : Int) : Charge := (dget cs k).getD default
def hO (s : Raising_F) (k : Int) : Int := (dget s.2.2.1 k).getD default
def rO (s : Raising_F) (t : Int) : Int := (dget s.2.1 t).getD default
theorem spots_for_eq (s : Raising_F) (k m : Int) : Raising_spots_for s (k, m) = ((keysOf s.2.1).filter (fun t => decide ((chO s.1 k).1 ≤ t) && decide (t ≤ m)), s) := by
  unfold Raising_spots_for Raising_spots_for_o
  simp only [Out.get]
  rw [List.map_id']
  rfl
theorem spots_for_pre {s : Raising_F} {k : Int} (h : k ∈ keysOf s.1) (m : Int) : Raising_spots_for_pre s (k, m) := by
  unfold Raising_spots_for_pre
  exact ⟨trivial, fun t _ => ⟨⟨⟨trivial, trivial, dget_mem h⟩, trivial, trivial, fun _ => ⟨trivial, trivial⟩⟩, fun _ => trivial⟩⟩
theorem add_loop {k m part : Int} : ∀ (l : List Int) (s : Raising_F), l.Nodup → (∀ t ∈ l, t ∈ keysOf s.2.1) → forP Raising_add_b5 Raising_add_b5_p l (s, k, m, part, (), ()) ∧
    ∃ d, forL Raising_add_b5 l (s, k, m, part, (), ()) = .nx ((s.1, d, s.2.2), k, m, part, (), ()) ∧ keysOf d = keysOf s.2.1 ∧ ∀ t, (dget d t).getD default = if t ∈ l then rO s t - part else rO s t
  | [], s, _, _ => ⟨trivial, s.2.1, rfl, rfl, fun t => rfl⟩
  | x :: l, s, hn, hs => by
    obtain ⟨n1, n2⟩ := List.nodup_cons.mp hn
    have hx := hs x List.mem_cons_self
    have hk : keysOf (dput s.2.1 x ((dget s.2.1 x).getD default - part)) = keysOf s.2.1 := by
      unfold keysOf
      rw [dput_keys, if_pos hx]
    have hb : Raising_add_b5 (s, k, m, part, (), ()) x = .nx ((s.1, dput s.2.1 x ((dget s.2.1 x).getD default - part), s.2.2), k, m, part, (), ()) := rfl
    obtain ⟨p1, d, e1, e2, e3⟩ := add_loop (k := k) (m := m) (part := part) l (s.1, dput s.2.1 x ((dget s.2.1 x).getD default - part), s.2.2) n2 fun t ht => by
      show t ∈ keysOf (dput s.2.1 x ((dget s.2.1 x).getD default - part))
      rw [hk]
      exact hs t (List.mem_cons_of_mem _ ht)
    refine ⟨⟨⟨⟨trivial, trivial, dget_mem hx⟩, trivial⟩, fun e' he => ?_⟩, d, ?_, e2.trans hk, fun t => ?_⟩
    · rw [hb] at he
      cases he
      exact p1
    · rw [forL_nx hb]
      exact e1
    · rw [e3]
      unfold rO
      simp only [dget_dput]
      by_cases ht : t = x
      · subst ht
        rw [if_neg n1, if_pos rfl, if_pos List.mem_cons_self]
        rfl
      · rw [if_neg ht]
        by_cases h2 : t ∈ l
        · rw [if_pos h2, if_pos (List.mem_cons_of_mem _ h2)]
        · rw [if_neg h2, if_neg fun z => by
            rcases List.mem_cons.mp z with z | z
            · exact ht z
            · exact h2 z]
structure Added (s : Raising_F) (k m part : Int) (s' : Raising_F) : Prop where
  lots : s'.1 = s.1
  rk : keysOf s'.2.1 = keysOf s.2.1
  hk : keysOf s'.2.2.1 = keysOf s.2.2.1
  held : ∀ j, hO s' j = if j = k then hO s k + part else hO s j
  room : ∀ t ∈ keysOf s.2.1, rO s' t = if (chO s.1 k).1 ≤ t ∧ t ≤ m then rO s t - part else rO s t
  going : s'.2.2.2.1 = s.2.2.2.1
  stops : s'.2.2.2.2.1 = s.2.2.2.2.1
theorem add_ok {s : Raising_F} {k : Int} (m part : Int) (h1 : k ∈ keysOf s.1) (h2 : k ∈ keysOf s.2.2.1) (hn : (keysOf s.2.1).Nodup) : Raising_add_pre s (k, m, part) ∧ ∃ s', Raising_add s (k, m, part) = ((), s') ∧ Added s k m part s' := by
  have e := spots_for_eq (s.1, s.2.1, dput s.2.2.1 k ((dget s.2.2.1 k).getD default + part), s.2.2.2.1, s.2.2.2.2.1, s.2.2.2.2.2) k m
  have p := spots_for_pre (s := (s.1, s.2.1, dput s.2.2.1 k ((dget s.2.2.1 k).getD default + part), s.2.2.2.1, s.2.2.2.2.1, s.2.2.2.2.2)) h1 m
  obtain ⟨q1, d, e1, e2, e3⟩ := add_loop (k := k) (m := m) (part := part) ((keysOf s.2.1).filter (fun t => decide ((chO s.1 k).1 ≤ t) && decide (t ≤ m)))
    (s.1, s.2.1, dput s.2.2.1 k ((dget s.2.2.1 k).getD default + part), s.2.2.2.1, s.2.2.2.2.1, s.2.2.2.2.2) (hn.filter _) fun t ht => (List.mem_filter.mp ht).1
  constructor
  · unfold Raising_add_pre
    refine ⟨⟨trivial, trivial, dget_mem h2⟩, ⟨⟨trivial, trivial⟩, p⟩, ?_⟩
    simp only [e]
    exact q1
  · refine ⟨(s.1, d, dput s.2.2.1 k ((dget s.2.2.1 k).getD default + part), s.2.2.2.1, s.2.2.2.2.1, s.2.2.2.2.2), ?_, rfl, e2, ?_, fun j => ?_, fun t ht => ?_, rfl, rfl⟩
    · unfold Raising_add Raising_add_o
      simp only [e, e1, Out.get]
    · show keysOf (dput s.2.2.1 k ((dget s.2.2.1 k).getD default + part)) = _
      unfold keysOf
      rw [dput_keys, if_pos h2]
    · show (dget (dput s.2.2.1 k ((dget s.2.2.1 k).getD default + part)) j).getD default = _
      rw [dget_dput]
      by_cases hj : j = k
      · rw [if_pos hj, if_pos hj]
        rfl
      · rw [if_neg hj, if_neg hj]
        rfl
    · show (dget d t).getD default = _
      rw [e3]
      have c : t ∈ ((keysOf s.2.1).filter (fun t => decide ((chO s.1 k).1 ≤ t) && decide (t ≤ m))) ↔ (chO s.1 k).1 ≤ t ∧ t ≤ m := by
        rw [List.mem_filter]
        simp only [Bool.and_eq_true, decide_eq_true_eq]
        exact ⟨fun z => z.2, fun z => ⟨ht, z⟩⟩
      by_cases hc : (chO s.1 k).1 ≤ t ∧ t ≤ m
      · rw [if_pos (c.mpr hc), if_pos hc]
        rfl
      · rw [if_neg fun z => hc (c.mp z), if_neg hc]
        rfl
/-- charges and a tariff whose shares can be raised -/
structure RX (cs : Charges) (tf : Tariff) : Prop where
  ok : Ok cs tf
  nd : (keysOf cs).Nodup
  rate : (cs.map fun x => x.2.2.2.1).sum < 1073741824
section
variable {cs : Charges} {tf : Tariff} (X : RX cs tf)
include X
theorem RX.at_ {k : Int} (h : k ∈ keysOf cs) : ∃ x ∈ cs, x.1 = k ∧ chO cs k = x.2 := by
  obtain ⟨x, hx, rfl⟩ := List.mem_map.mp h
  exact ⟨x, hx, rfl, by unfold chO; rw [dget_of X.nd hx]; rfl⟩
theorem RX.chok {k : Int} (h : k ∈ keysOf cs) : ChOk (chO cs k) := by
  obtain ⟨x, hx, rfl, e⟩ := X.at_ h
  rw [e]
  exact X.ok.lots.ok x hx
theorem RX.spot {k : Int} (h : k ∈ keysOf cs) : (chO cs k).1 ∈ spotsOf cs tf := by
  obtain ⟨x, hx, rfl, e⟩ := X.at_ h
  rw [e]
  exact mem_spots.mpr (.inl ⟨x, hx, rfl⟩)
theorem RX.beg {k : Int} (h : k ∈ keysOf cs) : 0 ≤ (chO cs k).1 := by
  obtain ⟨x, hx, rfl, e⟩ := X.at_ h
  rw [e]
  exact X.ok.lots.begin_ x hx
theorem RX.vals : valsOf cs = (keysOf cs).map (chO cs) := by
  unfold valsOf keysOf
  rw [List.map_map]
  apply List.map_congr_left
  intro x hx
  simp only [Function.comp, chO]
  rw [dget_of X.nd hx]
  rfl
theorem RX.waits {k : Int} (h : k ∈ keysOf cs) : 0 ≤ (chO cs k).2.2.1 ∧ (chO cs k).2.2.1 < 1073741824 := by
  obtain ⟨x, hx, rfl, e⟩ := X.at_ h
  rw [e]
  have := sum_mem (f := fun x : Int × Charge => x.2.2.2.1) (fun x hx => (X.ok.lots.ok x hx).wait) hx
  have := X.rate
  exact ⟨(X.ok.lots.ok x hx).wait, by omega⟩
end
theorem spots_nd {cs : Charges} {tf : Tariff} : (spotsOf cs tf).Nodup := incr_nodup (uniq_lt _)
/-- what holds at every moment of the raising: nothing beyond moment u is asked -/
structure Core (cs : Charges) (tf : Tariff) (u : Int) (s : Raising_F) : Prop where
  lots : s.1 = cs
  rk : keysOf s.2.1 = spotsOf cs tf
  hk : keysOf s.2.2.1 = keysOf cs
  room : ∀ t ∈ spotsOf cs tf, rO s t + ((keysOf cs).map fun k => offC (chO cs k) (hO s k) t).sum = prO tf t
  pos : ∀ t ∈ spotsOf cs tf, 0 ≤ rO s t
  hpos : ∀ k ∈ keysOf cs, 0 ≤ hO s k
  most : ∀ k ∈ keysOf cs, ∀ y, mostC (chO cs k) = some y → hO s k ≤ y
  nd : s.2.2.2.1.Nodup
  gk : ∀ k ∈ s.2.2.2.1, k ∈ keysOf cs
  few : s.2.2.2.2.1.length + s.2.2.2.1.length ≤ cs.length
  low : ∀ k ∈ keysOf cs, ∀ t, u ≤ t → (chO cs k).1 ≤ t → t ≤ (chO cs k).2.1 → hO s k ≤ cst (chO cs k) t
  at_ : ∀ x ∈ s.2.2.2.2.1, x.2.1 ∈ keysOf cs ∧ (chO cs x.2.1).1 ≤ x.2.2 ∧ x.2.2 ≤ x.1 ∧ x.1 ≤ (chO cs x.2.1).2.1 ∧ x.1 < u ∧ x.2.2 ∈ spotsOf cs tf ∧ rO s x.2.2 = 0
  pair : s.2.2.2.2.1.Pairwise fun x y => x.1 ≤ y.1 ∧ ((chO cs y.2.1).1 ≤ x.2.2 → x.2.2 ≤ y.2.2)
  past : ∀ x ∈ s.2.2.2.2.1, ∀ k ∈ keysOf cs, (chO cs k).1 ≤ x.2.2 → ∀ t, x.1 < t → t ≤ (chO cs k).2.1 → hO s k ≤ cst (chO cs k) t
theorem Core.up {cs : Charges} {tf : Tariff} {u u' : Int} {s : Raising_F} (C : Core cs tf u s) (h : u ≤ u') : Core cs tf u' s :=
  { C with
    low := fun k hk t ht => C.low k hk t (by omega)
    at_ := fun x hx => by
      have := C.at_ x hx
      exact ⟨this.1, this.2.1, this.2.2.1, this.2.2.2.1, by omega, this.2.2.2.2.2⟩ }
theorem Core.add {cs : Charges} {tf : Tariff} (X : RX cs tf) {u k m part : Int} {s s' : Raising_F} (C : Core cs tf u s) (A : Added s k m part s') (hk : k ∈ keysOf cs) (p0 : 0 ≤ part)
    (pr : ∀ t ∈ spotsOf cs tf, (chO cs k).1 ≤ t → t ≤ m → part ≤ rO s t) (hin : ∀ t ∈ spotsOf cs tf, (chO cs k).1 ≤ t → t ≤ m → t ≤ (chO cs k).2.1 ∧ cst (chO cs k) t ≤ hO s k)
    (hout : ∀ t, u ≤ t → (chO cs k).1 ≤ t → t ≤ (chO cs k).2.1 → hO s k + part ≤ cst (chO cs k) t) (gap : ∀ t ∈ spotsOf cs tf, m < t → u ≤ t)
    (hmost : ∀ y, mostC (chO cs k) = some y → hO s k + part ≤ y) : Core cs tf u s' := by
  have el : ∀ t ∈ spotsOf cs tf, rO s' t = if (chO cs k).1 ≤ t ∧ t ≤ m then rO s t - part else rO s t := fun t ht => by
    rw [← C.lots]
    exact A.room t (by rw [C.rk]; exact ht)
  have hk0 : hO s' k = hO s k + part := by rw [A.held, if_pos rfl]
  have hj : ∀ j, j ≠ k → hO s' j = hO s j := fun j h => by rw [A.held, if_neg h]
  have full : ∀ x ∈ s.2.2.2.2.1, (chO cs k).1 ≤ x.2.2 → part = 0 := fun x hx hb => by
    obtain ⟨a1, a2, a3, a4, a5, a6, a7⟩ := C.at_ x hx
    have hm : x.2.2 ≤ m := by
      apply Decidable.byContradiction
      intro z
      have := gap _ a6 (by omega)
      omega
    have := pr _ a6 hb hm
    omega
  refine ⟨A.lots.trans C.lots, A.rk.trans C.rk, A.hk.trans C.hk, fun t ht => ?_, fun t ht => ?_, fun j hj' => ?_, fun j hj' y hy => ?_, by rw [A.going]; exact C.nd, by rw [A.going]; exact C.gk, by rw [A.going, A.stops]; exact C.few, fun j hj' t h1 h2 h3 => ?_, ?_, by rw [A.stops]; exact C.pair, ?_⟩
  · have r := C.room t ht
    have e := sum_upd (f := fun k => offC (chO cs k) (hO s k) t) (g := fun k => offC (chO cs k) (hO s' k) t) X.nd hk fun j h => by simp only [hj j h]
    rw [el t ht]
    simp only [hk0] at e
    by_cases q : (chO cs k).1 ≤ t ∧ t ≤ m
    · rw [if_pos q]
      obtain ⟨q1, q2⟩ := hin t ht q.1 q.2
      rw [offC_in q.1 q1, offC_in q.1 q1] at e
      omega
    · rw [if_neg q]
      have z1 : offC (chO cs k) (hO s k + part) t = 0 := offC_zero fun h1 h2 => hout t (gap t ht (by omega)) h1 h2
      have z2 : offC (chO cs k) (hO s k) t = 0 := offC_zero fun h1 h2 => by
        have := hout t (gap t ht (by omega)) h1 h2
        omega
      omega
  · rw [el t ht]
    by_cases q : (chO cs k).1 ≤ t ∧ t ≤ m
    · rw [if_pos q]
      have := pr t ht q.1 q.2
      omega
    · rw [if_neg q]
      exact C.pos t ht
  · rw [A.held]
    split
    · have := C.hpos k hk
      omega
    · exact C.hpos j hj'
  · rw [A.held]
    split
    · rename_i e
      subst e
      exact hmost y hy
    · exact C.most j hj' y hy
  · rw [A.held]
    split
    · rename_i e
      subst e
      exact hout t h1 h2 h3
    · exact C.low j hj' t h1 h2 h3
  · rw [A.stops]
    intro x hx
    obtain ⟨a1, a2, a3, a4, a5, a6, a7⟩ := C.at_ x hx
    refine ⟨a1, a2, a3, a4, a5, a6, ?_⟩
    rw [el _ a6]
    by_cases q : (chO cs k).1 ≤ x.2.2 ∧ x.2.2 ≤ m
    · rw [if_pos q, full x hx q.1, a7]
      rfl
    · rw [if_neg q]
      exact a7
  · rw [A.stops]
    intro x hx j hj' hb t h1 h2
    rw [A.held]
    split
    · rename_i e
      subst e
      rw [full x hx hb]
      have := C.past x hx j hj' hb t h1 h2
      omega
    · exact C.past x hx j hj' hb t h1 h2
/-- who is still raised, and how far -/
structure Run (cs : Charges) (m u : Int) (pend : List Int) (s : Raising_F) : Prop where
  wait_ : ∀ k ∈ s.2.2.2.1, m < (chO cs k).1 → hO s k = 0
  run0 : ∀ k ∈ s.2.2.2.1, (chO cs k).1 ≤ m → k ∈ pend → hO s k = cst (chO cs k) m ∧ m ≤ (chO cs k).2.1
  run1 : ∀ k ∈ s.2.2.2.1, (chO cs k).1 ≤ m → k ∉ pend → hO s k = cst (chO cs k) u ∧ u ≤ (chO cs k).2.1
  done : ∀ k ∈ keysOf cs, k ∉ s.2.2.2.1 → mostC (chO cs k) = some (hO s k) ∨ ∃ x ∈ s.2.2.2.2.1, x.2.1 = k ∧ cst (chO cs k) x.1 ≤ hO s k
/-- one goes on -/
theorem Run.go {cs : Charges} {m u k mm part : Int} {pend : List Int} {s s' : Raising_F} (R : Run cs m u (k :: pend) s) (A : Added s k mm part s') (hn : k ∉ pend) (hg : k ∈ s.2.2.2.1) (hb : (chO cs k).1 ≤ m) (h : hO s k + part = cst (chO cs k) u) (hu : u ≤ (chO cs k).2.1) : Run cs m u pend s' := by
  have ne : ∀ j, j ∉ k :: pend → j ≠ k := fun j h e => h (by rw [e]; exact List.mem_cons_self)
  refine ⟨?_, ?_, ?_, ?_⟩ <;> rw [A.going]
  · intro j hj hm
    rw [A.held, if_neg (by rintro rfl; omega)]
    exact R.wait_ j hj hm
  · intro j hj hm hp
    rw [A.held, if_neg (by rintro rfl; exact hn hp)]
    exact R.run0 j hj hm (List.mem_cons_of_mem _ hp)
  · intro j hj hm hp
    rw [A.held]
    split
    · rename_i e
      subst e
      exact ⟨h, hu⟩
    · rename_i e
      exact R.run1 j hj hm fun z => by
        rcases List.mem_cons.mp z with z | z
        · exact e z
        · exact hp z
  · intro j hj hg'
    rw [A.stops, A.held, if_neg (by rintro rfl; exact hg' hg)]
    exact R.done j hj hg'
end LawK
end
section
set_option linter.all false
namespace LawK
open Lmo Plain
theorem stop_ok {s : Raising_F} {k m : Int} {b : Bool} (hg : k ∈ s.2.2.2.1) (hk : k ∈ keysOf s.1) (hl : s.2.2.2.2.1.length < LIM) (hf : b = true → ∃ t ∈ keysOf s.2.1, (chO s.1 k).1 ≤ t ∧ t ≤ m ∧ rO s t = 0) :
    Raising_stop_pre s (k, m, b) ∧ ∃ L, Raising_stop s (k, m, b) = ((), (s.1, s.2.1, s.2.2.1, s.2.2.2.1.erase k, s.2.2.2.2.1 ++ L, ())) ∧
      ((b = false ∧ L = []) ∨ (b = true ∧ ∃ x, L = [(m, k, x)] ∧ x ∈ keysOf s.2.1 ∧ (chO s.1 k).1 ≤ x ∧ x ≤ m ∧ rO s x = 0 ∧ ∀ t ∈ keysOf s.2.1, (chO s.1 k).1 ≤ t → t ≤ m → rO s t = 0 → t ≤ x)) := by
  have e := spots_for_eq (s.1, s.2.1, s.2.2.1, s.2.2.2.1.erase k, s.2.2.2.2.1, s.2.2.2.2.2) k m
  have p := spots_for_pre (s := (s.1, s.2.1, s.2.2.1, s.2.2.2.1.erase k, s.2.2.2.2.1, s.2.2.2.2.2)) hk m
  simp only at e p
  cases b with
  | false =>
    refine ⟨?_, [], ?_, .inl ⟨rfl, rfl⟩⟩
    · unfold Raising_stop_pre
      exact ⟨⟨trivial, hg⟩, trivial, fun z => (nomatch z), fun _ => trivial⟩
    · unfold Raising_stop Raising_stop_o
      simp only [Out.get, Bool.false_eq_true, if_false, List.append_nil]
  | true =>
    obtain ⟨t, t1, t2, t3, t4⟩ := hf rfl
    have mem : ∀ u, u ∈ ((keysOf s.2.1).filter (fun t => decide ((chO s.1 k).1 ≤ t) && decide (t ≤ m))).filter (fun x3 => decide ((dget s.2.1 x3).getD default = 0)) ↔ u ∈ keysOf s.2.1 ∧ (chO s.1 k).1 ≤ u ∧ u ≤ m ∧ rO s u = 0 := fun u => by
      rw [List.mem_filter, List.mem_filter]
      simp only [Bool.and_eq_true, decide_eq_true_eq]
      unfold rO
      constructor
      · rintro ⟨⟨h1, h2, h3⟩, h4⟩
        exact ⟨h1, h2, h3, h4⟩
      · rintro ⟨h1, h2, h3, h4⟩
        exact ⟨⟨h1, h2, h3⟩, h4⟩
    have ne : ((keysOf s.2.1).filter (fun t => decide ((chO s.1 k).1 ≤ t) && decide (t ≤ m))).filter (fun x3 => decide ((dget s.2.1 x3).getD default = 0)) ≠ [] := List.ne_nil_of_mem ((mem t).mpr ⟨t1, t2, t3, t4⟩)
    obtain ⟨x1, x2, x3, x4⟩ := (mem _).mp (lmax_mem ne)
    refine ⟨?_, _, ?_, .inr ⟨rfl, _, rfl, x1, x2, x3, x4, fun u h1 h2 h3 h4 => le_lmax ((mem u).mpr ⟨h1, h2, h3, h4⟩)⟩⟩
    · unfold Raising_stop_pre
      simp only [e, List.map_id']
      refine ⟨⟨trivial, hg⟩, trivial, fun _ => ⟨⟨⟨⟨trivial, trivial⟩, p⟩, fun x hx => ⟨⟨⟨trivial, dget_mem (List.mem_filter.mp hx).1⟩, trivial, trivial⟩, fun _ => trivial⟩⟩, ⟨⟨trivial, trivial, trivial, ne⟩, hl⟩, trivial⟩, fun _ => trivial⟩
    · unfold Raising_stop Raising_stop_o
      simp only [e, List.map_id', Out.get, if_true]
theorem Core.stop {cs : Charges} {tf : Tariff} {m k : Int} {s : Raising_F} (C : Core cs tf (m + 1) s) (hg : k ∈ s.2.2.2.1) (he : m ≤ (chO cs k).2.1) {L : List (Int × Int × Int)}
    (h : L = [] ∨ ∃ x, L = [(m, k, x)] ∧ x ∈ spotsOf cs tf ∧ (chO cs k).1 ≤ x ∧ x ≤ m ∧ rO s x = 0 ∧ ∀ t ∈ spotsOf cs tf, (chO cs k).1 ≤ t → t ≤ m → rO s t = 0 → t ≤ x) :
    Core cs tf (m + 1) (s.1, s.2.1, s.2.2.1, s.2.2.2.1.erase k, s.2.2.2.2.1 ++ L, ()) := by
  have hk := C.gk k hg
  have hlen : (s.2.2.2.1.erase k).length + 1 = s.2.2.2.1.length := by
    have := List.length_pos_of_mem hg
    rw [List.length_erase_of_mem hg]
    omega
  have few := C.few
  refine ⟨C.lots, C.rk, C.hk, C.room, C.pos, C.hpos, C.most, C.nd.erase k, fun j hj => C.gk j (List.mem_of_mem_erase hj), ?_, C.low, ?_, ?_, ?_⟩
  · show (s.2.2.2.2.1 ++ L).length + (s.2.2.2.1.erase k).length ≤ cs.length
    rw [List.length_append]
    rcases h with rfl | ⟨x, rfl, _⟩
    · simp only [List.length_nil]
      omega
    · simp only [List.length_cons, List.length_nil]
      omega
  · intro y hy
    rcases List.mem_append.mp hy with hy | hy
    · exact C.at_ y hy
    · rcases h with rfl | ⟨x, rfl, x1, x2, x3, x4, x5⟩
      · cases hy
      · rw [List.mem_singleton.mp hy]
        exact ⟨hk, x2, x3, he, by show m < m + 1; omega, x1, x4⟩
  · rcases h with rfl | ⟨x, rfl, x1, x2, x3, x4, x5⟩
    · show (s.2.2.2.2.1 ++ []).Pairwise _
      rw [List.append_nil]
      exact C.pair
    · refine List.pairwise_append.mpr ⟨C.pair, List.pairwise_singleton _ _, fun a ha y hy => ?_⟩
      rw [List.mem_singleton.mp hy]
      obtain ⟨a1, a2, a3, a4, a5, a6, a7⟩ := C.at_ a ha
      exact ⟨by show a.1 ≤ m; omega, fun hb => x5 _ a6 hb (by omega) a7⟩
  · intro y hy j hj hb t h1 h2
    rcases List.mem_append.mp hy with hy | hy
    · exact C.past y hy j hj hb t h1 h2
    · rcases h with rfl | ⟨x, rfl, x1, x2, x3, x4, x5⟩
      · cases hy
      · rw [List.mem_singleton.mp hy] at hb h1
        have hb : (chO cs j).1 ≤ x := hb
        have h1 : m < t := h1
        exact C.low j hj t (by omega) (by omega) h2
/-- one stops -/
theorem Run.stop {cs : Charges} {m u k mm part : Int} {pend : List Int} {s s1 : Raising_F} (R : Run cs m u (k :: pend) s) (A : Added s k mm part s1) (nd : s.2.2.2.1.Nodup) {L : List (Int × Int × Int)}
    (D : mostC (chO cs k) = some (hO s1 k) ∨ ∃ x ∈ s1.2.2.2.2.1 ++ L, x.2.1 = k ∧ cst (chO cs k) x.1 ≤ hO s1 k) : Run cs m u pend (s1.1, s1.2.1, s1.2.2.1, s1.2.2.2.1.erase k, s1.2.2.2.2.1 ++ L, ()) := by
  have mem : ∀ j, j ∈ s1.2.2.2.1.erase k → j ≠ k ∧ j ∈ s.2.2.2.1 := fun j hj => by
    rw [A.going] at hj
    exact nd.mem_erase_iff.mp hj
  have ho : ∀ j, j ≠ k → hO (s1.1, s1.2.1, s1.2.2.1, s1.2.2.2.1.erase k, s1.2.2.2.2.1 ++ L, ()) j = hO s j := fun j hj => by
    show hO s1 j = _
    rw [A.held, if_neg hj]
  refine ⟨fun j hj hm => ?_, fun j hj hm hp => ?_, fun j hj hm hp => ?_, fun j hj hg => ?_⟩
  · obtain ⟨h1, h2⟩ := mem j hj
    rw [ho j h1]
    exact R.wait_ j h2 hm
  · obtain ⟨h1, h2⟩ := mem j hj
    rw [ho j h1]
    exact R.run0 j h2 hm (List.mem_cons_of_mem _ hp)
  · obtain ⟨h1, h2⟩ := mem j hj
    rw [ho j h1]
    exact R.run1 j h2 hm fun z => by
      rcases List.mem_cons.mp z with z | z
      · exact h1 z
      · exact hp z
  · by_cases e : j = k
    · subst e
      exact D
    · rw [ho j e]
      rcases R.done j hj (fun z => hg (by
        show j ∈ s1.2.2.2.1.erase k
        rw [A.going]
        exact nd.mem_erase_iff.mpr ⟨e, z⟩)) with h | ⟨x, x1, x2⟩
      · exact .inl h
      · exact .inr ⟨x, List.mem_append_left _ (by rw [A.stops]; exact x1), x2⟩
def mostP (ch : Charge) (m : Int) : Option Int := if decide (m < ch.2.1) = true then some ch.2.2.1 else ch.2.2.2
def partP (o : Option Int) (left : Int) : Int := if o.isNone = true then left else min2 left (o.getD default)
def shortP (o : Option Int) (part : Int) : Bool := o.isNone || decide (part < o.getD default)
theorem part_ok {o : Option Int} {left : Int} (hl : 0 ≤ left) (ho : ∀ y, o = some y → 0 ≤ y) : 0 ≤ partP o left ∧ partP o left ≤ left ∧ (∀ y, o = some y → partP o left ≤ y) ∧ (shortP o (partP o left) = true → partP o left = left) ∧ (shortP o (partP o left) = false → o = some (partP o left)) := by
  unfold partP shortP
  cases o with
  | none => exact ⟨hl, Int.le_refl _, fun y z => (nomatch z), fun _ => rfl, fun z => (nomatch z)⟩
  | some y =>
    have h0 := ho y rfl
    simp only [Option.isNone_some, Bool.false_eq_true, if_false, Option.getD_some, Bool.false_or, decide_eq_true_eq, decide_eq_false_iff_not]
    unfold min2
    by_cases q : y < left
    · rw [if_pos q]
      exact ⟨h0, by omega, fun z hz => by cases hz; exact Int.le_refl _, fun z => by omega, fun _ => rfl⟩
    · rw [if_neg q]
      exact ⟨hl, Int.le_refl _, fun z hz => by cases hz; omega, fun _ => rfl, fun z => by rw [show y = left by omega]⟩
/-- one is raised at a moment -/
theorem raise_step {cs : Charges} {tf : Tariff} (X : RX cs tf) {m k : Int} {pend : List Int} {s : Raising_F} (C : Core cs tf (m + 1) s) (R : Run cs m (m + 1) (k :: pend) s) (hg : k ∈ s.2.2.2.1) (hn : k ∉ pend) (hp : ∀ j ∈ pend, j ∈ s.2.2.2.1) (hb : (chO cs k).1 ≤ m) :
    Raising_raise_at_b12_p (s, m, (), (), (), (), (), (), (), (), (), (), ()) k ∧ ∃ s', Raising_raise_at_b12 (s, m, (), (), (), (), (), (), (), (), (), (), ()) k = .nx (s', m, (), (), (), (), (), (), (), (), (), (), ()) ∧
      Core cs tf (m + 1) s' ∧ Run cs m (m + 1) pend s' ∧ (∀ j ∈ pend, j ∈ s'.2.2.2.1) := by
  have hL : (LIM : Nat) = 1000000 := rfl
  have hk := C.gk k hg
  have ok := X.chok hk
  have hw := ok.wait
  obtain ⟨r1, r2⟩ := R.run0 k hg hb List.mem_cons_self
  have hlots := C.lots
  have e5 := spots_for_eq s k m
  have mem : ∀ t, t ∈ (keysOf s.2.1).filter (fun t => decide ((chO s.1 k).1 ≤ t) && decide (t ≤ m)) ↔ t ∈ spotsOf cs tf ∧ (chO cs k).1 ≤ t ∧ t ≤ m := fun t => by
    rw [List.mem_filter, C.rk, C.lots]
    simp only [Bool.and_eq_true, decide_eq_true_eq]
  have hbm := (mem (chO cs k).1).mpr ⟨X.spot hk, Int.le_refl _, hb⟩
  generalize hLL : (keysOf s.2.1).filter (fun t => decide ((chO s.1 k).1 ≤ t) && decide (t ≤ m)) = LL at e5 mem hbm
  have ne : (LL.map (rO s)) ≠ [] := List.ne_nil_of_mem (List.mem_map.mpr ⟨_, hbm, rfl⟩)
  obtain ⟨t0, t1, t2⟩ := List.mem_map.mp (lmin_mem ne)
  obtain ⟨t3, t4, t5⟩ := (mem t0).mp t1
  have lo : ∀ t ∈ spotsOf cs tf, (chO cs k).1 ≤ t → t ≤ m → lmin (LL.map (rO s)) ≤ rO s t := fun t h1 h2 h3 => lmin_le (List.mem_map.mpr ⟨t, (mem t).mpr ⟨h1, h2, h3⟩, rfl⟩)
  have l0 : 0 ≤ lmin (LL.map (rO s)) := by
    rw [← t2]
    exact C.pos t0 t3
  have mo : ∀ y, mostP (chO s.1 k) m = some y → 0 ≤ y := fun y hy => by
    rw [C.lots] at hy
    unfold mostP at hy
    split at hy
    · cases hy
      exact hw
    · exact ok.fine y hy
  obtain ⟨p1, p2, p3, p4, p5⟩ := part_ok l0 mo
  have hstep : Raising_raise_at_b12 (s, m, (), (), (), (), (), (), (), (), (), (), ()) k =
      (if (shortP (mostP (chO s.1 k) m) (partP (mostP (chO s.1 k) m) (lmin (LL.map (rO s)))) || decide (m = (chO s.1 k).2.1)) = true then
        .nx ((Raising_stop (Raising_add s (k, m, partP (mostP (chO s.1 k) m) (lmin (LL.map (rO s))))).2 (k, m, shortP (mostP (chO s.1 k) m) (partP (mostP (chO s.1 k) m) (lmin (LL.map (rO s)))))).2, m, (), (), (), (), (), (), (), (), (), (), ())
      else .nx ((Raising_add s (k, m, partP (mostP (chO s.1 k) m) (lmin (LL.map (rO s))))).2, m, (), (), (), (), (), (), (), (), (), (), ())) := by
    unfold Raising_raise_at_b12
    simp only [e5]
    rfl
  have hpre : Raising_raise_at_b12_p (s, m, (), (), (), (), (), (), (), (), (), (), ()) k ↔ Raising_raise_at_b12_p (s, m, (), (), (), (), (), (), (), (), (), (), ()) k := Iff.rfl
  obtain ⟨ap, s1, ea, A⟩ := add_ok (s := s) (k := k) m (partP (mostP (chO s.1 k) m) (lmin (LL.map (rO s)))) (by rw [C.lots]; exact hk) (by rw [C.hk]; exact hk) (by rw [C.rk]; exact spots_nd)
  have most_lt : m < (chO cs k).2.1 → mostP (chO s.1 k) m = some (chO cs k).2.2.1 := fun h => by
    rw [C.lots]
    unfold mostP
    rw [if_pos (decide_eq_true h)]
  have most_ge : ¬ m < (chO cs k).2.1 → mostP (chO s.1 k) m = (chO cs k).2.2.2 := fun h => by
    rw [C.lots]
    unfold mostP
    rw [decide_eq_false h, if_neg (by decide)]
  have hpreq : Raising_spots_for_pre s (k, m) := spots_for_pre (by rw [C.lots]; exact hk) m
  have pre_of : (∀ b : Bool, b = (shortP (mostP (chO s.1 k) m) (partP (mostP (chO s.1 k) m) (lmin (LL.map (rO s))))) → (b || decide (m = (chO s.1 k).2.1)) = true → Raising_stop_pre s1 (k, m, b)) → Raising_raise_at_b12_p (s, m, (), (), (), (), (), (), (), (), (), (), ()) k := fun hs => by
    unfold Raising_raise_at_b12_p
    simp only [e5]
    refine ⟨⟨trivial, trivial, dget_mem (by rw [C.lots]; exact hk)⟩, ⟨⟨trivial, trivial, trivial⟩, fun _ => trivial, fun _ => trivial⟩, ⟨⟨⟨⟨trivial, trivial⟩, hpreq⟩, fun x hx => ⟨trivial, dget_mem (by
      show x ∈ keysOf s.2.1
      rw [C.rk]
      exact ((mem x).mp hx).1)⟩⟩, ne⟩, ⟨⟨trivial, trivial, trivial⟩, fun _ => trivial, fun h => ⟨⟨trivial, trivial, ?_⟩, trivial⟩⟩, ⟨⟨trivial, trivial, trivial⟩, ap⟩, ⟨⟨trivial, trivial, trivial⟩, fun h => ⟨trivial, ⟨trivial, ?_⟩, trivial⟩⟩, ⟨trivial, fun _ => ⟨trivial, trivial, trivial⟩⟩, fun h => ⟨⟨⟨trivial, trivial, trivial⟩, ?_⟩, trivial⟩, fun _ => trivial⟩
    · revert h
      generalize (if decide (m < ((dget s.1 k).getD default).2.1) = true then some ((dget s.1 k).getD default).2.2.1 else ((dget s.1 k).getD default).2.2.2) = o
      cases o with
      | none => exact fun z => (nomatch z)
      | some _ => exact fun _ => rfl
    · revert h
      generalize (if decide (m < ((dget s.1 k).getD default).2.1) = true then some ((dget s.1 k).getD default).2.2.1 else ((dget s.1 k).getD default).2.2.2) = o
      cases o with
      | none => exact fun z => (nomatch z)
      | some _ => exact fun _ => rfl
    · have := hs _ rfl h
      have ea' : (Raising_add s (k, m, partP (mostP (chO s.1 k) m) (lmin (LL.map (rO s))))).2 = s1 := by rw [ea]
      rw [← ea'] at this
      exact this
  rw [hstep]
  clear hstep hpre
  simp only [ea]
  have hk1 : hO s1 k = hO s k + partP (mostP (chO s.1 k) m) (lmin (LL.map (rO s))) := by rw [A.held, if_pos rfl]
  generalize partP (mostP (chO s.1 k) m) (lmin (LL.map (rO s))) = P at *
  have C1 : Core cs tf (m + 1) s1 := by
    refine C.add X A hk p1 (fun t h1 h2 h3 => Int.le_trans p2 (lo t h1 h2 h3)) (fun t h1 h2 h3 => ⟨by omega, by rw [r1]; exact cst_mono hw h3⟩) (fun t h1 h2 h3 => ?_) (fun t h1 h2 => by omega) (fun y hy => ?_)
    · have h4 : m < (chO cs k).2.1 := by omega
      have := p3 _ (most_lt h4)
      have := cst_add (chO cs k) m 1
      have := cst_mono hw h1
      omega
    · obtain ⟨f, f1, rfl⟩ := mostC_eq.mp hy
      have hf := ok.fine f f1
      by_cases h4 : m < (chO cs k).2.1
      · have := p3 _ (most_lt h4)
        have := cst_add (chO cs k) m 1
        have := cst_mono (ch := chO cs k) hw (t := m + 1) (u := (chO cs k).2.1) (by omega)
        omega
      · have := p3 _ ((most_ge h4).trans f1)
        have : m = (chO cs k).2.1 := by omega
        rw [this] at r1
        omega
  have hg1 : k ∈ s1.2.2.2.1 := by rw [A.going]; exact hg
  have hlt : s1.2.2.2.2.1.length < LIM := by
    have := C1.few
    have := X.ok.few
    omega
  by_cases q : (shortP (mostP (chO s.1 k) m) P || decide (m = (chO s.1 k).2.1)) = true
  · obtain ⟨sp, L, es, hs⟩ := stop_ok (s := s1) (k := k) (m := m) (b := shortP (mostP (chO s.1 k) m) P) hg1 (by rw [C1.lots]; exact hk) hlt fun h => by
      refine ⟨t0, by rw [C1.rk]; exact t3, by rw [C1.lots]; exact t4, t5, ?_⟩
      rw [A.room t0 (by rw [C.rk]; exact t3), C.lots, if_pos ⟨t4, t5⟩, t2, p4 h]
      omega
    refine ⟨pre_of fun b hb h => by rw [hb]; exact sp, (s1.1, s1.2.1, s1.2.2.1, s1.2.2.2.1.erase k, s1.2.2.2.2.1 ++ L, ()), ?_, ?_, ?_, fun j hj => ?_⟩
    · rw [if_pos q, es]
    · refine C1.stop hg1 r2 ?_
      rcases hs with ⟨_, h⟩ | ⟨_, x, h1, h2, h3, h4, h5, h6⟩
      · exact .inl h
      · rw [C1.rk] at h2 h6
        rw [C1.lots] at h3 h6
        exact .inr ⟨x, h1, h2, h3, h4, h5, h6⟩
    · refine R.stop A C.nd ?_
      rcases hs with ⟨h, _⟩ | ⟨_, x, h1, _⟩
      · left
        rw [h, Bool.false_or, decide_eq_true_eq, C.lots] at q
        have h3 := p5 h
        rw [most_ge (by omega)] at h3
        rw [mostC_eq]
        exact ⟨P, h3, by rw [hk1, r1, ← q]⟩
      · right
        refine ⟨(m, k, x), List.mem_append_right _ (by rw [h1]; exact List.mem_cons_self), rfl, ?_⟩
        show cst (chO cs k) m ≤ hO s1 k
        omega
    · show j ∈ s1.2.2.2.1.erase k
      rw [A.going]
      exact C.nd.mem_erase_iff.mpr ⟨by rintro rfl; exact hn hj, hp j hj⟩
  · have q1 : shortP (mostP (chO s.1 k) m) P = false ∧ ¬ m = (chO cs k).2.1 := by
      rw [Bool.or_eq_true, not_or, decide_eq_true_eq, C.lots] at q
      exact ⟨by rw [C.lots]; simpa using q.1, q.2⟩
    refine ⟨pre_of fun b hb h => absurd (by rw [← hb]; exact h) q, s1, by rw [if_neg q], C1, ?_, fun j hj => by rw [A.going]; exact hp j hj⟩
    have h3 := p5 q1.1
    rw [most_lt (by omega)] at h3
    have h3 := Option.some.inj h3
    refine R.go A hn hg hb ?_ (by omega)
    have := cst_add (chO cs k) m 1
    omega
end LawK
end
section
set_option linter.all false
namespace LawK
open Lmo Plain
theorem raise_loop {cs : Charges} {tf : Tariff} (X : RX cs tf) {m : Int} : ∀ (l : List Int) (s : Raising_F), l.Nodup → (∀ j ∈ l, j ∈ s.2.2.2.1 ∧ (chO cs j).1 ≤ m) → Core cs tf (m + 1) s → Run cs m (m + 1) l s →
    forP Raising_raise_at_b12 Raising_raise_at_b12_p l (s, m, (), (), (), (), (), (), (), (), (), (), ()) ∧ ∃ s', forL Raising_raise_at_b12 l (s, m, (), (), (), (), (), (), (), (), (), (), ()) = .nx (s', m, (), (), (), (), (), (), (), (), (), (), ()) ∧ Core cs tf (m + 1) s' ∧ Run cs m (m + 1) [] s'
  | [], s, _, _, C, R => ⟨trivial, s, rfl, C, R⟩
  | k :: l, s, hn, hs, C, R => by
    obtain ⟨n1, n2⟩ := List.nodup_cons.mp hn
    obtain ⟨g1, g2⟩ := hs k List.mem_cons_self
    obtain ⟨p, s1, e, C1, R1, hp⟩ := raise_step X C R g1 n1 (fun j hj => (hs j (List.mem_cons_of_mem _ hj)).1) g2
    obtain ⟨p', s2, e', C2, R2⟩ := raise_loop X l s1 n2 (fun j hj => ⟨hp j hj, (hs j (List.mem_cons_of_mem _ hj)).2⟩) C1 R1
    refine ⟨⟨p, fun z hz => ?_⟩, s2, by rw [forL_nx e]; exact e', C2, R2⟩
    rw [e] at hz
    cases hz
    exact p'
theorem raise_at_ok {cs : Charges} {tf : Tariff} (X : RX cs tf) {m : Int} {s : Raising_F} (C : Core cs tf m s) (R : Run cs m m [] s) : Raising_raise_at_pre s m ∧ ∃ s', Raising_raise_at s m = ((), s') ∧ Core cs tf (m + 1) s' ∧ Run cs m (m + 1) [] s' := by
  have mem : ∀ j, j ∈ (s.2.2.2.1.filter fun x1 => decide (((dget s.1 x1).getD default).1 ≤ m)) ↔ j ∈ s.2.2.2.1 ∧ (chO cs j).1 ≤ m := fun j => by
    rw [List.mem_filter, decide_eq_true_eq, C.lots]
    rfl
  obtain ⟨p, s', e, C', R'⟩ := raise_loop X (s.2.2.2.1.filter fun x1 => decide (((dget s.1 x1).getD default).1 ≤ m)) s (C.nd.filter _) (fun j hj => (mem j).mp hj) (C.up (by omega)) ⟨R.wait_, fun j hj hb _ => R.run1 j hj hb (fun z => nomatch z), fun j hj hb hn => absurd ((mem j).mpr ⟨hj, hb⟩) hn, R.done⟩
  constructor
  · unfold Raising_raise_at_pre
    rw [List.map_id']
    exact ⟨⟨trivial, fun j hj => ⟨⟨⟨trivial, trivial, dget_mem (by rw [C.lots]; exact C.gk j hj)⟩, trivial, trivial⟩, fun _ => trivial⟩⟩, p⟩
  · refine ⟨s', ?_, C', R'⟩
    unfold Raising_raise_at Raising_raise_at_o
    rw [List.map_id', e]
    rfl
/-- by how much the offers at a spot rise each moment -/
def rateL (cs : Charges) (run : List Int) (t : Int) : Int := ((run.filter fun k => decide ((chO cs k).1 ≤ t)).map fun k => (chO cs k).2.2.1).sum
theorem RX.wait0 {cs : Charges} {tf : Tariff} (X : RX cs tf) (k : Int) : 0 ≤ (chO cs k).2.2.1 := by
  by_cases h : k ∈ keysOf cs
  · exact (X.waits h).1
  · unfold chO
    rw [dget_none.mpr h]
    decide
theorem RX.rates {cs : Charges} {tf : Tariff} (X : RX cs tf) {run : List Int} (hn : run.Nodup) (hs : ∀ k ∈ run, k ∈ keysOf cs) (t : Int) : 0 ≤ rateL cs run t ∧ rateL cs run t < 1073741824 := by
  refine ⟨sum_pos fun k _ => X.wait0 k, ?_⟩
  have h := sum_sub (price := fun k => (chO cs k).2.2.1) X.wait0 (U := run.filter fun k => decide ((chO cs k).1 ≤ t)) (L := keysOf cs) (hn.filter _) fun k hk => hs k (List.mem_filter.mp hk).1
  have e : ((keysOf cs).map fun k => (chO cs k).2.2.1) = cs.map fun x => x.2.2.2.1 := by
    have := congrArg (List.map fun ch : Charge => ch.2.2.1) X.vals
    unfold valsOf at this
    rw [List.map_map, List.map_map] at this
    exact this.symm
  rw [e] at h
  have := X.rate
  unfold rateL
  omega
theorem rateL_cons {cs : Charges} {k : Int} {l : List Int} {t : Int} : rateL cs (k :: l) t = (if (chO cs k).1 ≤ t then (chO cs k).2.2.1 else 0) + rateL cs l t := by
  unfold rateL
  rw [List.filter_cons]
  by_cases h : (chO cs k).1 ≤ t
  · rw [if_pos (decide_eq_true h), if_pos h]
    rfl
  · rw [if_neg (by simpa using h), if_neg h]
    omega
theorem count_loop {s : Raising_F} {m : Int} {run l8 : List Int} (hrun : ∀ k ∈ run, k ∈ keysOf s.1) (hr : ∀ t, 0 ≤ rateL s.1 run t ∧ rateL s.1 run t < 1073741824) : ∀ (l : List Int) (c : Int), 0 ≤ c → (∀ t ∈ l, t ∈ keysOf s.2.1 ∧ 0 ≤ rO s t) →
    forP Raising_far_b15 Raising_far_b15_p l (s, m, (), run, l8, (), (), c, (), ()) ∧ ∃ c', forL Raising_far_b15 l (s, m, (), run, l8, (), (), c, (), ()) = .nx (s, m, (), run, l8, (), (), c', (), ()) ∧ 0 ≤ c' ∧ c' ≤ c ∧ ∀ t ∈ l, c' * rateL s.1 run t ≤ rO s t
  | [], c, h0, _ => ⟨trivial, c, rfl, h0, Int.le_refl _, fun t h => nomatch h⟩
  | t :: l, c, h0, hl => by
    obtain ⟨t1, t2⟩ := hl t List.mem_cons_self
    obtain ⟨r1, r2⟩ := hr t
    have hx : ∀ x12 ∈ run, ((True ∧ True ∧ ((dget s.1 x12).isSome = true)) ∧ True ∧ True) ∧ (decide (((dget s.1 x12).getD default).1 ≤ t) = true → (True ∧ True ∧ ((dget s.1 x12).isSome = true))) := fun k hk => ⟨⟨⟨trivial, trivial, dget_mem (hrun k hk)⟩, trivial, trivial⟩, fun _ => ⟨trivial, trivial, dget_mem (hrun k hk)⟩⟩
    have hp : Raising_far_b15_p (s, m, (), run, l8, (), (), c, (), ()) t := by
      unfold Raising_far_b15_p
      exact ⟨⟨⟨trivial, hx⟩, trivial⟩, ⟨trivial, trivial, trivial⟩, fun h => ⟨⟨⟨trivial, ⟨trivial, dget_mem t1⟩, trivial, ⟨of_decide_eq_true h, r2⟩⟩, trivial⟩, trivial⟩, fun _ => trivial⟩
    by_cases q : 0 < rateL s.1 run t
    · have hb : Raising_far_b15 (s, m, (), run, l8, (), (), c, (), ()) t = .nx (s, m, (), run, l8, (), (), min2 c (rO s t / rateL s.1 run t), (), ()) := by
        unfold Raising_far_b15
        exact if_pos (decide_eq_true q)
      have d0 : 0 ≤ rO s t / rateL s.1 run t := Int.ediv_nonneg t2 r1
      have m1 : 0 ≤ min2 c (rO s t / rateL s.1 run t) ∧ min2 c (rO s t / rateL s.1 run t) ≤ c ∧ min2 c (rO s t / rateL s.1 run t) ≤ rO s t / rateL s.1 run t := by
        unfold min2
        split <;> omega
      obtain ⟨p, c', e, e1, e2, e3⟩ := count_loop hrun hr l (min2 c (rO s t / rateL s.1 run t)) m1.1 fun u hu => hl u (List.mem_cons_of_mem _ hu)
      refine ⟨⟨hp, fun z hz => ?_⟩, c', by rw [forL_nx hb]; exact e, e1, by omega, fun u hu => ?_⟩
      · rw [hb] at hz
        cases hz
        exact p
      · rcases List.mem_cons.mp hu with rfl | hu
        · have := Int.mul_le_mul_of_nonneg_right (show c' ≤ rO s u / rateL s.1 run u by omega) r1
          have := Int.ediv_mul_le (rO s u) (show rateL s.1 run u ≠ 0 by omega)
          omega
        · exact e3 u hu
    · have hb : Raising_far_b15 (s, m, (), run, l8, (), (), c, (), ()) t = .nx (s, m, (), run, l8, (), (), c, (), ()) := by
        unfold Raising_far_b15
        exact if_neg (by rw [decide_eq_true_eq]; exact q)
      obtain ⟨p, c', e, e1, e2, e3⟩ := count_loop hrun hr l c h0 fun u hu => hl u (List.mem_cons_of_mem _ hu)
      refine ⟨⟨hp, fun z hz => ?_⟩, c', by rw [forL_nx hb]; exact e, e1, e2, fun u hu => ?_⟩
      · rw [hb] at hz
        cases hz
        exact p
      · rcases List.mem_cons.mp hu with rfl | hu
        · rw [show rateL s.1 run u = 0 by omega, Int.mul_zero]
          exact t2
        · exact e3 u hu
theorem far_loop {cs : Charges} {tf : Tariff} (X : RX cs tf) {m n : Int} (n0 : 0 ≤ n) (gap : ∀ t ∈ spotsOf cs tf, m < t → m + 1 + n ≤ t) {run0 l8 : List Int} : ∀ (l : List Int) (s : Raising_F), l.Nodup → (∀ j ∈ l, j ∈ s.2.2.2.1 ∧ (chO cs j).1 ≤ m ∧ m + 1 + n ≤ (chO cs j).2.1) →
    Core cs tf (m + 1 + n) s → Run cs (m + 1) (m + 1 + n) l s → (∀ t ∈ spotsOf cs tf, t ≤ m → n * rateL cs l t ≤ rO s t) →
    forP Raising_far_b19 Raising_far_b19_p l (s, m, (), run0, l8, (), (), n, (), ()) ∧ ∃ s', forL Raising_far_b19 l (s, m, (), run0, l8, (), (), n, (), ()) = .nx (s', m, (), run0, l8, (), (), n, (), ()) ∧ Core cs tf (m + 1 + n) s' ∧ Run cs (m + 1) (m + 1 + n) [] s'
  | [], s, _, _, C, R, _ => ⟨trivial, s, rfl, C, R⟩
  | k :: l, s, hn, hs, C, R, hr => by
    obtain ⟨n1, n2⟩ := List.nodup_cons.mp hn
    obtain ⟨g1, g2, g3⟩ := hs k List.mem_cons_self
    have hk := C.gk k g1
    have ok := X.chok hk
    have hw := ok.wait
    obtain ⟨w1, w2⟩ := X.waits hk
    obtain ⟨r1, r2⟩ := R.run0 k g1 (by omega) List.mem_cons_self
    have p0 : 0 ≤ n * (chO cs k).2.2.1 := Int.mul_nonneg n0 hw
    obtain ⟨ap, s1, ea, A⟩ := add_ok (s := s) (k := k) m (n * (chO cs k).2.2.1) (by rw [C.lots]; exact hk) (by rw [C.hk]; exact hk) (by rw [C.rk]; exact spots_nd)
    have hb : Raising_far_b19 (s, m, (), run0, l8, (), (), n, (), ()) k = .nx (s1, m, (), run0, l8, (), (), n, (), ()) := by
      have : Raising_far_b19 (s, m, (), run0, l8, (), (), n, (), ()) k = .nx ((Raising_add s (k, m, n * (chO s.1 k).2.2.1)).2, m, (), run0, l8, (), (), n, (), ()) := rfl
      rw [this, C.lots, ea]
    have hp : Raising_far_b19_p (s, m, (), run0, l8, (), (), n, (), ()) k := by
      have : Raising_far_b19_p (s, m, (), run0, l8, (), (), n, (), ()) k = (((True ∧ (True ∧ (True ∧ (True ∧ True ∧ ((dget s.1 k).isSome = true)) ∧ (L2.CMul n (chO s.1 k).2.2.1)))) ∧ (Raising_add_pre s (k, m, n * (chO s.1 k).2.2.1))) ∧ True) := rfl
      rw [this, C.lots]
      exact ⟨⟨⟨trivial, trivial, trivial, ⟨trivial, trivial, dget_mem hk⟩, .inr ⟨by omega, by omega⟩⟩, ap⟩, trivial⟩
    have rpos : ∀ t, 0 ≤ n * rateL cs l t := fun t => Int.mul_nonneg n0 (sum_pos fun k _ => X.wait0 k)
    have rc : ∀ t, n * rateL cs (k :: l) t = (if (chO cs k).1 ≤ t then n * (chO cs k).2.2.1 else 0) + n * rateL cs l t := fun t => by
      rw [rateL_cons, Int.mul_add]
      split
      · rfl
      · rw [Int.mul_zero]
    have hadd := cst_add (chO cs k) (m + 1) n
    have C1 : Core cs tf (m + 1 + n) s1 := by
      refine C.add X A hk p0 (fun t h1 h2 h3 => ?_) (fun t h1 h2 h3 => ⟨by omega, by rw [r1]; exact cst_mono hw (by omega)⟩) (fun t h1 h2 h3 => ?_) gap (fun y hy => ?_)
      · have := hr t h1 h3
        rw [rc, if_pos h2] at this
        have := rpos t
        omega
      · have := cst_mono hw h1
        omega
      · obtain ⟨f, f1, rfl⟩ := mostC_eq.mp hy
        have := ok.fine f f1
        have := cst_mono hw g3
        omega
    have hsub : ∀ j ∈ l, j ∈ s1.2.2.2.1 ∧ (chO cs j).1 ≤ m ∧ m + 1 + n ≤ (chO cs j).2.1 := fun j hj => by
      rw [A.going]
      exact hs j (List.mem_cons_of_mem _ hj)
    obtain ⟨p', s2, e', C2, R2⟩ := far_loop X n0 gap (run0 := run0) (l8 := l8) l s1 n2 hsub C1 (R.go A n1 g1 (by omega) (by omega) g3) fun t h1 h2 => by
      have := hr t h1 h2
      rw [rc] at this
      rw [A.room t (by rw [C.rk]; exact h1), C.lots]
      by_cases q : (chO cs k).1 ≤ t
      · rw [if_pos q] at this
        rw [if_pos ⟨q, h2⟩]
        omega
      · rw [if_neg q] at this
        rw [if_neg fun z => q z.1]
        omega
    refine ⟨⟨hp, fun z hz => ?_⟩, s2, by rw [forL_nx hb]; exact e', C2, R2⟩
    rw [hb] at hz
    cases hz
    exact p'
theorem far_ok {cs : Charges} {tf : Tariff} (X : RX cs tf) {m : Int} {s : Raising_F} (C : Core cs tf (m + 1) s) (R : Run cs m (m + 1) [] s) : Raising_far_pre s m ∧ ∃ u s', Raising_far s m = (u, s') ∧ m < u ∧ Core cs tf u s' ∧ Run cs u u [] s' := by
  have hL : (LIM : Nat) = 1000000 := rfl
  have memR : ∀ j, j ∈ (s.2.2.2.1.filter fun x1 => decide (((dget s.1 x1).getD default).1 ≤ m)) ↔ j ∈ s.2.2.2.1 ∧ (chO cs j).1 ≤ m := fun j => by
    rw [List.mem_filter, decide_eq_true_eq, C.lots]
    rfl
  have ndR : (s.2.2.2.1.filter fun x1 => decide (((dget s.1 x1).getD default).1 ≤ m)).Nodup := C.nd.filter _
  have lenR : (s.2.2.2.1.filter fun x1 => decide (((dget s.1 x1).getD default).1 ≤ m)).length ≤ cs.length := by
    have := List.length_filter_le (fun x1 => decide (((dget s.1 x1).getD default).1 ≤ m)) s.2.2.2.1
    have := C.few
    omega
  have memS : ∀ t, t ∈ ((keysOf s.2.1).filter fun x10 => decide (x10 ≤ m)) ↔ t ∈ spotsOf cs tf ∧ t ≤ m := fun t => by
    rw [List.mem_filter, decide_eq_true_eq, C.rk]
  have lenS : (keysOf s.2.1).length ≤ cs.length + tf.length := by
    rw [C.rk]
    exact spots_len
  have few := X.ok.few
  have l8def : ∀ run : List Int, (∀ j, j ∈ run ↔ j ∈ s.2.2.2.1 ∧ (chO cs j).1 ≤ m) → ∃ c : Int, ((((lminO ((run.map fun x3 => ((dget s.1 x3).getD default).2.1) ++ (((s.1.map fun x => x.2).filter fun x5 => decide (m < x5.1)).map fun x5 => x5.1) ++ ((keysOf s.2.1).filter fun x7 => decide (m < x7)))).getD (m + 1)) - m) - 1) = c ∧
      0 ≤ c ∧ (∀ k ∈ run, m + 1 + c ≤ (chO cs k).2.1) ∧ (∀ k ∈ keysOf cs, m < (chO cs k).1 → m + 1 + c ≤ (chO cs k).1) ∧ (∀ t ∈ spotsOf cs tf, m < t → m + 1 + c ≤ t) := fun run hrun => by
    have mem : ∀ y, y ∈ ((run.map fun x3 => ((dget s.1 x3).getD default).2.1) ++ (((s.1.map fun x => x.2).filter fun x5 => decide (m < x5.1)).map fun x5 => x5.1) ++ ((keysOf s.2.1).filter fun x7 => decide (m < x7))) ↔ (∃ k ∈ run, (chO cs k).2.1 = y) ∨ (∃ k ∈ keysOf cs, m < (chO cs k).1 ∧ (chO cs k).1 = y) ∨ (y ∈ spotsOf cs tf ∧ m < y) := fun y => by
      rw [List.mem_append, List.mem_append, List.mem_map, List.mem_map, List.mem_filter, C.rk, decide_eq_true_eq, or_assoc]
      have v : s.1.map (fun x => x.2) = (keysOf cs).map (chO cs) := by
        rw [C.lots]
        exact X.vals
      rw [v]
      constructor
      · rintro (⟨k, h1, h2⟩ | ⟨ch, h1, h2⟩ | h)
        · exact .inl ⟨k, h1, by rw [← h2, C.lots]; rfl⟩
        · obtain ⟨h3, h4⟩ := List.mem_filter.mp h1
          obtain ⟨k, k1, rfl⟩ := List.mem_map.mp h3
          exact .inr (.inl ⟨k, k1, of_decide_eq_true h4, h2⟩)
        · exact .inr (.inr h)
      · rintro (⟨k, h1, h2⟩ | ⟨k, h1, h2, h3⟩ | h)
        · exact .inl ⟨k, h1, by rw [← h2, C.lots]; rfl⟩
        · exact .inr (.inl ⟨_, List.mem_filter.mpr ⟨List.mem_map.mpr ⟨k, h1, rfl⟩, decide_eq_true h2⟩, h3⟩)
        · exact .inr (.inr h)
    generalize ((run.map fun x3 => ((dget s.1 x3).getD default).2.1) ++ (((s.1.map fun x => x.2).filter fun x5 => decide (m < x5.1)).map fun x5 => x5.1) ++ ((keysOf s.2.1).filter fun x7 => decide (m < x7))) = L at mem
    have low : ∀ y ∈ L, ((((lminO L).getD (m + 1)) - m) - 1) ≤ y - m - 1 := fun y hy => by
      obtain ⟨w, w1, w2⟩ := lminO_mem hy
      rw [w1, Option.getD_some]
      omega
    refine ⟨_, rfl, ?_, fun k hk => ?_, fun k hk hb => ?_, fun t ht hm => ?_⟩
    · cases e : lminO L with
      | none =>
        rw [Option.getD_none]
        omega
      | some w =>
        rw [Option.getD_some]
        rcases (mem w).mp (lminO_got e) with ⟨k, k1, rfl⟩ | ⟨k, k1, k2, rfl⟩ | ⟨k1, k2⟩
        · obtain ⟨a1, a2⟩ := (hrun k).mp k1
          have := (R.run1 k a1 a2 (fun z => nomatch z)).2
          omega
        · omega
        · omega
    · have := low _ ((mem _).mpr (.inl ⟨k, hk, rfl⟩))
      omega
    · have := low _ ((mem _).mpr (.inr (.inl ⟨k, hk, hb, rfl⟩)))
      omega
    · have := low _ ((mem _).mpr (.inr (.inr ⟨ht, hm⟩)))
      omega
  obtain ⟨c, ec, c0, cE, cB, cS⟩ := l8def _ memR
  have hkR : ∀ k ∈ (s.2.2.2.1.filter fun x1 => decide (((dget s.1 x1).getD default).1 ≤ m)), k ∈ keysOf cs := fun k hk => C.gk k ((memR k).mp hk).1
  have hrate := X.rates ndR hkR
  have lenB : (((s.1.map fun x => x.2).filter fun x5 => decide (m < x5.1)).map fun x5 => x5.1).length ≤ cs.length := by
    rw [List.length_map]
    have := List.length_filter_le (fun x5 : Charge => decide (m < x5.1)) (s.1.map fun x => x.2)
    rw [List.length_map, C.lots] at this
    rw [C.lots]
    exact this
  have lenT : ((keysOf s.2.1).filter fun x7 => decide (m < x7)).length ≤ cs.length + tf.length := by
    have := List.length_filter_le (fun x7 => decide (m < x7)) (keysOf s.2.1)
    omega
  obtain ⟨q1, n, q2, n0, n1, q3⟩ := count_loop (s := s) (m := m) (run := (s.2.2.2.1.filter fun x1 => decide (((dget s.1 x1).getD default).1 ≤ m))) (l8 := (((s.2.2.2.1.filter fun x1 => decide (((dget s.1 x1).getD default).1 ≤ m)).map fun x3 => ((dget s.1 x3).getD default).2.1) ++ (((s.1.map fun x => x.2).filter fun x5 => decide (m < x5.1)).map fun x5 => x5.1) ++ ((keysOf s.2.1).filter fun x7 => decide (m < x7))))
    (fun k hk => by rw [C.lots]; exact hkR k hk) (fun t => by
      have := hrate t
      rw [← C.lots] at this
      exact this) ((keysOf s.2.1).filter fun x10 => decide (x10 ≤ m)) c c0 fun t ht => by
      obtain ⟨t1, t2⟩ := (memS t).mp ht
      exact ⟨by rw [C.rk]; exact t1, C.pos t t1⟩
  have R0 : Run cs (m + 1) (m + 1 + n) (s.2.2.2.1.filter fun x1 => decide (((dget s.1 x1).getD default).1 ≤ m)) s := by
    refine ⟨fun j hj hb => R.wait_ j hj (by omega), fun j hj hb hp => R.run1 j hj ((memR j).mp hp).2 (fun z => nomatch z), fun j hj hb hp => ?_, R.done⟩
    have h1 : m < (chO cs j).1 := by
      apply Decidable.byContradiction
      intro z
      exact hp ((memR j).mpr ⟨hj, by omega⟩)
    have h2 := cB j (C.gk j hj) h1
    have e1 : m + 1 + n = (chO cs j).1 := by omega
    rw [e1, R.wait_ j hj h1, cst_at]
    exact ⟨rfl, (X.chok (C.gk j hj)).be⟩
  obtain ⟨q4, s', q5, C2, R2⟩ := far_loop X n0 (fun t ht hm => by have := cS t ht hm; omega) (run0 := (s.2.2.2.1.filter fun x1 => decide (((dget s.1 x1).getD default).1 ≤ m))) (l8 := (((s.2.2.2.1.filter fun x1 => decide (((dget s.1 x1).getD default).1 ≤ m)).map fun x3 => ((dget s.1 x3).getD default).2.1) ++ (((s.1.map fun x => x.2).filter fun x5 => decide (m < x5.1)).map fun x5 => x5.1) ++ ((keysOf s.2.1).filter fun x7 => decide (m < x7)))) _ s ndR (fun j hj => by
      obtain ⟨a1, a2⟩ := (memR j).mp hj
      have := cE j hj
      exact ⟨a1, a2, by omega⟩) (C.up (by omega)) R0 fun t h1 h2 => by
      have := q3 t ((memS t).mpr ⟨h1, h2⟩)
      rw [C.lots] at this ⊢
      exact this
  constructor
  · unfold Raising_far_pre
    simp only [List.map_id']
    refine ⟨⟨trivial, fun j hj => ⟨⟨⟨trivial, trivial, dget_mem (by rw [C.lots]; exact C.gk j hj)⟩, trivial, trivial⟩, fun _ => trivial⟩⟩, ⟨trivial, fun j hj => ⟨trivial, trivial, dget_mem (by rw [C.lots]; exact hkR j hj)⟩⟩, ⟨⟨trivial, fun _ _ => ⟨⟨trivial, trivial, trivial⟩, fun _ => trivial⟩⟩, ?_⟩, ⟨⟨trivial, fun _ _ => ⟨⟨trivial, trivial, trivial⟩, fun _ => trivial⟩⟩, ?_⟩, ⟨⟨⟨trivial, trivial, trivial, trivial⟩, trivial, trivial⟩, trivial, trivial⟩, ⟨⟨trivial, fun _ _ => ⟨⟨trivial, trivial, trivial⟩, fun _ => trivial⟩⟩, ?_⟩, fun e16 h16 => ⟨⟨trivial, ?_⟩, fun _ _ => ⟨⟨trivial, trivial, trivial⟩, trivial, trivial⟩⟩⟩
    · rw [List.length_map]
      omega
    · rw [List.length_append, List.length_map]
      have lenT : (((s.2.1.map fun x : Int × Int => x.1)).filter fun x7 => decide (m < x7)).length ≤ cs.length + tf.length := lenT
      omega
    · rw [← ec] at q1
      exact q1
    · rw [← ec] at q2
      have h16 := q2.symm.trans h16
      cases h16
      exact q4
  · refine ⟨m + 1 + n, s', ?_, by omega, C2, ⟨fun j hj hb => R2.wait_ j hj (by omega), fun j hj hb hp => (nomatch hp), fun j hj hb hp => ?_, R2.done⟩⟩
    · unfold Raising_far Raising_far_o
      simp only [List.map_id']
      rw [← ec] at q2
      have q2' := q2
      simp only [keysOf] at q2' q5
      rw [q2']
      simp only [Out.bind]
      rw [q5]
      simp only [Out.get]
      rw [show m + n + 1 = m + 1 + n by omega]
    · by_cases h : (chO cs j).1 ≤ m + 1
      · exact R2.run1 j hj h (fun z => nomatch z)
      · have h2 := cB j (C2.gk j hj) (by omega)
        have e1 : m + 1 + n = (chO cs j).1 := by omega
        rw [e1, R2.wait_ j hj (by omega), cst_at]
        exact ⟨rfl, (X.chok (C2.gk j hj)).be⟩
end LawK
end
section
set_option linter.all false
namespace LawK
open Lmo Plain
theorem dget_pairs {β : Type} {f : Int → β} : ∀ {L : List Int} {k : Int}, k ∈ L → dget (L.map fun x => (x, f x)) k = some (f k)
  | x :: L, k, h => by
    rw [List.map_cons]
    unfold dget
    by_cases e : x = k
    · rw [if_pos e, e]
    · rw [if_neg e]
      rcases List.mem_cons.mp h with h | h
      · exact absurd h.symm e
      · exact dget_pairs h
theorem keys_pairs {β : Type} {f : Int → β} (L : List Int) : keysOf (L.map fun x => (x, f x)) = L := by
  unfold keysOf
  rw [List.map_map]
  exact List.map_id' L
theorem max2_eq (i j : Int) : max2 i j = max i j := by
  unfold max2
  omega
theorem Ok.nat {cs : Charges} {tf : Tariff} (X : Ok cs tf) {t : Int} (h : t ∈ spotsOf cs tf) : 0 ≤ t := by
  obtain ⟨j, hj, rfl⟩ := List.mem_iff_getElem.mp h
  have := X.spots.nat j hj
  rw [spO_get hj] at this
  omega
def sumEnds (cs : Charges) : Nat := (cs.map fun x => x.2.2.1.toNat).sum
theorem end_le {cs : Charges} {x : Int × Charge} (h : x ∈ cs) : x.2.2.1 ≤ (sumEnds cs : Int) := by
  have : x.2.2.1.toNat ≤ sumEnds cs := by
    unfold sumEnds
    induction cs with
    | nil => cases h
    | cons y cs ih =>
      rw [List.map_cons, List.sum_cons]
      rcases List.mem_cons.mp h with rfl | h
      · omega
      · have := ih h
        omega
  omega
theorem init_loop {cs : Charges} {tf : Tariff} (X : RX cs tf) : ∀ (n : Nat) (s : Raising_F) (m : Int), Core cs tf m s → Run cs m m [] s → ((sumEnds cs : Int) + 1 - m).toNat < n →
    ∃ s' m', whL Raising_init_w9_c Raising_init_w9_g Raising_init_w9 n (s, cs, tf, (), (), m, ()) = .nx (s', cs, tf, (), (), m', ()) ∧ Core cs tf m' s' ∧ Run cs m' m' [] s' ∧ s'.2.2.2.1 = [] ∧
      whP Raising_init_w9_c Raising_init_w9_g Raising_init_w9 Raising_init_w9_q Raising_init_w9_p n (s, cs, tf, (), (), m, ())
  | 0, _, _, _, _, h => absurd h (Nat.not_lt_zero _)
  | n + 1, s, m, C, R, h => by
    by_cases q : s.2.2.2.1 = []
    · have hc : Raising_init_w9_c (s, cs, tf, (), (), m, ()) = false := by
        unfold Raising_init_w9_c
        simp only [q, decide_true, Bool.not_true]
      refine ⟨s, m, ?_, C, R, q, ⟨trivial, trivial, trivial⟩, fun z => ?_⟩
      · rw [whL_succ, hc, if_neg (by decide)]
        rfl
      · rw [hc] at z
        cases z
    · have hc : Raising_init_w9_c (s, cs, tf, (), (), m, ()) = true := by
        unfold Raising_init_w9_c
        simp only [decide_eq_false q, Bool.not_false]
      have ne : (s.2.2.2.1.map fun x10 => ((dget s.1 x10).getD default).1) ≠ [] := fun z => q (List.map_eq_nil_iff.mp z)
      obtain ⟨k, k1, k2⟩ := List.mem_map.mp (lmin_mem ne)
      have k2 : (chO cs k).1 = lmin (s.2.2.2.1.map fun x10 => ((dget s.1 x10).getD default).1) := by
        rw [← k2, C.lots]
        rfl
      have low : ∀ j ∈ s.2.2.2.1, lmin (s.2.2.2.1.map fun x10 => ((dget s.1 x10).getD default).1) ≤ (chO cs j).1 := fun j hj => lmin_le (List.mem_map.mpr ⟨j, hj, by rw [C.lots]; rfl⟩)
      generalize hm1 : max2 m (lmin (s.2.2.2.1.map fun x10 => ((dget s.1 x10).getD default).1)) = m1
      have hm1' := hm1
      rw [max2_eq] at hm1'
      have R1 : Run cs m1 m1 [] s := by
        refine ⟨fun j hj hb => R.wait_ j hj (by omega), fun j hj hb hp => (nomatch hp), fun j hj hb hp => ?_, R.done⟩
        by_cases hb0 : (chO cs j).1 ≤ m
        · have := low j hj
          have e : m1 = m := by omega
          rw [e]
          exact R.run1 j hj hb0 (fun z => nomatch z)
        · have := low j hj
          have e : m1 = (chO cs j).1 := by omega
          rw [e, R.wait_ j hj (by omega), cst_at]
          exact ⟨rfl, (X.chok (C.gk j hj)).be⟩
      have le : m1 ≤ (sumEnds cs : Int) := by
        have h1 := (R1.run1 k k1 (by omega) (fun z => nomatch z)).2
        obtain ⟨x, x1, x2, x3⟩ := X.at_ (C.gk k k1)
        have := end_le x1
        rw [x3] at h1
        omega
      obtain ⟨p1, s1, e1, C1, R1'⟩ := raise_at_ok X (C.up (by omega : m ≤ m1)) R1
      obtain ⟨p2, u, s2, e2, u1, C2, R2⟩ := far_ok X C1 R1'
      have hb : Raising_init_w9 (s, cs, tf, (), (), m, ()) = .nx (s2, cs, tf, (), (), u, ()) := by
        unfold Raising_init_w9
        simp only [hm1, e1, e2]
      have hp : Raising_init_w9_p (s, cs, tf, (), (), m, ()) := by
        unfold Raising_init_w9_p
        simp only [hm1, e1, e2]
        exact ⟨⟨⟨trivial, ⟨trivial, fun j hj => ⟨trivial, trivial, dget_mem (by rw [C.lots]; exact C.gk j hj)⟩⟩, ne⟩, trivial⟩, ⟨trivial, p1⟩, ⟨trivial, p2⟩, trivial⟩
      obtain ⟨s', m', e3, C3, R3, g3, q3⟩ := init_loop X n s2 u C2 R2 (by omega)
      refine ⟨s', m', ?_, C3, R3, g3, ⟨trivial, trivial, trivial⟩, fun _ => ⟨hp, fun e' he => ?_⟩⟩
      · rw [whL_succ, hc, if_pos rfl, show Raising_init_w9_g (s, cs, tf, (), (), m, ()) = (s, cs, tf, (), (), m, ()) from rfl, hb]
        exact e3
      · have he : Raising_init_w9 (s, cs, tf, (), (), m, ()) = .nx e' := he
        rw [hb] at he
        cases he
        exact q3
/-- the raising as a whole -/
theorem raising_ok {cs : Charges} {tf : Tariff} (X : RX cs tf) : Raising_init_pre Raising_0 (cs, tf) ∧ ∃ s m, Raising_init Raising_0 (cs, tf) = ((), s) ∧ Core cs tf m s ∧ Run cs m m [] s ∧ s.2.2.2.1 = [] := by
  have hL : (LIM : Nat) = 1000000 := rfl
  have few := X.ok.few
  have perm := srt_perm (keysOf cs)
  have h0 : ∀ k ∈ keysOf cs, hO (cs, (spotsOf cs tf).map fun x => (x, price_at (tf, x)), (keysOf cs).map fun x => (x, (0 : Int)), srt (keysOf cs), [], ()) k = 0 := fun k hk => by
    show (dget ((keysOf cs).map fun x => (x, (0 : Int))) k).getD default = 0
    rw [dget_pairs hk]
    rfl
  have r0 : ∀ t ∈ spotsOf cs tf, rO (cs, (spotsOf cs tf).map fun x => (x, price_at (tf, x)), (keysOf cs).map fun x => (x, (0 : Int)), srt (keysOf cs), [], ()) t = prO tf t := fun t ht => by
    show (dget ((spotsOf cs tf).map fun x => (x, price_at (tf, x))) t).getD default = _
    rw [dget_pairs ht]
    rfl
  have cpos : ∀ k ∈ keysOf cs, ∀ t, (chO cs k).1 ≤ t → 0 ≤ cst (chO cs k) t := fun k hk t ht => by
    have := cst_mono (X.chok hk).wait ht
    rw [cst_at] at this
    exact this
  have C : Core cs tf 0 (cs, (spotsOf cs tf).map fun x => (x, price_at (tf, x)), (keysOf cs).map fun x => (x, (0 : Int)), srt (keysOf cs), [], ()) := by
    refine ⟨rfl, keys_pairs _, keys_pairs _, fun t ht => ?_, fun t ht => by rw [r0 t ht]; exact X.ok.price t, fun k hk => by rw [h0 k hk]; exact Int.le_refl _, fun k hk y hy => ?_, perm.nodup_iff.mpr X.nd, fun k hk => perm.mem_iff.mp hk, ?_, fun k hk t h1 h2 h3 => ?_, fun x hx => (nomatch hx), List.Pairwise.nil, fun x hx => (nomatch hx)⟩
    · rw [r0 t ht, sum_zero fun k hk => ?_]
      · omega
      · rw [h0 k hk]
        exact offC_zero fun h1 _ => cpos k hk t h1
    · rw [h0 k hk]
      obtain ⟨f, f1, rfl⟩ := mostC_eq.mp hy
      have := (X.chok hk).fine f f1
      have := cpos k hk _ (X.chok hk).be
      omega
    · show 0 + (srt (keysOf cs)).length ≤ cs.length
      rw [perm.length_eq, List.length_map]
      omega
    · rw [h0 k hk]
      exact cpos k hk t h2
  have R : Run cs 0 0 [] (cs, (spotsOf cs tf).map fun x => (x, price_at (tf, x)), (keysOf cs).map fun x => (x, (0 : Int)), srt (keysOf cs), [], ()) := by
    refine ⟨fun k hk _ => h0 k (perm.mem_iff.mp hk), fun k hk _ hp => (nomatch hp), fun k hk hb _ => ?_, fun k hk hn => absurd (perm.mem_iff.mpr hk) hn⟩
    have hk := perm.mem_iff.mp hk
    have e : (0 : Int) = (chO cs k).1 := by
      have := X.beg hk
      omega
    rw [h0 k hk]
    have := (X.chok hk).be
    refine ⟨?_, by omega⟩
    have := cst_at (chO cs k)
    rw [← e] at this
    exact this.symm
  obtain ⟨s, m, e1, C1, R1, g1, p1⟩ := init_loop X (fuelOf cs) _ 0 C R (by
    show ((sumEnds cs : Int) + 1 - 0).toNat < sumEnds cs + 2
    omega)
  constructor
  · unfold Raising_init_pre
    refine ⟨trivial, ⟨⟨⟨trivial, trivial⟩, ?_⟩, fun t ht => ⟨trivial, ⟨trivial, trivial⟩, price_pre X.ok.tari (X.ok.nat ht)⟩, ?_⟩, ⟨trivial, fun _ _ => ⟨trivial, trivial⟩, ?_⟩, ⟨trivial, ?_⟩, trivial, trivial, p1⟩
    · unfold spots_of_pre
      have hl : ((cs.map fun (x : Int × Charge) => x.2).map (fun (ch : Charge) => ch.1) ++ ((tf.map fun (x : Int × Int) => x.1) ++ [])).length < 64 := by
        simp only [List.length_append, List.length_map, List.length_nil]
        omega
      exact ⟨⟨⟨⟨trivial, fun _ _ => trivial⟩, ⟨trivial, fun _ _ => trivial⟩, trivial⟩, by
        have : (64 : Nat) ≤ LIM := by rw [hL]; omega
        exact Nat.le_trans (Nat.le_of_lt hl) this⟩, hl⟩
    · rw [List.map_id']
      exact spots_nd
    · rw [List.map_id']
      exact X.nd
    · show cs.length < 64
      omega
  · refine ⟨s, m, ?_, C1, R1, g1⟩
    unfold Raising_init Raising_init_o
    have e1' : whL Raising_init_w9_c Raising_init_w9_g Raising_init_w9 (fuelOf cs) ((cs, (spots_of (cs, tf)).map fun x => (x, price_at (tf, x)), (cs.map fun x => x.1).map fun x => (x, (0 : Int)), srt (cs.map fun x => x.1), [], ()), cs, tf, (), (), 0, ()) = .nx (s, cs, tf, (), (), m, ()) := e1
    simp only [e1', Out.get]
/-- the offers at a moment -/
abbrev sh (d : List (Int × Int)) (k : Int) : Int := (dget d k).getD default
/-- shares as the raising leaves them -/
structure Urgent (cs : Charges) (tf : Tariff) (d : List (Int × Int)) : Prop where
  keys : keysOf d = keysOf cs
  pos : ∀ k ∈ keysOf cs, 0 ≤ sh d k
  most : ∀ k ∈ keysOf cs, ∀ y, mostC (chO cs k) = some y → sh d k ≤ y
  room : ∀ t ∈ spotsOf cs tf, ((keysOf cs).map fun k => offC (chO cs k) (sh d k) t).sum ≤ prO tf t
theorem Core.stops {cs : Charges} {tf : Tariff} {m : Int} {s : Raising_F} (C : Core cs tf m s) : Stops (chO cs) (hO s) (keysOf cs) s.2.2.2.2.1 := by
  refine ⟨fun x hx => ?_, C.pair, fun x hx k hk hb t ht => ?_⟩
  · obtain ⟨a1, a2, a3, a4, a5, a6, a7⟩ := C.at_ x hx
    exact ⟨a2, a3, a4⟩
  · exact offC_zero fun h1 h2 => C.past x hx k hk hb t ht h2
/-- the settled times bear the shares -/
theorem Core.settled {cs : Charges} {tf : Tariff} (X : RX cs tf) {m : Int} {s : Raising_F} (C : Core cs tf m s) (R : Run cs m m [] s) (g : s.2.2.2.1 = []) :
    Times (srt (settle (chO cs) s.2.2.2.2.1)) ∧ (∀ t ∈ srt (settle (chO cs) s.2.2.2.2.1), t ∈ spotsOf cs tf) ∧ ∃ v, tot (prO tf) (valsOf cs) (srt (settle (chO cs) s.2.2.2.2.1)) = some v ∧ v ≤ ((keysOf cs).map (hO s)).sum := by
  have S := C.stops
  have pm := srt_perm (settle (chO cs) s.2.2.2.2.1)
  have hI : Incr (srt (settle (chO cs) s.2.2.2.2.1)) := srt_incr (settle_nodup S)
  have at_ : ∀ t ∈ srt (settle (chO cs) s.2.2.2.2.1), t ∈ spotsOf cs tf ∧ rO s t = 0 := fun t ht => by
    obtain ⟨x, x1, rfl⟩ := settle_sub (pm.mem_iff.mp ht)
    obtain ⟨a1, a2, a3, a4, a5, a6, a7⟩ := C.at_ x x1
    exact ⟨a6, a7⟩
  refine ⟨⟨hI, fun t ht => X.ok.nat (at_ t ht).1⟩, fun t ht => (at_ t ht).1, ?_⟩
  rw [X.vals]
  refine reach (fun k hk => X.chok hk) hI (fun t ht => ?_) (fun k hk => ?_) (fun t1 h1 t2 h2 hlt k hk hb => settle_once S t1 (pm.mem_iff.mp h1) t2 (pm.mem_iff.mp h2) hlt k hk hb)
  · obtain ⟨a, b⟩ := at_ t ht
    have := C.room t a
    omega
  · rcases R.done k hk (by rw [g]; exact fun z => nomatch z) with h | ⟨x, x1, rfl, x3⟩
    · exact .inl h
    · right
      obtain ⟨t, t1, t2, t3⟩ := settle_hit S x x1
      obtain ⟨a1, a2, a3, a4, a5, a6, a7⟩ := C.at_ x x1
      exact ⟨t, pm.mem_iff.mpr t1, t2, by omega, Int.le_trans (cst_mono (X.chok a1).wait t3) x3⟩
theorem urgent_ok {cs : Charges} {tf : Tariff} (X : RX cs tf) : urgent_shares_pre (cs, tf) ∧ Urgent cs tf (urgent_shares (cs, tf)) ∧ ∃ T v, Times T ∧ tot (prO tf) (valsOf cs) T = some v ∧ v ≤ ((keysOf cs).map (sh (urgent_shares (cs, tf)))).sum := by
  obtain ⟨p, s, m, e, C, R, g⟩ := raising_ok X
  have hu : urgent_shares (cs, tf) = s.2.2.1 := by
    unfold urgent_shares urgent_shares_o
    simp only [e, Out.get]
  obtain ⟨s1, s2, v, s3, s4⟩ := C.settled X R g
  refine ⟨⟨⟨trivial, trivial⟩, p⟩, ⟨by rw [hu]; exact C.hk, by rw [hu]; exact C.hpos, by rw [hu]; exact C.most, fun t ht => ?_⟩, _, v, s1, s3, by rw [hu]; exact s4⟩
  rw [hu]
  have := C.room t ht
  have := C.pos t ht
  have e : ((keysOf cs).map fun k => offC (chO cs k) (sh s.2.2.1 k) t).sum = ((keysOf cs).map fun k => offC (chO cs k) (hO s k) t).sum := rfl
  omega
end LawK
end
section
set_option linter.all false
namespace LawK
open Lmo Plain
theorem search_ok {α E ρ : Type} {b : E → α → Out E ρ} {P : E → α → Prop} {e : E} {c : α → Bool} {f : α → ρ} : ∀ {l : List α}, (∀ x ∈ l, b e x = if c x = true then .rt (f x) else .nx e) → (∀ x ∈ l, P e x) →
    forP b P l e ∧ ((∃ x ∈ l, c x = true ∧ forL b l e = .rt (f x)) ∨ (forL b l e = .nx e ∧ ∀ x ∈ l, c x = false))
  | [], _, _ => ⟨trivial, .inr ⟨rfl, fun x h => nomatch h⟩⟩
  | x :: l, h, p => by
    obtain ⟨q1, q2⟩ := search_ok (l := l) (fun y hy => h y (List.mem_cons_of_mem _ hy)) (fun y hy => p y (List.mem_cons_of_mem _ hy))
    have hx := h x List.mem_cons_self
    cases hc : c x with
    | true =>
      rw [hc, if_pos rfl] at hx
      refine ⟨⟨p x List.mem_cons_self, fun e' he => ?_⟩, .inl ⟨x, List.mem_cons_self, hc, forL_rt hx⟩⟩
      rw [hx] at he
      cases he
    | false =>
      rw [hc, if_neg (by decide)] at hx
      refine ⟨⟨p x List.mem_cons_self, fun e' he => ?_⟩, ?_⟩
      · rw [hx] at he
        cases he
        exact q1
      · rw [forL_nx hx]
        rcases q2 with ⟨y, y1, y2, y3⟩ | ⟨y1, y2⟩
        · exact .inl ⟨y, List.mem_cons_of_mem _ y1, y2, y3⟩
        · refine .inr ⟨y1, fun z hz => ?_⟩
          rcases List.mem_cons.mp hz with rfl | hz
          · exact hc
          · exact y2 z hz
theorem greatest_eq (ch : Charge) : greatest_share ch = mostC ch := by
  unfold greatest_share greatest_share_o mostC
  simp only [Out.get]
  cases ch.2.2.2 with
  | none => rfl
  | some f => rfl
theorem greatest_pre {ch : Charge} (h : -(2 ^ 64) < ch.2.2.1 ∧ ch.2.2.1 < 2 ^ 64) : greatest_share_pre ch := by
  unfold greatest_share_pre
  refine ⟨trivial, ⟨trivial, trivial, trivial⟩, fun _ => trivial, fun q => ⟨⟨trivial, ⟨trivial, trivial, trivial⟩, .inl h⟩, ⟨trivial, ?_⟩, trivial⟩⟩
  cases e : ch.2.2.2 with
  | none =>
    rw [e] at q
    cases q
  | some _ => rfl
theorem offer_eq (ch : Charge) (h t : Int) : offer (ch, h, t) = max 0 (h - cst ch t) := by
  unfold offer offer_o cst
  simp only [Out.get]
  rw [max2_eq]
theorem offer_pre_ok {ch : Charge} (hw : -(2 ^ 64) < ch.2.2.1 ∧ ch.2.2.1 < 2 ^ 64) (h t : Int) : offer_pre (ch, h, t) := by
  unfold offer_pre
  exact ⟨⟨trivial, trivial, ⟨trivial, ⟨trivial, trivial, trivial⟩, .inl hw⟩, trivial⟩, trivial⟩
/-- offers that are greater than 0 -/
def offs (cs : Charges) (d : List (Int × Int)) (t : Int) (l : List Int) : List (Int × Int) := (l.filter fun k => decide (0 < offC (chO cs k) (sh d k) t)).map fun k => (k, offC (chO cs k) (sh d k) t)
theorem offs_sum {cs : Charges} {d : List (Int × Int)} {t : Int} : ∀ {l : List Int}, ((offs cs d t l).map fun x => x.2).sum = (l.map fun k => offC (chO cs k) (sh d k) t).sum
  | [] => rfl
  | k :: l => by
    have ih := offs_sum (cs := cs) (d := d) (t := t) (l := l)
    have h0 := offC_nonneg (ch := chO cs k) (h := sh d k) (t := t)
    unfold offs at ih ⊢
    rw [List.filter_cons]
    by_cases h : 0 < offC (chO cs k) (sh d k) t
    · rw [if_pos (decide_eq_true h)]
      simp only [List.map_cons, List.sum_cons, ih]
    · rw [if_neg (by simpa using h)]
      simp only [List.map_cons, List.sum_cons, ih]
      omega
theorem offers_loop {cs : Charges} {tf : Tariff} (X : RX cs tf) {d : List (Int × Int)} {t : Int} (hd : ∀ k ∈ keysOf cs, k ∈ keysOf d) : ∀ (l : List Int) (found : List (Int × Int)), (∀ k ∈ l, k ∈ keysOf cs) → (keysOf found ++ l).Nodup → found.length + l.length < LIM →
    forP offers_at_b4 offers_at_b4_p l (cs, d, t, found, (), ()) ∧ forL offers_at_b4 l (cs, d, t, found, (), ()) = .nx (cs, d, t, found ++ offs cs d t l, (), ())
  | [], found, _, _, _ => ⟨trivial, by rw [show offs cs d t [] = [] from rfl, List.append_nil]; rfl⟩
  | k :: l, found, hk, hn, hl => by
    have k0 := hk k List.mem_cons_self
    have kn : k ∉ found.map (·.1) := fun z => (List.nodup_append.mp hn).2.2 k z k List.mem_cons_self rfl
    have hw := X.waits k0
    have hw2 : -(2 ^ 64) < (chO cs k).2.2.1 ∧ (chO cs k).2.2.1 < 2 ^ 64 := by omega
    have hc : ((decide ((chO cs k).1 ≤ t) && decide (t ≤ (chO cs k).2.1)) && decide (0 < offer (chO cs k, sh d k, t))) = decide (0 < offC (chO cs k) (sh d k) t) := by
      rw [offer_eq]
      by_cases q : (chO cs k).1 ≤ t ∧ t ≤ (chO cs k).2.1
      · rw [offC_in q.1 q.2, decide_eq_true q.1, decide_eq_true q.2]
        rfl
      · rw [offC_out q]
        have : (decide ((chO cs k).1 ≤ t) && decide (t ≤ (chO cs k).2.1)) = false := by
          rw [← Bool.not_eq_true, Bool.and_eq_true, decide_eq_true_eq, decide_eq_true_eq]
          exact q
        rw [this, Bool.false_and, decide_eq_false (by omega)]
    have hv : 0 < offC (chO cs k) (sh d k) t → offer (chO cs k, sh d k, t) = offC (chO cs k) (sh d k) t := fun q => by
      rw [offer_eq]
      by_cases z : (chO cs k).1 ≤ t ∧ t ≤ (chO cs k).2.1
      · rw [offC_in z.1 z.2]
      · rw [offC_out z] at q
        omega
    have hb : offers_at_b4 (cs, d, t, found, (), ()) k = .nx (cs, d, t, found ++ offs cs d t [k], (), ()) := by
      have e : offers_at_b4 (cs, d, t, found, (), ()) k = if ((decide ((chO cs k).1 ≤ t) && decide (t ≤ (chO cs k).2.1)) && decide (0 < offer (chO cs k, sh d k, t))) = true then .nx (cs, d, t, dput found k (offer (chO cs k, sh d k, t)), (), ()) else .nx (cs, d, t, found, (), ()) := rfl
      rw [e, hc]
      unfold offs
      rw [List.filter_cons]
      by_cases q : 0 < offC (chO cs k) (sh d k) t
      · rw [if_pos (decide_eq_true q), if_pos (decide_eq_true q), dput_new kn, hv q]
        rfl
      · rw [if_neg (by simpa using q), if_neg (by simpa using q)]
        simp
    have hp : offers_at_b4_p (cs, d, t, found, (), ()) k := by
      have i1 : (dget cs k).isSome = true := dget_mem k0
      have i2 : (dget d k).isSome = true := dget_mem (hd k k0)
      have o := offer_pre_ok hw2 (sh d k) t
      unfold offers_at_b4_p
      refine ⟨⟨⟨⟨trivial, trivial, i1⟩, trivial, trivial, fun _ => ⟨⟨trivial, trivial, i1⟩, trivial⟩⟩, fun _ => ⟨⟨⟨⟨trivial, trivial, i1⟩, ⟨trivial, trivial, i2⟩, trivial⟩, o⟩, trivial, trivial⟩⟩, fun _ => ⟨⟨⟨⟨⟨trivial, trivial, i1⟩, ⟨trivial, trivial, i2⟩, trivial⟩, o⟩, trivial, ?_⟩, trivial⟩, fun _ => trivial⟩
      show found.length < LIM
      simp only [List.length_cons] at hl
      omega
    have ol : offs cs d t (k :: l) = offs cs d t [k] ++ offs cs d t l := by
      unfold offs
      rw [show k :: l = [k] ++ l from rfl, List.filter_append, List.map_append]
    have okeys : (keysOf (offs cs d t [k])).Sublist [k] := by
      have e : keysOf (offs cs d t [k]) = [k].filter fun k => decide (0 < offC (chO cs k) (sh d k) t) := by
        unfold offs keysOf
        rw [List.map_map]
        exact List.map_id' _
      rw [e]
      exact List.filter_sublist
    have olen : (offs cs d t [k]).length ≤ 1 := by
      have := okeys.length_le
      simpa [keysOf] using this
    obtain ⟨p, e⟩ := offers_loop X hd l (found ++ offs cs d t [k]) (fun j hj => hk j (List.mem_cons_of_mem _ hj)) (by
      have : keysOf (found ++ offs cs d t [k]) = keysOf found ++ keysOf (offs cs d t [k]) := List.map_append
      rw [this, List.append_assoc]
      exact List.Sublist.nodup (List.Sublist.append (List.Sublist.refl _) (List.Sublist.append okeys (List.Sublist.refl l))) hn) (by
      simp only [List.length_append, List.length_cons] at hl ⊢
      omega)
    refine ⟨⟨hp, fun z hz => ?_⟩, ?_⟩
    · rw [hb] at hz
      cases hz
      exact p
    · rw [forL_nx hb, e, ol, List.append_assoc]
theorem offers_ok {cs : Charges} {tf : Tariff} (X : RX cs tf) {d : List (Int × Int)} (t : Int) (hd : ∀ k ∈ keysOf cs, k ∈ keysOf d) : offers_at_pre (cs, d, t) ∧ offers_at (cs, d, t) = offs cs d t (srt (keysOf cs)) := by
  have hL : (LIM : Nat) = 1000000 := rfl
  have few := X.ok.few
  have perm := srt_perm (keysOf cs)
  obtain ⟨p, e⟩ := offers_loop X (t := t) hd (srt (keysOf cs)) [] (fun k hk => perm.mem_iff.mp hk) (by simpa [keysOf] using perm.nodup_iff.mpr X.nd) (by
    rw [perm.length_eq, List.length_map, List.length_nil]
    omega)
  constructor
  · unfold offers_at_pre
    exact ⟨trivial, ⟨⟨trivial, by show cs.length < 64; omega⟩, p⟩, fun _ _ => trivial⟩
  · unfold offers_at offers_at_o
    have e' : forL offers_at_b4 (srt (cs.map fun x => x.1)) (cs, d, t, [], (), ()) = .nx (cs, d, t, [] ++ offs cs d t (srt (keysOf cs)), (), ()) := e
    simp only [e', Out.bind, Out.get]
    rfl
/-- shares that are right -/
structure Right (cs : Charges) (tf : Tariff) (d : List (Int × Int)) : Prop where
  most : ∀ k ∈ keysOf cs, ∀ y, mostC (chO cs k) = some y → sh d k ≤ y
  room : ∀ t ∈ spotsOf cs tf, ((keysOf cs).map fun k => offC (chO cs k) (sh d k) t).sum ≤ prO tf t
theorem leavers_ok {cs : Charges} {tf : Tariff} (X : RX cs tf) {d : List (Int × Int)} (hd : ∀ k ∈ keysOf cs, k ∈ keysOf d) : leavers_pre (cs, tf, d) ∧ ((leavers (cs, tf, d)).isNone = true ↔ Right cs tf d) := by
  have hL : (LIM : Nat) = 1000000 := rfl
  have few := X.ok.few
  have perm := srt_perm (keysOf cs)
  have pk : ∀ k ∈ srt (keysOf cs), k ∈ keysOf cs := fun k hk => perm.mem_iff.mp hk
  obtain ⟨p1, q1⟩ := search_ok (b := leavers_b3) (P := leavers_b3_p) (e := (cs, tf, d, (), (), (), (), ())) (c := fun k => (mostC (chO cs k)).isSome && decide ((mostC (chO cs k)).getD default < sh d k)) (f := fun k => some ([k], none)) (l := srt (keysOf cs)) (fun k hk => by
    unfold leavers_b3
    rw [show greatest_share ((dget cs k).getD default) = mostC (chO cs k) from greatest_eq _]) (fun k hk => by
    have k0 := pk k hk
    have hw := X.waits k0
    have g := greatest_pre (ch := chO cs k) (by omega)
    unfold leavers_b3_p
    refine ⟨⟨⟨trivial, trivial, dget_mem k0⟩, g⟩, ⟨⟨trivial, trivial, trivial⟩, fun h => ⟨⟨trivial, trivial, dget_mem (hd k k0)⟩, ⟨trivial, h⟩, trivial⟩⟩, fun _ => ⟨trivial, trivial⟩, fun _ => trivial⟩)
  obtain ⟨p2, q2⟩ := search_ok (b := leavers_b7) (P := leavers_b7_p) (e := (cs, tf, d, (), (), (), (), ())) (c := fun t => decide (prO tf t < ((srt (keysOf cs)).map fun k => offC (chO cs k) (sh d k) t).sum)) (f := fun t => some ((offs cs d t (srt (keysOf cs))).map (fun x => x.1), some t)) (l := spotsOf cs tf) (fun t ht => by
    unfold leavers_b7
    simp only [(offers_ok X t hd).2]
    rw [offs_sum]
    rfl) (fun t ht => by
    unfold leavers_b7_p
    exact ⟨⟨⟨trivial, trivial, trivial⟩, (offers_ok X t hd).1⟩, ⟨trivial, ⟨⟨trivial, trivial⟩, price_pre X.ok.tari (X.ok.nat ht)⟩, trivial⟩, fun _ => ⟨⟨trivial, trivial⟩, trivial⟩, fun _ => trivial⟩)
  have spre : spots_of_pre (cs, tf) := by
    unfold spots_of_pre
    have hl : ((cs.map fun (x : Int × Charge) => x.2).map (fun (ch : Charge) => ch.1) ++ ((tf.map fun (x : Int × Int) => x.1) ++ [])).length < 64 := by
      simp only [List.length_append, List.length_map, List.length_nil]
      omega
    exact ⟨⟨⟨⟨trivial, fun _ _ => trivial⟩, ⟨trivial, fun _ _ => trivial⟩, trivial⟩, by
      have : (64 : Nat) ≤ LIM := by rw [hL]; omega
      exact Nat.le_trans (Nat.le_of_lt hl) this⟩, hl⟩
  have sum_srt : ∀ t, ((srt (keysOf cs)).map fun k => offC (chO cs k) (sh d k) t).sum = ((keysOf cs).map fun k => offC (chO cs k) (sh d k) t).sum := fun t => sum_permI (perm.map _)
  constructor
  · unfold leavers_pre
    refine ⟨⟨⟨trivial, by show cs.length < 64; omega⟩, p1⟩, fun e4 h4 => ?_⟩
    have h4 : forL leavers_b3 (srt (keysOf cs)) (cs, tf, d, (), (), (), (), ()) = .nx e4 := h4
    rcases q1 with ⟨k, k1, k2, k3⟩ | ⟨k1, k2⟩
    · rw [k3] at h4
      cases h4
    · rw [k1] at h4
      cases h4
      exact ⟨⟨⟨⟨trivial, trivial⟩, spre⟩, p2⟩, fun _ _ => trivial⟩
  · have eq : leavers (cs, tf, d) = ((forL leavers_b3 (srt (keysOf cs)) (cs, tf, d, (), (), (), (), ())).bind fun e4 => ((forL leavers_b7 (spots_of (e4.1, e4.2.1)) (e4.1, e4.2.1, e4.2.2.1, (), (), (), (), ())).bind fun e8 => (.rt none : Out Unit (Option (List Int × Option Int))))).get (fun _ => default) := rfl
    rw [eq]
    rcases q1 with ⟨k, k1, k2, k3⟩ | ⟨k1, k2⟩
    · rw [k3]
      constructor
      · intro h
        cases h
      · intro R
        exfalso
        rw [Bool.and_eq_true, decide_eq_true_eq] at k2
        obtain ⟨y, hy⟩ := Option.isSome_iff_exists.mp k2.1
        have := R.most k (pk k k1) y hy
        rw [hy, Option.getD_some] at k2
        omega
    · rw [k1]
      have most : ∀ k ∈ keysOf cs, ∀ y, mostC (chO cs k) = some y → sh d k ≤ y := fun k hk y hy => by
        have := k2 k (perm.mem_iff.mpr hk)
        rw [hy] at this
        simpa using this
      have eq2 : ((Out.nx (cs, tf, d, (), (), (), (), ()) : Out (Charges × Tariff × List (Int × Int) × Unit × Unit × Unit × Unit × Unit) (Option (List Int × Option Int))).bind fun e4 => ((forL leavers_b7 (spots_of (e4.1, e4.2.1)) (e4.1, e4.2.1, e4.2.2.1, (), (), (), (), ())).bind fun e8 => (.rt none : Out Unit (Option (List Int × Option Int))))) = ((forL leavers_b7 (spotsOf cs tf) (cs, tf, d, (), (), (), (), ())).bind fun e8 => (.rt none : Out Unit (Option (List Int × Option Int)))) := rfl
      rw [eq2]
      rcases q2 with ⟨t, t1, t2, t3⟩ | ⟨t1, t2⟩
      · rw [t3]
        constructor
        · intro h
          cases h
        · intro R
          exfalso
          have := R.room t t1
          rw [decide_eq_true_eq, sum_srt] at t2
          omega
      · rw [t1]
        refine ⟨fun _ => ⟨most, fun t ht => ?_⟩, fun _ => rfl⟩
        have := of_decide_eq_false (t2 t ht)
        rw [sum_srt] at this
        omega
theorem formed_ok {cs : Charges} {tf : Tariff} (X : RX cs tf) {d : List (Int × Int)} (hd : keysOf d = keysOf cs) (h0 : ∀ k ∈ keysOf cs, 0 ≤ sh d k) (hi : ∀ k ∈ keysOf cs, 1 ≤ k ∧ k ≤ 1000000) : are_formed_pre (cs, d) ∧ are_formed (cs, d) = true := by
  have hl : d.length = cs.length := by
    have := congrArg List.length hd
    rwa [List.length_map, List.length_map] at this
  have nd : (keysOf d).Nodup := by rw [hd]; exact X.nd
  have c1 : ((!true) || (!decide ((d.length : Int) = (cs.length : Int)))) = false := by
    rw [hl]
    simp
  constructor
  · unfold are_formed_pre
    refine ⟨⟨trivial, fun _ => ⟨⟨trivial, trivial⟩, ⟨trivial, trivial⟩, trivial⟩⟩, fun _ => trivial, fun _ => ⟨⟨trivial, fun x hx => ⟨⟨trivial, ⟨trivial, trivial, trivial⟩, ⟨trivial, fun _ => ⟨trivial, fun _ => ⟨trivial, trivial, trivial, fun _ => ⟨trivial, trivial⟩⟩⟩⟩⟩, fun _ => ⟨⟨trivial, trivial⟩, fun _ => ⟨trivial, ⟨trivial, fun _ => ⟨trivial, fun _ => ⟨trivial, trivial, trivial⟩⟩⟩⟩⟩⟩⟩, trivial⟩⟩
  · unfold are_formed are_formed_o
    simp only [c1, Bool.false_eq_true, if_false, Out.get]
    rw [List.all_eq_true]
    intro b hb
    obtain ⟨x, hx, rfl⟩ := List.mem_map.mp hb
    have hk : x.1 ∈ keysOf cs := by
      rw [← hd]
      exact List.mem_map.mpr ⟨x, hx, rfl⟩
    have e := dget_of nd hx
    have := h0 x.1 hk
    unfold sh at this
    rw [e, Option.getD_some] at this
    obtain ⟨i1, i2⟩ := hi x.1 hk
    have a : is_id x.1 = true := by
      unfold is_id is_id_o is_integer is_integer_o
      simp only [Out.get]
      rw [decide_eq_true i1, decide_eq_true i2]
      rfl
    have b : is_share x.2 = true := by
      unfold is_share is_share_o
      simp only [Out.get]
      rw [decide_eq_true this]
      rfl
    rw [a, b, dget_mem hk]
    rfl
theorem right_ok {cs : Charges} {tf : Tariff} (X : RX cs tf) {d : List (Int × Int)} (hd : keysOf d = keysOf cs) (h0 : ∀ k ∈ keysOf cs, 0 ≤ sh d k) (hi : ∀ k ∈ keysOf cs, 1 ≤ k ∧ k ≤ 1000000) : are_right_pre (cs, tf, d) ∧ (are_right (cs, tf, d) = true ↔ Right cs tf d) := by
  obtain ⟨f1, f2⟩ := formed_ok X hd h0 hi
  obtain ⟨l1, l2⟩ := leavers_ok X (d := d) fun k hk => by rw [hd]; exact hk
  constructor
  · unfold are_right_pre
    exact ⟨⟨⟨trivial, trivial⟩, f1⟩, fun _ => ⟨⟨⟨trivial, trivial, trivial⟩, l1⟩, trivial, trivial⟩⟩
  · rw [← l2]
    unfold are_right are_right_o
    simp only [Out.get, f2, Bool.true_and]
theorem Spots.sub {n : Nat} {sp : Nat → Int} {price : Int → Int} {S S2 : List Charge} (h : Spots n sp price S) (hs : ∀ c ∈ S2, c ∈ S) : Spots n sp price S2 := ⟨h.mono, h.nat, fun t ht => by
  obtain ⟨j, j1, j2, j3, j4⟩ := h.push t ht
  exact ⟨j, j1, j2, j3, fun c hc => j4 c (hs c hc)⟩⟩
/-- no group bears more than it costs -/
theorem group_le {cs : Charges} {tf : Tariff} (X : RX cs tf) {d : List (Int × Int)} (R : Right cs tf d) {G : List Int} (hn : G.Nodup) (hG : ∀ k ∈ G, k ∈ keysOf cs) {w : Int} (hw : IsMin (prO tf) (G.map (chO cs)) w) : (G.map (sh d)).sum ≤ w := by
  obtain ⟨T, t1, t2⟩ := hw.got
  have sub : ∀ c ∈ G.map (chO cs), c ∈ valsOf cs := fun c hc => by
    rw [X.vals]
    obtain ⟨k, k1, rfl⟩ := List.mem_map.mp hc
    exact List.mem_map.mpr ⟨k, hG k k1, rfl⟩
  obtain ⟨js, u, j1, j2, j3⟩ := (Spots.sub X.ok.spots sub).enough X.ok.price (fun c hc => X.ok.chs c (sub c hc)) t1 t2
  have := weak (h := sh d) (fun k hk => R.most k (hG k hk)) (T := js.map (spO cs tf)) (fun t ht => by
    obtain ⟨j, hj, rfl⟩ := List.mem_map.mp ht
    have hlt := (seq_ge j1 j hj).2
    have hs : spO cs tf j ∈ spotsOf cs tf := by
      rw [spO_get hlt]
      exact List.getElem_mem _
    have := R.room _ hs
    have := sum_sub (price := fun k => offC (chO cs k) (sh d k) (spO cs tf j)) (fun _ => offC_nonneg) hn hG
    omega) j2
  omega
/-- shares are right exactly if no group has a lesser least cost -/
theorem right_iff {cs : Charges} {tf : Tariff} (X : RX cs tf) {d : List (Int × Int)} {f : List Int → Int} (hf : ∀ G, G.Sublist (srt (keysOf cs)) → IsMin (prO tf) (G.map (chO cs)) (f G)) : Right cs tf d ↔ ∀ G, G.Sublist (srt (keysOf cs)) → (G.map (sh d)).sum ≤ f G := by
  have perm := srt_perm (keysOf cs)
  have nd := perm.nodup_iff.mpr X.nd
  constructor
  · intro R G hG
    exact group_le X R (hG.nodup nd) (fun k hk => perm.mem_iff.mp (hG.subset hk)) (hf G hG)
  · intro h
    refine ⟨fun k hk y hy => ?_, fun t ht => ?_⟩
    · have hs : [k].Sublist (srt (keysOf cs)) := List.singleton_sublist.mpr (perm.mem_iff.mpr hk)
      have h1 := h [k] hs
      have h2 := (hf [k] hs).low [] y ⟨List.Pairwise.nil, fun t h => nomatch h⟩ (by
        refine tot_some.mpr ⟨y, ?_, by simp⟩
        exact osum_cons.mpr ⟨y, 0, hy, rfl, by omega⟩)
      simp only [List.map_cons, List.map_nil, List.sum_cons, List.sum_nil] at h1
      omega
    · apply Decidable.byContradiction
      intro hn
      have hs : ((srt (keysOf cs)).filter fun k => decide (0 < offC (chO cs k) (sh d k) t)).Sublist (srt (keysOf cs)) := List.filter_sublist
      have h1 := h _ hs
      have mem : ∀ k ∈ ((srt (keysOf cs)).filter fun k => decide (0 < offC (chO cs k) (sh d k) t)), (chO cs k).1 ≤ t ∧ t ≤ (chO cs k).2.1 ∧ sh d k = offC (chO cs k) (sh d k) t + cst (chO cs k) t := fun k hk => by
        have q := of_decide_eq_true (List.mem_filter.mp hk).2
        by_cases z : (chO cs k).1 ≤ t ∧ t ≤ (chO cs k).2.1
        · rw [offC_in z.1 z.2] at q ⊢
          exact ⟨z.1, z.2, by omega⟩
        · rw [offC_out z] at q
          omega
      have hsum : (((srt (keysOf cs)).filter fun k => decide (0 < offC (chO cs k) (sh d k) t)).map fun k => offC (chO cs k) (sh d k) t).sum = ((keysOf cs).map fun k => offC (chO cs k) (sh d k) t).sum := by
        have e := offs_sum (cs := cs) (d := d) (t := t) (l := srt (keysOf cs))
        rw [sum_permI (perm.map fun k => offC (chO cs k) (sh d k) t)] at e
        rw [← e]
        unfold offs
        rw [List.map_map]
        rfl
      generalize ((srt (keysOf cs)).filter fun k => decide (0 < offC (chO cs k) (sh d k) t)) = G at hs h1 mem hsum
      obtain ⟨v, v1, v2⟩ := osum_up (f := fun k => fee [t] (chO cs k)) (g := fun k => cst (chO cs k) t) (B := G) (fun k hk => by
        obtain ⟨m1, m2, _⟩ := mem k hk
        refine ⟨cst (chO cs k) t, ?_, Int.le_refl _⟩
        unfold fee nextT
        rw [List.find?_cons, decide_eq_true m1]
        unfold feeAt
        simp only
        rw [if_pos m2]
        rfl)
      have h2 := (hf G hs).low [t] (v + prO tf t) ⟨List.pairwise_singleton _ _, fun u hu => by
        rw [List.mem_singleton.mp hu]
        exact X.ok.nat ht⟩ (tot_some.mpr ⟨v, by rw [fees_map]; exact v1, by simp⟩)
      have h3 := sum_add (fun k => offC (chO cs k) (sh d k) t) (fun k => cst (chO cs k) t) G
      have h4 : (G.map (sh d)).sum = (G.map fun k => offC (chO cs k) (sh d k) t + cst (chO cs k) t).sum := sum_eq fun k hk => (mem k hk).2.2
      omega
end LawK
end
section
set_option linter.all false
set_option maxRecDepth 100000
set_option maxHeartbeats 4000000
namespace LawK
open Lmo Plain
/-! ### all groups of some ids -/
structure Grp (p : List Int) (g : List (List Int)) : Prop where
  sub : ∀ G ∈ g, G.Sublist p
  all : ∀ G, G.Sublist p → G ∈ g
  len : g.length = 2 ^ p.length
  last : g.getLast? = some p
theorem Grp.step {p : List Int} {g : List (List Int)} (X : Grp p g) (x : Int) : Grp (p ++ [x]) (g ++ g.map fun G => G ++ [x]) := by
  refine ⟨fun G hG => ?_, fun G hG => ?_, ?_, ?_⟩
  · rcases List.mem_append.mp hG with h | h
    · exact (X.sub G h).trans (List.sublist_append_left _ _)
    · obtain ⟨F, hF, rfl⟩ := List.mem_map.mp h
      exact List.Sublist.append (X.sub F hF) (List.Sublist.refl _)
  · obtain ⟨A, B, rfl, hA, hB⟩ := List.sublist_append_iff.mp hG
    have hl := hB.length_le
    cases B with
    | nil =>
      rw [List.append_nil]
      exact List.mem_append_left _ (X.all A hA)
    | cons b B =>
      have : B = [] := List.length_eq_zero_iff.mp (by simp at hl; exact List.length_eq_zero_iff.mpr hl)
      subst this
      have hb : b = x := List.mem_singleton.mp (hB.subset List.mem_cons_self)
      subst hb
      exact List.mem_append_right _ (List.mem_map.mpr ⟨A, X.all A hA, rfl⟩)
  · rw [List.length_append, List.length_map, X.len, List.length_append, List.length_singleton, Nat.pow_succ]
    omega
  · rw [List.getLast?_append, List.getLast?_map, X.last]
    rfl
theorem groups_loop {L0 : List Int} : ∀ (l p : List Int) (g : List (List Int)), Grp p g → p.length + l.length ≤ 10 → forP law_groups_b5 law_groups_b5_p l (L0, g, (), (), ()) ∧ ∃ g', forL law_groups_b5 l (L0, g, (), (), ()) = .nx (L0, g', (), (), ()) ∧ Grp (p ++ l) g'
  | [], p, g, X, _ => ⟨trivial, g, rfl, by rw [List.append_nil]; exact X⟩
  | x :: l, p, g, X, h => by
    have hL : (LIM : Nat) = 1000000 := rfl
    simp only [List.length_cons] at h
    have hb : law_groups_b5 (L0, g, (), (), ()) x = .nx (L0, g ++ g.map fun G => G ++ [x], (), (), ()) := rfl
    have hlen : g.length ≤ 1024 := by
      rw [X.len]
      exact Nat.pow_le_pow_right (n := 2) (i := p.length) (j := 10) (by decide) (by omega)
    have hp : law_groups_b5_p (L0, g, (), (), ()) x := by
      refine ⟨⟨trivial, ⟨trivial, fun G hG => ⟨trivial, trivial, ?_⟩⟩, ?_⟩, trivial⟩
      · have := (X.sub G hG).length_le
        simp only [List.length_singleton]
        omega
      · rw [List.length_map]
        show g.length + g.length ≤ LIM
        omega
    obtain ⟨q, g', e, Y⟩ := groups_loop (L0 := L0) l (p ++ [x]) _ (X.step x) (by simp only [List.length_append, List.length_singleton]; omega)
    refine ⟨⟨hp, fun z hz => ?_⟩, g', by rw [forL_nx hb]; exact e, by simpa using Y⟩
    rw [hb] at hz
    cases hz
    exact q
theorem groups_ok {L : List Int} (h : L.length ≤ 10) : law_groups_pre L ∧ Grp L (law_groups L) := by
  obtain ⟨p, g, e, X⟩ := groups_loop (L0 := L) L [] [[]] ⟨fun G hG => by rw [List.mem_singleton.mp hG]; exact List.Sublist.refl _, fun G hG => by
    rw [List.sublist_nil.mp hG]
    exact List.mem_cons_self, rfl, rfl⟩ (by simpa using h)
  have eq : law_groups L = g := by
    unfold law_groups law_groups_o
    simp only [e, Out.bind, Out.get]
  rw [eq]
  exact ⟨⟨trivial, ⟨trivial, p⟩, fun _ _ => trivial⟩, by simpa using X⟩
/-- charges and a tariff as they are drawn -/
structure Drawn (cs : Charges) (tf : Tariff) : Prop where
  hcs : ∀ x ∈ cs, ChD 7 x.2
  nd : (keysOf cs).Nodup
  few : cs.length ≤ 5
  ids : ∀ k ∈ keysOf cs, 1 ≤ k ∧ k ≤ 1000000
  htf : TfD tf
/-- what a group costs -/
def lcG (cs : Charges) (tf : Tariff) (G : List Int) : Int := least_cost (G.map fun k => (k, chO cs k), tf)
section
variable {cs : Charges} {tf : Tariff} (D : Drawn cs tf)
include D
theorem Drawn.csd : CsD cs := csd_of D.hcs D.nd
theorem Drawn.len : cs.length ≤ 50 := by have := D.few; omega
theorem Drawn.x : RX cs tf := by
  refine ⟨D.csd.at D.htf D.len, D.nd, ?_⟩
  have : ∀ {l : Charges}, (∀ x ∈ l, ChD 7 x.2) → (l.map fun x => x.2.2.2.1).sum ≤ 5 * (l.length : Int) := by
    intro l
    induction l with
    | nil => intro _; simp
    | cons x l ih =>
      intro h
      have h1 := (h x List.mem_cons_self).w1
      have h2 := ih fun y hy => h y (List.mem_cons_of_mem _ hy)
      rw [List.map_cons, List.sum_cons, List.length_cons]
      omega
  have := this D.hcs
  have := D.few
  omega
theorem Drawn.ch {k : Int} (h : k ∈ keysOf cs) : ChD 7 (chO cs k) := by
  obtain ⟨x, x1, x2, x3⟩ := D.x.at_ h
  rw [x3]
  exact D.hcs x x1
theorem Drawn.group {G : List Int} (h : G.Sublist (srt (keysOf cs))) : dmerge [] (G.map fun k => (k, chO cs k)) = G.map (fun k => (k, chO cs k)) ∧ least_cost_pre (G.map fun k => (k, chO cs k), tf) ∧ IsMin (prO tf) (G.map (chO cs)) (lcG cs tf G) := by
  have perm := srt_perm (keysOf cs)
  have nd : (keysOf (G.map fun k => (k, chO cs k))).Nodup := by
    rw [keys_pairs]
    exact h.nodup (perm.nodup_iff.mpr D.nd)
  have hl : G.length ≤ 5 := by
    have := h.length_le
    rw [perm.length_eq, List.length_map] at this
    have := D.few
    omega
  have Y : Ok (G.map fun k => (k, chO cs k)) tf := (csd_of (last := 7) (fun x hx => by
    obtain ⟨k, hk, rfl⟩ := List.mem_map.mp hx
    exact D.ch (perm.mem_iff.mp (h.subset hk))) nd).at D.htf (by rw [List.length_map]; omega)
  obtain ⟨p, q⟩ := Y.leastC
  refine ⟨?_, p, ?_⟩
  · have := dmerge_app (l := G.map fun k => (k, chO cs k)) (d := []) (by simpa using nd)
    simpa using this
  · have e : valsOf (G.map fun k => (k, chO cs k)) = G.map (chO cs) := by
      unfold valsOf
      rw [List.map_map]
      rfl
    rw [e] at q
    exact q
theorem costs_loop {z s : List Int} {st : Int} {best : List (Int × Int)} : ∀ (l : List (List Int)) (costs : List (List Int × Int)), (∀ G ∈ l, G.Sublist (srt (keysOf cs))) → costs.length + l.length < 10000 →
    forP law_b11 law_b11_p l (z, st, s, cs, tf, best, costs, (), (), (), (), (), (), (), ()) ∧ forL law_b11 l (z, st, s, cs, tf, best, costs, (), (), (), (), (), (), (), ()) = .nx (z, st, s, cs, tf, best, costs ++ l.map (fun G => (G, lcG cs tf G)), (), (), (), (), (), (), (), ())
  | [], costs, _, _ => ⟨trivial, by rw [List.map_nil, List.append_nil]; rfl⟩
  | G :: l, costs, h, hl => by
    have hL : (LIM : Nat) = 1000000 := rfl
    simp only [List.length_cons] at hl
    have hs := h G List.mem_cons_self
    obtain ⟨d1, d2, d3⟩ := D.group hs
    have d1' : dmerge [] (G.map fun x9 => (x9, (dget cs x9).getD default)) = G.map (fun k => (k, chO cs k)) := d1
    have hb : law_b11 (z, st, s, cs, tf, best, costs, (), (), (), (), (), (), (), ()) G = .nx (z, st, s, cs, tf, best, costs ++ [(G, lcG cs tf G)], (), (), (), (), (), (), (), ()) := by
      unfold law_b11
      simp only [d1']
      rfl
    have hp : law_b11_p (z, st, s, cs, tf, best, costs, (), (), (), (), (), (), (), ()) G := by
      unfold law_b11_p
      simp only [d1']
      refine ⟨⟨⟨trivial, ⟨⟨trivial, fun k hk => ⟨trivial, trivial, trivial, dget_mem ((srt_perm _).mem_iff.mp (hs.subset hk))⟩⟩, trivial⟩, d2⟩, by omega⟩, trivial⟩
    obtain ⟨q, e⟩ := costs_loop (z := z) (s := s) (st := st) (best := best) l (costs ++ [(G, lcG cs tf G)]) (fun F hF => h F (List.mem_cons_of_mem _ hF)) (by simp only [List.length_append, List.length_singleton]; omega)
    refine ⟨⟨hp, fun y hy => ?_⟩, ?_⟩
    · rw [hb] at hy
      cases hy
      exact q
    · rw [forL_nx hb, e, List.map_cons, List.append_assoc]
      rfl
theorem shares_loop {z : List Int} {st look : Int} {best : List (Int × Int)} {costs : List (List Int × Int)} (hbest : keysOf best = keysOf cs) : ∀ (l : List Int) (s : List Int) (d : List (Int × Int)), Src s → (keysOf d ++ l).Nodup → (∀ k ∈ l, k ∈ keysOf cs) → (∀ x ∈ d, 0 ≤ x.2) → d.length + l.length < 10000 →
    forP law_b18 law_b18_p l (z, st, s, cs, tf, best, costs, (), (), look, d, (), (), (), ()) ∧ ∃ s' d', forL law_b18 l (z, st, s, cs, tf, best, costs, (), (), look, d, (), (), (), ()) = .nx (z, st, s', cs, tf, best, costs, (), (), look, d', (), (), (), ()) ∧ Src s' ∧ keysOf d' = keysOf d ++ l ∧ (∀ x ∈ d', 0 ≤ x.2)
  | [], s, d, hs, _, _, h0, _ => ⟨trivial, s, d, rfl, hs, by rw [List.append_nil], h0⟩
  | k :: l, s, d, hs, hn, hk, h0, hl => by
    have hL : (LIM : Nat) = 1000000 := rfl
    simp only [List.length_cons] at hl
    obtain ⟨p1, v1, s1, e1, m1, c1⟩ := choose_ok hs (L := [(some (0 : Int)), (some (0 : Int)), (some (1 : Int)), (some ((0 : Int) - (1 : Int))), (some ((0 : Int) - (2 : Int))), (some (3 : Int))]) (by decide) (by decide)
    have v1s : v1.isSome = true := by
      simp only [List.mem_cons, List.not_mem_nil, or_false] at m1
      rcases m1 with rfl | rfl | rfl | rfl | rfl | rfl <;> rfl
    have kn : k ∉ d.map (·.1) := fun z => (List.nodup_append.mp hn).2.2 k z k List.mem_cons_self rfl
    have hb : law_b18 (z, st, s, cs, tf, best, costs, (), (), look, d, (), (), (), ()) k = .nx (z, st, s1, cs, tf, best, costs, (), (), look, d ++ [(k, max2 0 ((dget best k).getD default + v1.getD default))], (), (), (), ()) := by
      unfold law_b18
      simp only [e1]
      rw [dput_new kn]
    have kb : k ∈ keysOf best := by
      rw [hbest]
      exact hk k List.mem_cons_self
    have hp : law_b18_p (z, st, s, cs, tf, best, costs, (), (), look, d, (), (), (), ()) k := by
      unfold law_b18_p
      simp only [e1]
      exact ⟨⟨⟨⟨trivial, ⟨trivial, trivial, dget_mem kb⟩, ⟨⟨⟨trivial, trivial, trivial, ⟨trivial, trivial, trivial⟩, ⟨trivial, trivial, trivial⟩, trivial⟩, p1⟩, v1s⟩, trivial⟩, trivial⟩, trivial, by show d.length < LIM; omega⟩, trivial⟩
    have hk2 : keysOf (d ++ [(k, max2 0 ((dget best k).getD default + v1.getD default))]) = keysOf d ++ [k] := by simp [keysOf]
    obtain ⟨q, s', d', r1, r2, r3, r4⟩ := shares_loop hbest l s1 (d ++ [(k, max2 0 ((dget best k).getD default + v1.getD default))]) c1 (by rw [hk2, List.append_assoc]; exact hn) (fun j hj => hk j (List.mem_cons_of_mem _ hj)) (fun x hx => by
      rcases List.mem_append.mp hx with hx | hx
      · exact h0 x hx
      · rw [List.mem_singleton.mp hx]
        show 0 ≤ max2 0 _
        rw [max2_eq]
        omega) (by simp only [List.length_append, List.length_singleton]; omega)
    refine ⟨⟨hp, fun y hy => ?_⟩, s', d', by rw [forL_nx hb]; exact r1, r2, by rw [r3, hk2, List.append_assoc]; rfl, r4⟩
    rw [hb] at hy
    cases hy
    exact q
end
theorem stay_loop {cs : Charges} {tf : Tariff} {z s : List Int} {st look : Int} {best d : List (Int × Int)} {costs : List (List Int × Int)} : ∀ (l : List (List Int × Int)) (b : Bool), (∀ x ∈ l, ∀ k ∈ x.1, k ∈ keysOf d) →
    forP law_b23 law_b23_p l (z, st, s, cs, tf, best, costs, (), (), look, d, b, (), (), ()) ∧ forL law_b23 l (z, st, s, cs, tf, best, costs, (), (), look, d, b, (), (), ()) = .nx (z, st, s, cs, tf, best, costs, (), (), look, d, b && l.all (fun x => decide ((x.1.map (sh d)).sum ≤ x.2)), (), (), ())
  | [], b, _ => ⟨trivial, by rw [List.all_nil, Bool.and_true]; rfl⟩
  | x :: l, b, h => by
    have hb : law_b23 (z, st, s, cs, tf, best, costs, (), (), look, d, b, (), (), ()) x = .nx (z, st, s, cs, tf, best, costs, (), (), look, d, b && decide ((x.1.map (sh d)).sum ≤ x.2), (), (), ()) := rfl
    have hp : law_b23_p (z, st, s, cs, tf, best, costs, (), (), look, d, b, (), (), ()) x := ⟨⟨trivial, fun _ => ⟨⟨⟨trivial, fun k hk => ⟨trivial, dget_mem (h x List.mem_cons_self k hk)⟩⟩, trivial⟩, trivial, trivial⟩⟩, trivial⟩
    obtain ⟨q, e⟩ := stay_loop (cs := cs) (tf := tf) (z := z) (s := s) (st := st) (look := look) (best := best) (d := d) (costs := costs) l (b && decide ((x.1.map (sh d)).sum ≤ x.2)) fun y hy => h y (List.mem_cons_of_mem _ hy)
    refine ⟨⟨hp, fun y hy => ?_⟩, ?_⟩
    · rw [hb] at hy
      cases hy
      exact q
    · rw [forL_nx hb, e, List.all_cons, Bool.and_assoc]
section
variable {cs : Charges} {tf : Tariff} (D : Drawn cs tf)
include D
theorem Drawn.total {d : List (Int × Int)} (R : Right cs tf d) {T : List Int} {v : Int} (hT : Times T) (hv : tot (prO tf) (valsOf cs) T = some v) (hle : v ≤ ((keysOf cs).map (sh d)).sum) : ((keysOf cs).map (sh d)).sum = least_cost (cs, tf) := by
  have m := D.x.ok.leastC.2
  have h1 := m.low T v hT hv
  rw [D.x.vals] at m
  have h2 := group_le D.x R D.nd (fun k hk => hk) m
  omega
theorem look_ok {z s : List Int} {st look : Int} {best : List (Int × Int)} (hs : Src s) (hbest : keysOf best = keysOf cs) : law_b25_p (z, st, s, cs, tf, best, (law_groups (srt (keysOf cs))).map (fun G => (G, lcG cs tf G)), (), (), (), (), (), (), (), ()) look ∧
    ∃ s', law_b25 (z, st, s, cs, tf, best, (law_groups (srt (keysOf cs))).map (fun G => (G, lcG cs tf G)), (), (), (), (), (), (), (), ()) look = .nx (z, st, s', cs, tf, best, (law_groups (srt (keysOf cs))).map (fun G => (G, lcG cs tf G)), (), (), (), (), (), (), (), ()) ∧ Src s' := by
  have perm := srt_perm (keysOf cs)
  have few := D.few
  have hlen : (srt (keysOf cs)).length ≤ 5 := by
    rw [perm.length_eq, List.length_map]
    exact few
  obtain ⟨_, g2⟩ := groups_ok (L := srt (keysOf cs)) (by omega)
  generalize law_groups (srt (keysOf cs)) = g at g2
  generalize hc : g.map (fun G => (G, lcG cs tf G)) = costs
  obtain ⟨p1, s', d, e1, c1, k1, n1⟩ := shares_loop D (z := z) (st := st) (look := look) (best := best) (costs := costs) hbest (keysOf cs) s [] hs (by simpa [keysOf] using D.nd) (fun k hk => hk) (fun x hx => nomatch hx) (by
    simp only [List.length_nil, List.length_map]
    omega)
  have k1 : keysOf d = keysOf cs := by simpa [keysOf] using k1
  have ndd : (keysOf d).Nodup := by rw [k1]; exact D.nd
  have pos : ∀ k ∈ keysOf cs, 0 ≤ sh d k := fun k hk => by
    rw [← k1] at hk
    obtain ⟨x, hx, rfl⟩ := List.mem_map.mp hk
    unfold sh
    rw [dget_of ndd hx]
    exact n1 x hx
  obtain ⟨p2, e2⟩ := stay_loop (cs := cs) (tf := tf) (z := z) (s := s') (st := st) (look := look) (best := best) (d := d) (costs := costs) costs true (fun x hx k hk => by
    rw [← hc] at hx
    obtain ⟨G, hG, rfl⟩ := List.mem_map.mp hx
    rw [k1]
    exact perm.mem_iff.mp ((g2.sub G hG).subset hk))
  obtain ⟨r1, r2⟩ := right_ok D.x k1 pos D.ids
  obtain ⟨l1, l2⟩ := leavers_ok D.x (d := d) fun k hk => by rw [k1]; exact hk
  have st1 : (true && costs.all (fun x => decide ((x.1.map (sh d)).sum ≤ x.2))) = true ↔ Right cs tf d := by
    rw [right_iff D.x (f := lcG cs tf) fun G hG => (D.group hG).2.2, Bool.true_and, List.all_eq_true, ← hc]
    constructor
    · intro h G hG
      have := h (G, lcG cs tf G) (List.mem_map.mpr ⟨G, g2.all G hG, rfl⟩)
      exact of_decide_eq_true this
    · intro h x hx
      obtain ⟨G, hG, rfl⟩ := List.mem_map.mp hx
      exact decide_eq_true (h G (g2.sub G hG))
  generalize (true && costs.all (fun x => decide ((x.1.map (sh d)).sum ≤ x.2))) = stay at e2 st1
  have q1 : are_right (cs, tf, d) = stay := Bool.eq_iff_iff.mpr (r2.trans st1.symm)
  have q2 : (leavers (cs, tf, d)).isNone = stay := Bool.eq_iff_iff.mpr (l2.trans st1.symm)
  constructor
  · unfold law_b25_p
    refine ⟨trivial, ⟨trivial, p1⟩, fun e19 h19 => ?_⟩
    have h19 := e1.symm.trans h19
    cases h19
    refine ⟨trivial, ⟨trivial, p2⟩, fun e24 h24 => ?_⟩
    have h24 := e2.symm.trans h24
    cases h24
    dsimp only
    refine ⟨⟨⟨⟨trivial, trivial, trivial⟩, ?_⟩, trivial, trivial⟩, ?_, ?_⟩
    · exact r1
    · exact fun _ => trivial
    · intro _
      refine ⟨⟨⟨⟨⟨trivial, trivial, trivial⟩, ?_⟩, trivial, trivial⟩, trivial, trivial⟩, ?_, ?_⟩
      · exact l1
      · exact fun _ => trivial
      · exact fun _ => trivial
  · refine ⟨s', ?_, c1⟩
    unfold law_b25
    have e1' : forL law_b18 (cs.map fun x => x.1) (z, st, s, cs, tf, best, costs, (), (), look, [], (), (), (), ()) = .nx (z, st, s', cs, tf, best, costs, (), (), look, d, (), (), (), ()) := e1
    simp only [e1', Out.bind]
    simp only [e2, q1, q2]
    simp
theorem row_ok {z s : List Int} {st : Int} {best : List (Int × Int)} {costs : List (List Int × Int)} (hbest : keysOf best = keysOf cs) (R : Right cs tf best) (hsum : ((keysOf cs).map (sh best)).sum = least_cost (cs, tf)) {k : Int} (hk : k ∈ keysOf cs) :
    law_b29_p (z, st, s, cs, tf, best, costs, (), (), (), (), (), (), (), ()) k ∧ law_b29 (z, st, s, cs, tf, best, costs, (), (), (), (), (), (), (), ()) k = .nx (z, st, s, cs, tf, best, costs, (), (), (), (), (), (), (), ()) := by
  obtain ⟨x, hx, rfl⟩ := List.mem_map.mp hk
  obtain ⟨l1, l2, l3, l4⟩ := less_ok D.csd D.htf D.len hx
  obtain ⟨a1, a2⟩ := alone_ok D.csd D.htf D.len hx
  have lp := D.x.ok.leastC.1
  have kb : x.1 ∈ keysOf best := by rw [hbest]; exact hk
  have cx : chO cs x.1 = x.2 := by
    unfold chO
    rw [dget_of D.nd hx]
    rfl
  have up : sh best x.1 ≤ cost_alone (cs, tf, x.1) := by
    have := group_le D.x R (G := [x.1]) (List.nodup_cons.mpr ⟨(fun z => nomatch z), List.nodup_nil⟩) (fun j hj => by rw [List.mem_singleton.mp hj]; exact hk) (w := cost_alone (cs, tf, x.1)) (by
      rw [List.map_cons, List.map_nil, cx]
      exact a2)
    simpa using this
  have down : least_cost (cs, tf) - least_cost (without (cs, x.1), tf) ≤ sh best x.1 := by
    have hsub : (cs.filter fun y => !decide (y.1 = x.1)).Sublist cs := List.filter_sublist
    have W := D.csd.sub hsub
    have m := (W.at D.htf (by have := hsub.length_le; have := D.few; omega)).leastC.2
    rw [← without_eq] at m
    have e : valsOf (without (cs, x.1)) = (keysOf (without (cs, x.1))).map (chO cs) := by
      rw [without_eq]
      unfold valsOf keysOf
      rw [List.map_map]
      apply List.map_congr_left
      intro y hy
      simp only [Function.comp, chO]
      rw [dget_of D.nd (hsub.subset hy)]
      rfl
    rw [e] at m
    have g := group_le D.x R (G := keysOf (without (cs, x.1))) (by rw [without_eq]; exact (hsub.map _).nodup D.nd) (fun j hj => by
      rw [without_eq] at hj
      exact (hsub.map _).subset hj) m
    have pm := (perm_without D.nd hx).map (fun y => y.1)
    rw [← without_eq, List.map_cons] at pm
    have s1 := sum_permI (pm.map (sh best))
    rw [List.map_cons, List.sum_cons] at s1
    have s1 : ((keysOf cs).map (sh best)).sum = sh best x.1 + ((keysOf (without (cs, x.1))).map (sh best)).sum := s1
    omega
  constructor
  · unfold law_b29_p
    exact ⟨⟨⟨⟨trivial, trivial⟩, lp⟩, ⟨⟨⟨⟨trivial, trivial⟩, l1⟩, trivial⟩, l2⟩, trivial⟩, ⟨trivial, trivial, trivial, fun _ => ⟨⟨trivial, trivial, dget_mem kb⟩, trivial, fun _ => ⟨⟨⟨trivial, trivial, trivial⟩, a1⟩, trivial⟩⟩⟩, fun _ => trivial, fun _ => trivial⟩
  · unfold law_b29
    simp only
    rw [decide_eq_true l3, decide_eq_true (show least_cost (cs, tf) - least_cost (without (cs, x.1), tf) ≤ (dget best x.1).getD default from down), decide_eq_true (show (dget best x.1).getD default ≤ cost_alone (cs, tf, x.1) from up)]
    rfl
end
/-- charges and a tariff are drawn -/
theorem drawn_ok {s : List Int} (h : Src s) : ∃ cs s1 tf s2, law_charges s ((5 : Int), (7 : Int)) = (cs, s1) ∧ law_tariff s1 (7 : Int) = (tf, s2) ∧ law_charges_pre s ((5 : Int), (7 : Int)) ∧ law_tariff_pre s1 (7 : Int) ∧ Drawn cs tf ∧ Src s2 := by
  obtain ⟨p1, cs, s1, e1, a1, a2, a3, a4, c1⟩ := charges_ok h (most := 5) (last := 7) (by decide) (by decide) (by decide)
  obtain ⟨p2, tf, s2, e2, b1, b2, c2⟩ := tariff_ok c1 (last := 7) (by decide)
  exact ⟨cs, s1, tf, s2, e1, e2, p1, p2, ⟨a2, a1, a3, a4, b1⟩, c2⟩
end LawK
end
section
set_option linter.all false
set_option maxRecDepth 100000
set_option maxHeartbeats 4000000
namespace LawK
open Lmo Plain
theorem start_ok {z : List Int} (hz : ∀ x ∈ z, PySem.Builtin.Int.intBits x ≤ 1048576) {st : Int} (h0 : 0 ≤ st) (h1 : st ≤ 100) :
    law_b31_p (z, (), (), (), (), (), (), (), (), (), (), (), (), (), ()) st ∧ law_b31 (z, (), (), (), (), (), (), (), (), (), (), (), (), (), ()) st = .nx (z, (), (), (), (), (), (), (), (), (), (), (), (), (), ()) := by
  have hL : (LIM : Int) = 1000000 := rfl
  obtain ⟨p, c⟩ := stream_ok hz h0 h1
  obtain ⟨cs, s1, tf, s2, e1, e2, p1, p2, D, c2⟩ := drawn_ok c
  have few := D.few
  have perm := srt_perm (keysOf cs)
  have hlen : (srt (keysOf cs)).length ≤ 5 := by
    rw [perm.length_eq, List.length_map]
    exact few
  obtain ⟨u1, U, T, v, t1, t2, t3⟩ := urgent_ok D.x
  have R : Right cs tf (urgent_shares (cs, tf)) := ⟨U.most, U.room⟩
  have hsum := D.total R t1 t2 t3
  obtain ⟨r1, r2⟩ := right_ok D.x U.keys U.pos D.ids
  have r2 := r2.mpr R
  obtain ⟨g1, g2⟩ := groups_ok (L := srt (keysOf cs)) (by omega)
  have glen : (law_groups (srt (keysOf cs))).length ≤ 32 := by
    rw [g2.len]
    exact Nat.pow_le_pow_right (n := 2) (j := 5) (by decide) hlen
  have hkeys := U.keys
  generalize hB : urgent_shares (cs, tf) = best at *
  obtain ⟨k1, k2⟩ := costs_loop D (z := z) (s := s2) (st := st) (best := best) (law_groups (srt (keysOf cs))) [] (fun G hG => g2.sub G hG) (by simp only [List.length_nil]; omega)
  rw [List.nil_append] at k2
  have vsum : (best.map fun x => x.2).sum = ((keysOf cs).map (sh best)).sum := by
    rw [← hkeys]
    have ndb : (keysOf best).Nodup := by rw [hkeys]; exact D.nd
    unfold keysOf
    rw [List.map_map]
    apply congrArg
    apply List.map_congr_left
    intro x hx
    simp only [Function.comp, sh]
    rw [dget_of ndb hx]
    rfl
  have glast : ((law_groups (srt (keysOf cs))).map fun G => (G, lcG cs tf G)).getLast? = some (srt (keysOf cs), lcG cs tf (srt (keysOf cs))) := by
    rw [List.getLast?_map, g2.last]
    rfl
  have cne : ((law_groups (srt (keysOf cs))).map fun G => (G, lcG cs tf G)) ≠ [] := fun z => by
    rw [z] at glast
    cases glast
  have lall : lcG cs tf (srt (keysOf cs)) = least_cost (cs, tf) := by
    have m := (D.group (List.Sublist.refl _)).2.2
    have m2 := D.x.ok.leastC.2
    rw [D.x.vals] at m2
    exact m.uniq (m2.perm (perm.symm.map _))
  have lastv : (geti ((law_groups (srt (keysOf cs))).map fun G => (G, lcG cs tf G)) (-(1 : Int))).2 = least_cost (cs, tf) := by
    have : geti ((law_groups (srt (keysOf cs))).map fun G => (G, lcG cs tf G)) (-(1 : Int)) = (srt (keysOf cs), lcG cs tf (srt (keysOf cs))) := by
      rw [show (-(1 : Int)) = -1 from rfl, geti_last, glast]
      rfl
    rw [this, lall]
  obtain ⟨w1, e', w2, s', w3, w4⟩ := loop_ok (b := law_b25) (P := law_b25_p) (fun e => ∃ s, e = (z, st, s, cs, tf, best, (law_groups (srt (keysOf cs))).map (fun G => (G, lcG cs tf G)), (), (), (), (), (), (), (), ()) ∧ Src s) (L := rng 0 ((10 : Int)).toNat) (e := (z, st, s2, cs, tf, best, (law_groups (srt (keysOf cs))).map (fun G => (G, lcG cs tf G)), (), (), (), (), (), (), (), ())) (fun e x hx he => by
    obtain ⟨s, rfl, hs⟩ := he
    obtain ⟨q1, s', q2, q3⟩ := look_ok D (z := z) (st := st) (look := x) hs hkeys
    exact ⟨q1, _, q2, s', rfl, q3⟩) ⟨_, rfl, c2⟩
  subst w3
  obtain ⟨y1, e'', y2, y3⟩ := loop_ok (b := law_b29) (P := law_b29_p) (fun e => e = (z, st, s', cs, tf, best, (law_groups (srt (keysOf cs))).map (fun G => (G, lcG cs tf G)), (), (), (), (), (), (), (), ())) (L := keysOf cs) (e := (z, st, s', cs, tf, best, (law_groups (srt (keysOf cs))).map (fun G => (G, lcG cs tf G)), (), (), (), (), (), (), (), ())) (fun e k hk he => by
    subst he
    obtain ⟨q1, q2⟩ := row_ok D (z := z) (s := s') (st := st) (costs := (law_groups (srt (keysOf cs))).map (fun G => (G, lcG cs tf G))) hkeys R hsum hk
    exact ⟨q1, _, q2, rfl⟩) rfl
  subst y3
  generalize hC : (law_groups (srt (keysOf cs))).map (fun G => (G, lcG cs tf G)) = C at *
  have hbad : ((!decide ((best.map fun x => x.2).sum = (geti C (-(1 : Int))).2)) || (!decide (are_right (cs, tf, best) = true))) = false := by
    rw [decide_eq_true (vsum.trans (hsum.trans lastv.symm)), decide_eq_true r2]
    rfl
  constructor
  · unfold law_b31_p
    simp only [e1, e2, hC, hB]
    refine ⟨⟨⟨trivial, trivial⟩, p⟩, ⟨⟨⟨trivial, trivial⟩, p1⟩, trivial, p2⟩, ⟨⟨⟨trivial, trivial⟩, u1⟩, trivial⟩, ⟨⟨⟨trivial, by show cs.length < 64; omega⟩, g1⟩, ?_⟩, fun e12 h12 => ?_⟩
    · exact k1
    · have h12 := k2.symm.trans h12
      cases h12
      dsimp only
      refine ⟨⟨⟨⟨trivial, trivial⟩, ⟨trivial, at_last cne⟩, trivial⟩, fun _ => ⟨⟨⟨trivial, trivial, trivial⟩, r1⟩, trivial, trivial⟩⟩, fun _ => trivial, fun _ => ⟨⟨⟨trivial, by omega, by omega⟩, w1⟩, fun e26 h26 => ?_⟩⟩
      have h26 := w2.symm.trans h26
      cases h26
      exact ⟨⟨trivial, y1⟩, fun _ _ => trivial⟩
  · unfold law_b31
    simp only [e1, e2]
    show Out.bind (forL law_b11 (law_groups (srt (keysOf cs))) (z, st, s2, cs, tf, _, [], (), (), (), (), (), (), (), ())) _ = _
    rw [hB, k2]
    simp only [Out.bind, hbad, Bool.false_eq_true, if_false]
    rw [w2]
    simp only
    show Out.bind (forL law_b29 (keysOf cs) (z, st, s', cs, tf, best, C, (), (), (), (), (), (), (), ())) _ = _
    rw [y2]
    rfl
theorem plain (z : List Int) (hl : z.length ≤ 63) (hz : ∀ x ∈ z, PySem.Builtin.Int.intBits x ≤ 1048576) : law_pre z ∧ law z = true := by
  have hL : (LIM : Nat) = 1000000 := rfl
  have m1 : 1 ≤ max2 (1 : Int) (min2 (2 : Int) (z.length : Int)) ∧ max2 (1 : Int) (min2 (2 : Int) (z.length : Int)) ≤ 2 := by
    unfold max2 min2
    split <;> split <;> omega
  obtain ⟨w1, e', w2, w3⟩ := loop_ok (b := law_b31) (P := law_b31_p) (fun e => e = (z, (), (), (), (), (), (), (), (), (), (), (), (), (), ())) (L := rng 0 ((max2 (1 : Int) (min2 (2 : Int) (z.length : Int)))).toNat) (fun e x hx he => by
    subst he
    obtain ⟨r1, r2⟩ := mem_rng.mp hx
    obtain ⟨q1, q2⟩ := start_ok hz (st := x) r1 (by omega)
    exact ⟨q1, _, q2, rfl⟩) rfl
  subst w3
  constructor
  · unfold law_pre
    exact ⟨⟨⟨⟨⟨trivial, ⟨trivial, trivial, trivial⟩, trivial⟩, trivial⟩, by omega, by omega⟩, w1⟩, fun _ _ => trivial⟩
  · unfold law law_o
    simp only [w2, Out.bind, Out.get]
end LawK
end
section
set_option Elab.async false
set_option linter.all false
set_option maxRecDepth 100000
set_option maxHeartbeats 0
namespace LawK
open PySem PySem.Spec PyProof.Rows L2 Lmo
def hd_0 : He.DefD := ⟨("cost_for", none), "cost_for", "cost_for", defArgs s_cost_for, defBody s_cost_for, defScope s_cost_for, [], []⟩
def hd_1 : He.DefD := ⟨("without", none), "without", "without", defArgs s_without, defBody s_without, defScope s_without, [], []⟩
def hd_2 : He.DefD := ⟨("price_at", none), "price_at", "price_at", defArgs s_price_at, defBody s_price_at, defScope s_price_at, [], []⟩
def hd_3 : He.DefD := ⟨("Links", some "link"), "link", "Links.link", defArgs s_Links_link, defBody s_Links_link, defScope s_Links_link, [], []⟩
def hd_4 : He.DefD := ⟨("Links", some "__init__"), "__init__", "Links.__init__", defArgs s_Links_init, defBody s_Links_init, defScope s_Links_init, [], []⟩
def hd_5 : He.DefD := ⟨("Links", some "can_go"), "can_go", "Links.can_go", defArgs s_Links_can_go, defBody s_Links_can_go, defScope s_Links_can_go, [], []⟩
def hd_6 : He.DefD := ⟨("Links", some "least_from"), "least_from", "Links.least_from", defArgs s_Links_least_from, defBody s_Links_least_from, defScope s_Links_least_from, [], []⟩
def hd_7 : He.DefD := ⟨("Links", some "row"), "row", "Links.row", defArgs s_Links_row, defBody s_Links_row, defScope s_Links_row, [], []⟩
def hd_8 : He.DefD := ⟨("Links", some "cost"), "cost", "Links.cost", defArgs s_Links_cost, defBody s_Links_cost, defScope s_Links_cost, [], []⟩
def hd_9 : He.DefD := ⟨("Links", some "counts"), "counts", "Links.counts", defArgs s_Links_counts, defBody s_Links_counts, defScope s_Links_counts, [], []⟩
def hd_10 : He.DefD := ⟨("Links", some "times"), "times", "Links.times", defArgs s_Links_times, defBody s_Links_times, defScope s_Links_times, [], []⟩
def hd_11 : He.DefD := ⟨("least_cost", none), "least_cost", "least_cost", defArgs s_least_cost, defBody s_least_cost, defScope s_least_cost, [], []⟩
def hd_12 : He.DefD := ⟨("cost_alone", none), "cost_alone", "cost_alone", defArgs s_cost_alone, defBody s_cost_alone, defScope s_cost_alone, [], []⟩
def hd_13 : He.DefD := ⟨("is_integer", none), "is_integer", "is_integer", defArgs s_is_integer, defBody s_is_integer, defScope s_is_integer, [], []⟩
def hd_14 : He.DefD := ⟨("is_id", none), "is_id", "is_id", defArgs s_is_id, defBody s_is_id, defScope s_is_id, [], []⟩
def hd_15 : He.DefD := ⟨("offer", none), "offer", "offer", defArgs s_offer, defBody s_offer, defScope s_offer, [], []⟩
def hd_16 : He.DefD := ⟨("greatest_share", none), "greatest_share", "greatest_share", defArgs s_greatest_share, defBody s_greatest_share, defScope s_greatest_share, [], []⟩
def hd_17 : He.DefD := ⟨("spots_of", none), "spots_of", "spots_of", defArgs s_spots_of, defBody s_spots_of, defScope s_spots_of, [], []⟩
def hd_18 : He.DefD := ⟨("offers_at", none), "offers_at", "offers_at", defArgs s_offers_at, defBody s_offers_at, defScope s_offers_at, [], []⟩
def hd_19 : He.DefD := ⟨("leavers", none), "leavers", "leavers", defArgs s_leavers, defBody s_leavers, defScope s_leavers, [], []⟩
def hd_20 : He.DefD := ⟨("is_share", none), "is_share", "is_share", defArgs s_is_share, defBody s_is_share, defScope s_is_share, [], []⟩
def hd_21 : He.DefD := ⟨("are_formed", none), "are_formed", "are_formed", defArgs s_are_formed, defBody s_are_formed, defScope s_are_formed, [], []⟩
def hd_22 : He.DefD := ⟨("are_right", none), "are_right", "are_right", defArgs s_are_right, defBody s_are_right, defScope s_are_right, [], []⟩
def hd_23 : He.DefD := ⟨("Raising", some "spots_for"), "spots_for", "Raising.spots_for", defArgs s_Raising_spots_for, defBody s_Raising_spots_for, defScope s_Raising_spots_for, [], []⟩
def hd_24 : He.DefD := ⟨("Raising", some "add"), "add", "Raising.add", defArgs s_Raising_add, defBody s_Raising_add, defScope s_Raising_add, [], []⟩
def hd_25 : He.DefD := ⟨("Raising", some "stop"), "stop", "Raising.stop", defArgs s_Raising_stop, defBody s_Raising_stop, defScope s_Raising_stop, [], []⟩
def hd_26 : He.DefD := ⟨("Raising", some "raise_at"), "raise_at", "Raising.raise_at", defArgs s_Raising_raise_at, defBody s_Raising_raise_at, defScope s_Raising_raise_at, [], []⟩
def hd_27 : He.DefD := ⟨("Raising", some "far"), "far", "Raising.far", defArgs s_Raising_far, defBody s_Raising_far, defScope s_Raising_far, [], []⟩
def hd_28 : He.DefD := ⟨("Raising", some "__init__"), "__init__", "Raising.__init__", defArgs s_Raising_init, defBody s_Raising_init, defScope s_Raising_init, [], []⟩
def hd_29 : He.DefD := ⟨("urgent_shares", none), "urgent_shares", "urgent_shares", defArgs s_urgent_shares, defBody s_urgent_shares, defScope s_urgent_shares, [], []⟩
def hd_30 : He.DefD := ⟨("_law_stream", none), "_law_stream", "_law_stream", defArgs s_law_stream, defBody s_law_stream, defScope s_law_stream, [], []⟩
def hd_31 : He.DefD := ⟨("_law_draw", none), "_law_draw", "_law_draw", defArgs s_law_draw, defBody s_law_draw, defScope s_law_draw, [], []⟩
def hd_32 : He.DefD := ⟨("_law_choose", none), "_law_choose", "_law_choose", defArgs s_law_choose, defBody s_law_choose, defScope s_law_choose, [], []⟩
def hd_33 : He.DefD := ⟨("_law_shuffled", none), "_law_shuffled", "_law_shuffled", defArgs s_law_shuffled, defBody s_law_shuffled, defScope s_law_shuffled, [], []⟩
def hd_34 : He.DefD := ⟨("_law_tariff", none), "_law_tariff", "_law_tariff", defArgs s_law_tariff, defBody s_law_tariff, defScope s_law_tariff, [], []⟩
def hd_35 : He.DefD := ⟨("_law_charge", none), "_law_charge", "_law_charge", defArgs s_law_charge, defBody s_law_charge, defScope s_law_charge, [], []⟩
def hd_36 : He.DefD := ⟨("_law_charges", none), "_law_charges", "_law_charges", defArgs s_law_charges, defBody s_law_charges, defScope s_law_charges, [], []⟩
def hd_37 : He.DefD := ⟨("_law_groups", none), "_law_groups", "_law_groups", defArgs s_law_groups, defBody s_law_groups, defScope s_law_groups, [], []⟩
def hd_38 : He.DefD := ⟨("law", none), "law", "law", defArgs s_law, defBody s_law, defScope s_law, [], []⟩
def hd_fn : List He.DefD := [hd_0, hd_1, hd_2, hd_3, hd_4, hd_5, hd_6, hd_7, hd_8, hd_9, hd_10, hd_11, hd_12, hd_13, hd_14, hd_15, hd_16, hd_17, hd_18, hd_19, hd_20, hd_21, hd_22, hd_23, hd_24, hd_25, hd_26, hd_27, hd_28, hd_29, hd_30, hd_31, hd_32, hd_33, hd_34, hd_35, hd_36, hd_37, hd_38]
def hd_fa : List He.Fa := [.free "all", .free "bool", .free "dict", .free "int", .free "isinstance", .free "len", .free "list", .free "max", .free "min", .free "range", .free "set", .free "sorted", .free "sum", .int "GREATEST_ID" 1000000, .glo "cost_for", .glo "without", .glo "price_at", .meth "Links" "link", .meth "Links" "can_go", .meth "Links" "least_from", .meth "Links" "row", .meth "Links" "cost", .meth "Links" "counts", .meth "Links" "times", .glo "least_cost", .glo "cost_alone", .glo "is_integer", .glo "is_id", .glo "offer", .glo "greatest_share", .glo "spots_of", .glo "offers_at", .glo "leavers", .glo "is_share", .glo "are_formed", .glo "are_right", .meth "Raising" "spots_for", .meth "Raising" "add", .meth "Raising" "stop", .meth "Raising" "raise_at", .meth "Raising" "far", .glo "urgent_shares", .glo "_law_stream", .glo "_law_draw", .glo "_law_choose", .glo "_law_shuffled", .glo "_law_tariff", .glo "_law_charge", .glo "_law_charges", .glo "_law_groups", .glo "law", .cls "Links", .mkr "Links", .glo "Links", .noat "Links" "lots", .noat "Links" "spots", .noat "Links" "tolls", .noat "Links" "costs", .noat "Links" "known", .cls "Raising", .mkr "Raising", .glo "Raising", .noat "Raising" "lots", .noat "Raising" "room", .noat "Raising" "held", .noat "Raising" "going", .noat "Raising" "stops"]
abbrev hd_R : PySem.W.OpenRow := PySem.W.OpenLaw.row PySem.Challenge.rw_lastmoments_k83_whole_nobody_leaves
abbrev hd_hk : PySem.W.Hook := He.hookD 5 hd_fa hd_fn
def hd_ob (s : PySem.W.SharedT) : He.AlD := He.obsDG 5 hd_fa hd_fn (HandSHeadRun.getT s)
theorem hd_eq (s : PySem.W.SharedT) : hd_ob s = hd_hk.obs s.abs := He.obsDG_eq (HandSHeadRun.getT_eq s)
def hd_l0 : List PySem.Str := ["is_integer", "GREATEST_ID", "is_id", "cost_for", "without", "price_at", "Links", "least_cost", "cost_alone", "offer", "greatest_share", "spots_of", "offers_at", "leavers", "is_share", "are_formed", "are_right", "Raising", "urgent_shares", "_law_stream", "_law_draw", "_law_choose", "_law_shuffled", "_law_tariff", "_law_charge", "_law_charges", "_law_groups"]
def hd_loose : List PySem.Str := hd_l0
theorem hd_run (w : World) : HandSHeadRun.RunEq hd_R (PySem.W.view hd_R.prog [34]) hd_hk hd_ob 6000 hd_loose w := by
  intro os
  kernel_rfl
theorem hd_facts {K : PySem.W.Frag} {h : Heap} {mg : Str → Option Value} (X : K.In h) (G : h.Ns mainGlobals mg) (c : He.SaysD hd_fa hd_fn K) :
    ∃ a : Ad, Fa K mg a ∧ ∀ (s : Shared) (v : Value), BindsTo s a.law_d ⟨[v], []⟩ [("_law_script", v)] := by
  obtain ⟨fd0, F0⟩ := c.def_ 0 (d := hd_0) rfl
  obtain ⟨fd1, F1⟩ := c.def_ 1 (d := hd_1) rfl
  obtain ⟨fd2, F2⟩ := c.def_ 2 (d := hd_2) rfl
  obtain ⟨fd3, F3⟩ := c.def_ 3 (d := hd_3) rfl
  obtain ⟨fd4, F4⟩ := c.def_ 4 (d := hd_4) rfl
  obtain ⟨fd5, F5⟩ := c.def_ 5 (d := hd_5) rfl
  obtain ⟨fd6, F6⟩ := c.def_ 6 (d := hd_6) rfl
  obtain ⟨fd7, F7⟩ := c.def_ 7 (d := hd_7) rfl
  obtain ⟨fd8, F8⟩ := c.def_ 8 (d := hd_8) rfl
  obtain ⟨fd9, F9⟩ := c.def_ 9 (d := hd_9) rfl
  obtain ⟨fd10, F10⟩ := c.def_ 10 (d := hd_10) rfl
  obtain ⟨fd11, F11⟩ := c.def_ 11 (d := hd_11) rfl
  obtain ⟨fd12, F12⟩ := c.def_ 12 (d := hd_12) rfl
  obtain ⟨fd13, F13⟩ := c.def_ 13 (d := hd_13) rfl
  obtain ⟨fd14, F14⟩ := c.def_ 14 (d := hd_14) rfl
  obtain ⟨fd15, F15⟩ := c.def_ 15 (d := hd_15) rfl
  obtain ⟨fd16, F16⟩ := c.def_ 16 (d := hd_16) rfl
  obtain ⟨fd17, F17⟩ := c.def_ 17 (d := hd_17) rfl
  obtain ⟨fd18, F18⟩ := c.def_ 18 (d := hd_18) rfl
  obtain ⟨fd19, F19⟩ := c.def_ 19 (d := hd_19) rfl
  obtain ⟨fd20, F20⟩ := c.def_ 20 (d := hd_20) rfl
  obtain ⟨fd21, F21⟩ := c.def_ 21 (d := hd_21) rfl
  obtain ⟨fd22, F22⟩ := c.def_ 22 (d := hd_22) rfl
  obtain ⟨fd23, F23⟩ := c.def_ 23 (d := hd_23) rfl
  obtain ⟨fd24, F24⟩ := c.def_ 24 (d := hd_24) rfl
  obtain ⟨fd25, F25⟩ := c.def_ 25 (d := hd_25) rfl
  obtain ⟨fd26, F26⟩ := c.def_ 26 (d := hd_26) rfl
  obtain ⟨fd27, F27⟩ := c.def_ 27 (d := hd_27) rfl
  obtain ⟨fd28, F28⟩ := c.def_ 28 (d := hd_28) rfl
  obtain ⟨fd29, F29⟩ := c.def_ 29 (d := hd_29) rfl
  obtain ⟨fd30, F30⟩ := c.def_ 30 (d := hd_30) rfl
  obtain ⟨fd31, F31⟩ := c.def_ 31 (d := hd_31) rfl
  obtain ⟨fd32, F32⟩ := c.def_ 32 (d := hd_32) rfl
  obtain ⟨fd33, F33⟩ := c.def_ 33 (d := hd_33) rfl
  obtain ⟨fd34, F34⟩ := c.def_ 34 (d := hd_34) rfl
  obtain ⟨fd35, F35⟩ := c.def_ 35 (d := hd_35) rfl
  obtain ⟨fd36, F36⟩ := c.def_ 36 (d := hd_36) rfl
  obtain ⟨fd37, F37⟩ := c.def_ 37 (d := hd_37) rfl
  obtain ⟨fd38, F38⟩ := c.def_ 38 (d := hd_38) rfl
  refine ⟨{ cost_for := _, cost_for_d := fd0, without := _, without_d := fd1, price_at := _, price_at_d := fd2, Links_link := _, Links_link_d := fd3, Links_init := _, Links_init_d := fd4, Links_can_go := _, Links_can_go_d := fd5, Links_least_from := _, Links_least_from_d := fd6, Links_row := _, Links_row_d := fd7, Links_cost := _, Links_cost_d := fd8, Links_counts := _, Links_counts_d := fd9, Links_times := _, Links_times_d := fd10, least_cost := _, least_cost_d := fd11, cost_alone := _, cost_alone_d := fd12, is_integer := _, is_integer_d := fd13, is_id := _, is_id_d := fd14, offer := _, offer_d := fd15, greatest_share := _, greatest_share_d := fd16, spots_of := _, spots_of_d := fd17, offers_at := _, offers_at_d := fd18, leavers := _, leavers_d := fd19, is_share := _, is_share_d := fd20, are_formed := _, are_formed_d := fd21, are_right := _, are_right_d := fd22, Raising_spots_for := _, Raising_spots_for_d := fd23, Raising_add := _, Raising_add_d := fd24, Raising_stop := _, Raising_stop_d := fd25, Raising_raise_at := _, Raising_raise_at_d := fd26, Raising_far := _, Raising_far_d := fd27, Raising_init := _, Raising_init_d := fd28, urgent_shares := _, urgent_shares_d := fd29, law_stream := _, law_stream_d := fd30, law_draw := _, law_draw_d := fd31, law_choose := _, law_choose_d := fd32, law_shuffled := _, law_shuffled_d := fd33, law_tariff := _, law_tariff_d := fd34, law_charge := _, law_charge_d := fd35, law_charges := _, law_charges_d := fd36, law_groups := _, law_groups_d := fd37, law := _, law_d := fd38, Links := _, Raising := _ }, ⟨He.free_ok X G (c.fact 0 (f := .free "all") rfl), He.free_ok X G (c.fact 1 (f := .free "bool") rfl), He.free_ok X G (c.fact 2 (f := .free "dict") rfl), He.free_ok X G (c.fact 3 (f := .free "int") rfl), He.free_ok X G (c.fact 4 (f := .free "isinstance") rfl), He.free_ok X G (c.fact 5 (f := .free "len") rfl), He.free_ok X G (c.fact 6 (f := .free "list") rfl), He.free_ok X G (c.fact 7 (f := .free "max") rfl), He.free_ok X G (c.fact 8 (f := .free "min") rfl), He.free_ok X G (c.fact 9 (f := .free "range") rfl), He.free_ok X G (c.fact 10 (f := .free "set") rfl), He.free_ok X G (c.fact 11 (f := .free "sorted") rfl), He.free_ok X G (c.fact 12 (f := .free "sum") rfl), He.int_ok X G (c.fact 13 (f := .int "GREATEST_ID" 1000000) rfl), F0, F0.bindsN fun _ _ _ _ _ _ us hl => match us, hl with | [_, _], _ => rfl, He.glo_ok X G (c.fact 14 (f := .glo "cost_for") rfl), F1, F1.bindsN fun _ _ _ _ _ _ us hl => match us, hl with | [_, _], _ => rfl, He.glo_ok X G (c.fact 15 (f := .glo "without") rfl), F2, F2.bindsN fun _ _ _ _ _ _ us hl => match us, hl with | [_, _], _ => rfl, He.glo_ok X G (c.fact 16 (f := .glo "price_at") rfl), F3, F3.bindsN fun _ _ _ _ _ _ us hl => match us, hl with | [_, _, _], _ => rfl, He.meth_ok (c.fact 17 (f := .meth "Links" "link") rfl), F4, F4.bindsN fun _ _ _ _ _ _ us hl => match us, hl with | [_, _, _], _ => rfl, F5, F5.bindsN fun _ _ _ _ _ _ us hl => match us, hl with | [_, _, _, _], _ => rfl, He.meth_ok (c.fact 18 (f := .meth "Links" "can_go") rfl), F6, F6.bindsN fun _ _ _ _ _ _ us hl => match us, hl with | [_, _, _], _ => rfl, He.meth_ok (c.fact 19 (f := .meth "Links" "least_from") rfl), F7, F7.bindsN fun _ _ _ _ _ _ us hl => match us, hl with | [_, _], _ => rfl, He.meth_ok (c.fact 20 (f := .meth "Links" "row") rfl), F8, F8.bindsN fun _ _ _ _ _ _ us hl => match us, hl with | [_, _], _ => rfl, He.meth_ok (c.fact 21 (f := .meth "Links" "cost") rfl), F9, F9.bindsN fun _ _ _ _ _ _ us hl => match us, hl with | [_], _ => rfl, He.meth_ok (c.fact 22 (f := .meth "Links" "counts") rfl), F10, F10.bindsN fun _ _ _ _ _ _ us hl => match us, hl with | [_, _], _ => rfl, He.meth_ok (c.fact 23 (f := .meth "Links" "times") rfl), F11, F11.bindsN fun _ _ _ _ _ _ us hl => match us, hl with | [_, _], _ => rfl, He.glo_ok X G (c.fact 24 (f := .glo "least_cost") rfl), F12, F12.bindsN fun _ _ _ _ _ _ us hl => match us, hl with | [_, _, _], _ => rfl, He.glo_ok X G (c.fact 25 (f := .glo "cost_alone") rfl), F13, F13.bindsN fun _ _ _ _ _ _ us hl => match us, hl with | [_, _, _], _ => rfl, He.glo_ok X G (c.fact 26 (f := .glo "is_integer") rfl), F14, F14.bindsN fun _ _ _ _ _ _ us hl => match us, hl with | [_], _ => rfl, He.glo_ok X G (c.fact 27 (f := .glo "is_id") rfl), F15, F15.bindsN fun _ _ _ _ _ _ us hl => match us, hl with | [_, _, _], _ => rfl, He.glo_ok X G (c.fact 28 (f := .glo "offer") rfl), F16, F16.bindsN fun _ _ _ _ _ _ us hl => match us, hl with | [_], _ => rfl, He.glo_ok X G (c.fact 29 (f := .glo "greatest_share") rfl), F17, F17.bindsN fun _ _ _ _ _ _ us hl => match us, hl with | [_, _], _ => rfl, He.glo_ok X G (c.fact 30 (f := .glo "spots_of") rfl), F18, F18.bindsN fun _ _ _ _ _ _ us hl => match us, hl with | [_, _, _], _ => rfl, He.glo_ok X G (c.fact 31 (f := .glo "offers_at") rfl), F19, F19.bindsN fun _ _ _ _ _ _ us hl => match us, hl with | [_, _, _], _ => rfl, He.glo_ok X G (c.fact 32 (f := .glo "leavers") rfl), F20, F20.bindsN fun _ _ _ _ _ _ us hl => match us, hl with | [_], _ => rfl, He.glo_ok X G (c.fact 33 (f := .glo "is_share") rfl), F21, F21.bindsN fun _ _ _ _ _ _ us hl => match us, hl with | [_, _], _ => rfl, He.glo_ok X G (c.fact 34 (f := .glo "are_formed") rfl), F22, F22.bindsN fun _ _ _ _ _ _ us hl => match us, hl with | [_, _, _], _ => rfl, He.glo_ok X G (c.fact 35 (f := .glo "are_right") rfl), F23, F23.bindsN fun _ _ _ _ _ _ us hl => match us, hl with | [_, _, _], _ => rfl, He.meth_ok (c.fact 36 (f := .meth "Raising" "spots_for") rfl), F24, F24.bindsN fun _ _ _ _ _ _ us hl => match us, hl with | [_, _, _, _], _ => rfl, He.meth_ok (c.fact 37 (f := .meth "Raising" "add") rfl), F25, F25.bindsN fun _ _ _ _ _ _ us hl => match us, hl with | [_, _, _, _], _ => rfl, He.meth_ok (c.fact 38 (f := .meth "Raising" "stop") rfl), F26, F26.bindsN fun _ _ _ _ _ _ us hl => match us, hl with | [_, _], _ => rfl, He.meth_ok (c.fact 39 (f := .meth "Raising" "raise_at") rfl), F27, F27.bindsN fun _ _ _ _ _ _ us hl => match us, hl with | [_, _], _ => rfl, He.meth_ok (c.fact 40 (f := .meth "Raising" "far") rfl), F28, F28.bindsN fun _ _ _ _ _ _ us hl => match us, hl with | [_, _, _], _ => rfl, F29, F29.bindsN fun _ _ _ _ _ _ us hl => match us, hl with | [_, _], _ => rfl, He.glo_ok X G (c.fact 41 (f := .glo "urgent_shares") rfl), F30, F30.bindsN fun _ _ _ _ _ _ us hl => match us, hl with | [_, _], _ => rfl, He.glo_ok X G (c.fact 42 (f := .glo "_law_stream") rfl), F31, F31.bindsN fun _ _ _ _ _ _ us hl => match us, hl with | [_, _], _ => rfl, He.glo_ok X G (c.fact 43 (f := .glo "_law_draw") rfl), F32, F32.bindsN fun _ _ _ _ _ _ us hl => match us, hl with | [_, _], _ => rfl, He.glo_ok X G (c.fact 44 (f := .glo "_law_choose") rfl), F33, F33.bindsN fun _ _ _ _ _ _ us hl => match us, hl with | [_, _], _ => rfl, He.glo_ok X G (c.fact 45 (f := .glo "_law_shuffled") rfl), F34, F34.bindsN fun _ _ _ _ _ _ us hl => match us, hl with | [_, _], _ => rfl, He.glo_ok X G (c.fact 46 (f := .glo "_law_tariff") rfl), F35, F35.bindsN fun _ _ _ _ _ _ us hl => match us, hl with | [_, _], _ => rfl, He.glo_ok X G (c.fact 47 (f := .glo "_law_charge") rfl), F36, F36.bindsN fun _ _ _ _ _ _ us hl => match us, hl with | [_, _, _], _ => rfl, He.glo_ok X G (c.fact 48 (f := .glo "_law_charges") rfl), F37, F37.bindsN fun _ _ _ _ _ _ us hl => match us, hl with | [_], _ => rfl, He.glo_ok X G (c.fact 49 (f := .glo "_law_groups") rfl), F38, F38.bindsN fun _ _ _ _ _ _ us hl => match us, hl with | [_], _ => rfl, He.glo_ok X G (c.fact 50 (f := .glo "law") rfl), He.cls_ok (c.fact 51 (f := .cls "Links") rfl), He.mkr_ok (c.fact 52 (f := .mkr "Links") rfl), He.glo_ok X G (c.fact 53 (f := .glo "Links") rfl), He.noat_ok (c.fact 54 (f := .noat "Links" "lots") rfl), He.noat_ok (c.fact 55 (f := .noat "Links" "spots") rfl), He.noat_ok (c.fact 56 (f := .noat "Links" "tolls") rfl), He.noat_ok (c.fact 57 (f := .noat "Links" "costs") rfl), He.noat_ok (c.fact 58 (f := .noat "Links" "known") rfl), He.cls_ok (c.fact 59 (f := .cls "Raising") rfl), He.mkr_ok (c.fact 60 (f := .mkr "Raising") rfl), He.glo_ok X G (c.fact 61 (f := .glo "Raising") rfl), He.noat_ok (c.fact 62 (f := .noat "Raising" "lots") rfl), He.noat_ok (c.fact 63 (f := .noat "Raising" "room") rfl), He.noat_ok (c.fact 64 (f := .noat "Raising" "held") rfl), He.noat_ok (c.fact 65 (f := .noat "Raising" "going") rfl), He.noat_ok (c.fact 66 (f := .noat "Raising" "stops") rfl)⟩, fun s v => FunD.bindsA (ps := ["_law_script"]) F38 (fun _ _ _ _ _ _ us hl => match us, hl with | [_], _ => rfl) s [v] rfl⟩
/-- what is left of the law: the plain part -/
theorem law_holds (plain : ∀ ns : List Int, ns.length ≤ 63 → (∀ z ∈ ns, Builtin.Int.intBits z ≤ 1048576) → law_pre ns ∧ law ns = true) : PySem.Challenge.rw_lastmoments_k83_whole_nobody_leaves.Holds := by
  w_on; o_law
  refine HandSHeadRun.head_any (r := PySem.W.OpenLaw.row PySem.Challenge.rw_lastmoments_k83_whole_nobody_leaves) (q := PySem.W.view (PySem.W.OpenLaw.row PySem.Challenge.rw_lastmoments_k83_whole_nobody_leaves).prog [34]) (H := hd_hk) (ob := hd_ob) (M := 6000) (loose := hd_loose) (d := HandSHeadRun.topDef (PySem.W.OpenLaw.row PySem.Challenge.rw_lastmoments_k83_whole_nobody_leaves).prog 34) (kwd := []) hd_eq
    (by kernel_rfl) (fun s => by kernel_rfl) hd_run (by kernel_rfl) (by kernel_rfl) (by kernel_rfl) (by rfl) (by first | assumption | decide +kernel) (by decide +kernel) ⟨rfl, rfl, rfl, rfl, rfl, by decide +kernel⟩ ?hw ?hc
  case hw => w_witness2
  case hc =>
    refine walk_bits (law := PySem.Challenge.rw_lastmoments_k83_whole_nobody_leaves) (most := 63) (k := 108) (par := "_law_script") (CX := L2.CX0) rfl (by decide) (by kernel_rfl) ⟨rfl, by decide, by decide⟩ ?F (fun _ _ _ _ z => z)
    intro w mg f h Y G hmg0
    obtain ⟨K, KX, c⟩ := Y
    have hmg : mg ("law" : PySem.Str) = some (.ref f) := by
      have e : (HandSHeadRun.topDef (PySem.W.OpenLaw.row PySem.Challenge.rw_lastmoments_k83_whole_nobody_leaves).prog 34).name = ("law" : PySem.Str) := by kernel_rfl
      rw [← e]
      exact hmg0
    obtain ⟨a, hfa, hb⟩ := hd_facts KX G c
    have e := hmg.symm.trans hfa.g_law
    cases e
    refine ⟨K, a.law_d, _, KX, hb, fun H b zs hl hbits hs => ?_, fun base _ _ => ok_law hfa⟩
    obtain ⟨p1, p2⟩ := plain zs hl hbits
    refine ⟨fun _ => none, zs, (fun _ _ z => nomatch z), ⟨_, rfl, b, rfl, hs, Nat.le_trans hl (by decide)⟩, p1, fun v w' H' _ hv => ?_⟩
    rw [← p2]
    exact hv
end LawK
end
theorem PySem.Challenge.cw_lastmoments_k83_whole_nobody_leaves_holds : PySem.Challenge.rw_lastmoments_k83_whole_nobody_leaves.Holds :=
  LawK.law_holds LawK.plain
