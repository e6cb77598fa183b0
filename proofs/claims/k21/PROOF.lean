import PyProof.Rows.All
import Wide.All
import OpenK.AllK
import Wide.FinOn
import HandS.ForMost
import HandS.ForExc
import HandS.Wide
import HandS.Flow
import HandS.TupAny
import HandS.TupLe
import HandS.IsInst
import HandS.Deep
import HandS.SortInts
import HandS.Gcd
import HandS.Zip
import KE.GoesNew
import KE.GoesEnum
import HandS.More
import HandS.SetFor
import HandS.Defaults
import HandS.ExcOwn
import HandS.Star
import HandS.Style
import HandS.WordsExc
import HandS.Head0
import HandS.Head1
import HandS.Head2
import HandS.HeadEnd
import HandS.HeadHook1
import HandS.HeadHook2
import HandS.EndBits
import HandS.HeadWalk
import HandS.TryOnly
import HandS.TryMany
import HandS.ExcIs
import HandS.ExcField
import HandS.Head3
import PySem.Challenge.RW_firingrounds_k21_edge_rooms
set_option Elab.async false
set_option linter.all false
set_option maxRecDepth 100000
set_option maxHeartbeats 0
/-! F1: trees, their standing for values, the state of a frame. -/
namespace Pf
open PySem PySem.Spec PyProof.Rows L2

/-- a Python value as a tree -/
inductive D where
  | non | bl (b : Bool) | int (i : Int) | str (s : Str)
  | tup (xs : List D) | lst (xs : List D) | scr (xs : List D) | dic (kvs : List (D × D)) | clo (k : Nat) (cap : List D)
abbrev Env := List (Option D)
/-- an error in flight: its class by name, its fields -/
structure Xn where
  cls : Str
  fs : List (Str × D)
/-- how a piece of code ends -/
inductive Rx (α : Type) where
  | ok (a : α) (e : Env) | exc (x : Xn) (e : Env) | bad
abbrev M (α : Type) := Env → Rx α
/-- how a call ends: its value, what the handed-on lists hold now -/
inductive Rf where
  | ok (d : D) (ios : List D) | exc (x : Xn) | bad
abbrev Fn := List D → Rf
def Rx.bnd {α β : Type} (r : Rx α) (k : α → M β) : Rx β := match r with
  | .ok a e => k a e
  | .exc x e => .exc x e
  | .bad => .bad
def bnd {α β : Type} (m : M α) (k : α → M β) : M β := fun e => (m e).bnd k
def ret {α : Type} (a : α) : M α := fun e => .ok a e
def lift {α : Type} (o : Option α) : M α := fun e => match o with
  | some a => .ok a e
  | none => .bad
@[simp] theorem bnd_ok {α β : Type} (a : α) (e : Env) (k : α → M β) : (Rx.ok a e).bnd k = k a e := rfl
@[simp] theorem bnd_exc {α β : Type} (x : Xn) (e : Env) (k : α → M β) : (Rx.exc x e).bnd k = .exc x e := rfl
@[simp] theorem bnd_bad {α β : Type} (k : α → M β) : (Rx.bad : Rx α).bnd k = .bad := rfl
@[simp] theorem bnd_at {α β : Type} (m : M α) (k : α → M β) (e : Env) : bnd m k e = (m e).bnd k := rfl
@[simp] theorem ret_at {α : Type} (a : α) (e : Env) : ret a e = .ok a e := rfl
@[simp] theorem lift_some {α : Type} (a : α) (e : Env) : lift (some a) e = .ok a e := rfl
@[simp] theorem lift_none {α : Type} (e : Env) : lift (none : Option α) e = .bad := rfl

/-! ### a tree stands for a value -/
def kD : Key → D
  | .inl i => .int i
  | .inr s => .str s
inductive Rp (F : Hp) : V → D → Prop where
  | non : Rp F .non .non
  | bl (b : Bool) : Rp F (.bl b) (.bl b)
  | int (i : Int) : Rp F (.int i) (.int i)
  | str (s : Str) : Rp F (.str s) (.str s)
  | tup {a : Addr} {vs : List V} {ds : List D} : F a = some (.tup vs) → vs.length = ds.length → (∀ (i : Nat) (v : V) (d : D), vs[i]? = some v → ds[i]? = some d → Rp F v d) → Rp F (.ref a) (.tup ds)
  | lst {a : Addr} {vs : List V} {ds : List D} : F a = some (.lst vs) → vs.length = ds.length → (∀ (i : Nat) (v : V) (d : D), vs[i]? = some v → ds[i]? = some d → Rp F v d) → Rp F (.ref a) (.lst ds)
  | scr {a : Addr} {o : Obj} {vs : List V} {ds : List D} : F a = some (.frz o (.lst vs)) → vs.length = ds.length → (∀ (i : Nat) (v : V) (d : D), vs[i]? = some v → ds[i]? = some d → Rp F v d) → Rp F (.ref a) (.scr ds)
  | dic {a : Addr} {kvs : List (Key × V)} {ds : List (D × D)} : F a = some (.dK kvs) → ds.map Prod.fst = kvs.map (fun p => kD p.1) → kvs.length = ds.length →
      (∀ (i : Nat) (v : V) (d : D), (kvs.map Prod.snd)[i]? = some v → (ds.map Prod.snd)[i]? = some d → Rp F v d) → Rp F (.ref a) (.dic ds)
/-- lists of both, one by one -/
def Rps (R : V → D → Prop) (vs : List V) (ds : List D) : Prop := vs.length = ds.length ∧ ∀ (i : Nat) (v : V) (d : D), vs[i]? = some v → ds[i]? = some d → R v d
theorem Rps.nil {R : V → D → Prop} : Rps R [] [] := ⟨rfl, fun i v d h => by simp at h⟩
theorem Rps.cons {R : V → D → Prop} {v : V} {d : D} {vs : List V} {ds : List D} (h : R v d) (t : Rps R vs ds) : Rps R (v :: vs) (d :: ds) := by
  refine ⟨by simp [t.1], fun i v' d' h1 h2 => ?_⟩
  cases i with
  | zero => simp at h1 h2; subst h1; subst h2; exact h
  | succ i => exact t.2 i v' d' (by simpa using h1) (by simpa using h2)
theorem Rps.snoc {R : V → D → Prop} {v : V} {d : D} {vs : List V} {ds : List D} (t : Rps R vs ds) (h : R v d) : Rps R (vs ++ [v]) (ds ++ [d]) := by
  refine ⟨by simp [t.1], fun i v' d' h1 h2 => ?_⟩
  by_cases hi : i < vs.length
  · rw [List.getElem?_append_left hi] at h1
    rw [List.getElem?_append_left (by rw [← t.1]; exact hi)] at h2
    exact t.2 i v' d' h1 h2
  · rw [List.getElem?_append_right (by omega)] at h1
    rw [List.getElem?_append_right (by rw [← t.1]; omega), ← t.1] at h2
    cases e : i - vs.length with
    | zero => rw [e] at h1 h2; simp at h1 h2; subst h1; subst h2; exact h
    | succ j => rw [e] at h1; simp at h1
theorem Rps.append {R : V → D → Prop} {vs vs' : List V} {ds ds' : List D} (t : Rps R vs ds) (t' : Rps R vs' ds') : Rps R (vs ++ vs') (ds ++ ds') := by
  refine ⟨by simp [t.1, t'.1], fun i v d h1 h2 => ?_⟩
  by_cases hi : i < vs.length
  · rw [List.getElem?_append_left hi] at h1
    rw [List.getElem?_append_left (by rw [← t.1]; exact hi)] at h2
    exact t.2 i v d h1 h2
  · rw [List.getElem?_append_right (by omega)] at h1
    rw [List.getElem?_append_right (by rw [← t.1]; omega), ← t.1] at h2
    exact t'.2 _ v d h1 h2
theorem Rps.mono {R R' : V → D → Prop} {vs : List V} {ds : List D} (t : Rps R vs ds) (h : ∀ v d, R v d → R' v d) : Rps R' vs ds := ⟨t.1, fun i v d h1 h2 => h _ _ (t.2 i v d h1 h2)⟩
theorem Rps.head {R : V → D → Prop} {v : V} {d : D} {vs : List V} {ds : List D} (t : Rps R (v :: vs) (d :: ds)) : R v d := t.2 0 v d rfl rfl
theorem Rps.tail {R : V → D → Prop} {v : V} {d : D} {vs : List V} {ds : List D} (t : Rps R (v :: vs) (d :: ds)) : Rps R vs ds :=
  ⟨by simpa using t.1, fun i v' d' h1 h2 => t.2 (i + 1) v' d' (by simpa using h1) (by simpa using h2)⟩
theorem Rps.get {R : V → D → Prop} {vs : List V} {ds : List D} {i : Nat} {d : D} (t : Rps R vs ds) (h : ds[i]? = some d) : ∃ v, vs[i]? = some v ∧ R v d := by
  have hi : i < vs.length := by rw [t.1]; exact (List.getElem?_eq_some_iff.mp h).1
  exact ⟨vs[i], by simp [hi], t.2 i _ _ (by simp [hi]) h⟩
theorem Rps.get' {R : V → D → Prop} {vs : List V} {ds : List D} {i : Nat} {v : V} (t : Rps R vs ds) (h : vs[i]? = some v) : ∃ d, ds[i]? = some d ∧ R v d := by
  have hi : i < ds.length := by rw [← t.1]; exact (List.getElem?_eq_some_iff.mp h).1
  exact ⟨ds[i], by simp [hi], t.2 i _ _ h (by simp [hi])⟩
theorem Rps.set {R : V → D → Prop} {vs : List V} {ds : List D} {i : Nat} {v : V} {d : D} (t : Rps R vs ds) (h : R v d) : Rps R (vs.set i v) (ds.set i d) := by
  refine ⟨by simp [t.1], fun j v' d' h1 h2 => ?_⟩
  by_cases e : i = j
  · subst e
    rw [List.getElem?_set] at h1 h2
    simp only [if_true] at h1 h2
    split at h1
    · split at h2
      · cases h1; cases h2; exact h
      · cases h2
    · cases h1
  · rw [List.getElem?_set_ne e] at h1 h2
    exact t.2 j v' d' h1 h2
theorem Rps.drop {R : V → D → Prop} {vs : List V} {ds : List D} (n : Nat) (t : Rps R vs ds) : Rps R (vs.drop n) (ds.drop n) :=
  ⟨by simp [t.1], fun i v d h1 h2 => t.2 (n + i) v d (by simpa [List.getElem?_drop] using h1) (by simpa [List.getElem?_drop] using h2)⟩
theorem Rps.take {R : V → D → Prop} {vs : List V} {ds : List D} (n : Nat) (t : Rps R vs ds) : Rps R (vs.take n) (ds.take n) := by
  refine ⟨by simp [t.1], fun i v d h1 h2 => ?_⟩
  rw [List.getElem?_take] at h1 h2
  split at h1
  · rename_i hi
    rw [if_pos hi] at h2
    exact t.2 i v d h1 h2
  · cases h1
theorem Rps.reverse {R : V → D → Prop} {vs : List V} {ds : List D} (t : Rps R vs ds) : Rps R vs.reverse ds.reverse := by
  refine ⟨by simp [t.1], fun i v d h1 h2 => ?_⟩
  have hi : i < vs.length := by
    have := (List.getElem?_eq_some_iff.mp h1).1
    simpa using this
  rw [List.getElem?_reverse hi] at h1
  rw [List.getElem?_reverse (by rw [← t.1]; exact hi), ← t.1] at h2
  exact t.2 _ v d h1 h2

def Sub (F H : Hp) : Prop := ∀ a o, F a = some o → H a = some o
theorem Sub.refl (H : Hp) : Sub H H := fun _ _ h => h
theorem Sub.trans {F G H : Hp} (a : Sub F G) (b : Sub G H) : Sub F H := fun _ _ h => b _ _ (a _ _ h)
theorem Rp.mono {F H : Hp} (e : Sub F H) {v : V} {d : D} (h : Rp F v d) : Rp H v d := by
  induction h with
  | non => exact .non
  | bl b => exact .bl b
  | int i => exact .int i
  | str s => exact .str s
  | tup h l _ ih => exact .tup (e _ _ h) l ih
  | lst h l _ ih => exact .lst (e _ _ h) l ih
  | scr h l _ ih => exact .scr (e _ _ h) l ih
  | dic h k l _ ih => exact .dic (e _ _ h) k l ih
/-- trees that stand for values without the heap -/
def atom : D → Bool
  | .non => true
  | .bl _ => true
  | .int _ => true
  | .str _ => true
  | _ => false
theorem Rp.atom {F F' : Hp} {v : V} {d : D} (h : Rp F v d) (a : atom d = true) : Rp F' v d := by
  cases h with
  | non => exact .non
  | bl b => exact .bl b
  | int i => exact .int i
  | str s => exact .str s
  | tup _ _ _ => cases a
  | lst _ _ _ => cases a
  | scr _ _ _ => cases a
  | dic _ _ _ _ => cases a

/-- semi-shared: the container is to be seen now (in G), its items are shared (in F) -/
def Sm (F G : Hp) (v : V) (d : D) : Prop :=
  Rp F v d ∨ (∃ a vs ds, v = .ref a ∧ d = .lst ds ∧ G a = some (.lst vs) ∧ Rps (Rp F) vs ds) ∨
    ∃ a kvs ds, v = .ref a ∧ d = .dic ds ∧ G a = some (.dK kvs) ∧ ds.map Prod.fst = kvs.map (fun p => kD p.1) ∧ Rps (Rp F) (kvs.map Prod.snd) (ds.map Prod.snd)
theorem Sm.rp {F G : Hp} {v : V} {d : D} (h : Sm F G v d) (s : Sub F G) : Rp G v d := by
  rcases h with h | ⟨a, vs, ds, rfl, rfl, h1, h2⟩ | ⟨a, vs, ds, rfl, rfl, h1, h3, h2⟩
  · exact h.mono s
  · exact .lst h1 h2.1 fun i v d e1 e2 => (h2.2 i v d e1 e2).mono s
  · exact .dic h1 h3 (by simpa using h2.1) fun i v d e1 e2 => (h2.2 i v d e1 e2).mono s
theorem Sm.mono {F F' G G' : Hp} {v : V} {d : D} (h : Sm F G v d) (s : Sub F F') (s' : Sub G G') : Sm F' G' v d := by
  rcases h with h | ⟨a, vs, ds, rfl, rfl, h1, h2⟩ | ⟨a, vs, ds, rfl, rfl, h1, h3, h2⟩
  · exact .inl (h.mono s)
  · exact .inr (.inl ⟨a, vs, ds, rfl, rfl, s' _ _ h1, h2.mono fun _ _ r => r.mono s⟩)
  · exact .inr (.inr ⟨a, vs, ds, rfl, rfl, s' _ _ h1, h3, h2.mono fun _ _ r => r.mono s⟩)
theorem Sm.lst {F G : Hp} {v : V} {ds : List D} (h : Sm F G v (.lst ds)) (s : Sub F G) : ∃ a vs, v = .ref a ∧ G a = some (.lst vs) ∧ Rps (Rp F) vs ds := by
  rcases h with h | ⟨a, vs, ds', rfl, e, h1, h2⟩ | ⟨a, vs, ds', rfl, e, h1, h2⟩
  · cases h with
    | lst q l r => exact ⟨_, _, rfl, s _ _ q, l, r⟩
  · cases e; exact ⟨a, vs, rfl, h1, h2⟩
  · cases e
theorem Sm.tup {F G : Hp} {v : V} {ds : List D} (h : Sm F G v (.tup ds)) (s : Sub F G) : ∃ a vs, v = .ref a ∧ G a = some (.tup vs) ∧ Rps (Rp F) vs ds := by
  rcases h with h | ⟨a, vs, ds', rfl, e, h1, h2⟩ | ⟨a, vs, ds', rfl, e, h1, h2⟩
  · cases h with
    | tup q l r => exact ⟨_, _, rfl, s _ _ q, l, r⟩
  · cases e
  · cases e
theorem Sm.scr {F G : Hp} {v : V} {ds : List D} (h : Sm F G v (.scr ds)) (s : Sub F G) : ∃ a o vs, v = .ref a ∧ G a = some (.frz o (.lst vs)) ∧ Rps (Rp F) vs ds := by
  rcases h with h | ⟨a, vs, ds', rfl, e, h1, h2⟩ | ⟨a, vs, ds', rfl, e, h1, h2⟩
  · cases h with
    | scr q l r => exact ⟨_, _, _, rfl, s _ _ q, l, r⟩
  · cases e
  · cases e
theorem Sm.dic {F G : Hp} {v : V} {ds : List (D × D)} (h : Sm F G v (.dic ds)) (s : Sub F G) : ∃ a kvs, v = .ref a ∧ G a = some (.dK kvs) ∧ ds.map Prod.fst = kvs.map (fun p => kD p.1) ∧ Rps (Rp F) (kvs.map Prod.snd) (ds.map Prod.snd) := by
  rcases h with h | ⟨a, vs, ds', rfl, e, h1, h2⟩ | ⟨a, vs, ds', rfl, e, h1, h2⟩
  · cases h with
    | dic q k l r => exact ⟨_, _, rfl, s _ _ q, k, by simpa using l, r⟩
  · cases e
  · cases e; exact ⟨a, vs, rfl, h1, h2⟩
theorem Sm.atom {F G F' G' : Hp} {v : V} {d : D} (h : Sm F G v d) (a : atom d = true) : Sm F' G' v d := by
  rcases h with h | ⟨_, _, _, _, rfl, _⟩ | ⟨_, _, _, _, rfl, _⟩
  · exact .inl (h.atom a)
  · cases a
  · cases a

/-! ### what is hidden -/
open Classical in
noncomputable def hid (H : Hp) (P : Addr → Prop) : Hp := fun a => if P a then none else H a
theorem hid_some {H : Hp} {P : Addr → Prop} {a : Addr} {o : HO} (h : hid H P a = some o) : H a = some o ∧ ¬ P a := by
  unfold hid at h
  split at h
  · cases h
  · exact ⟨h, by assumption⟩
theorem hid_of {H : Hp} {P : Addr → Prop} {a : Addr} {o : HO} (h : H a = some o) (n : ¬ P a) : hid H P a = some o := by
  unfold hid
  rw [if_neg n]
  exact h
theorem hid_sub (H : Hp) (P : Addr → Prop) : Sub (hid H P) H := fun _ _ h => (hid_some h).1
theorem hid_mono {H H' : Hp} {P P' : Addr → Prop} (h : ∀ a o, H a = some o → ¬ P a → H' a = some o ∧ ¬ P' a) : Sub (hid H P) (hid H' P') := fun a o e => by
  obtain ⟨e1, n⟩ := hid_some e
  obtain ⟨e2, n2⟩ := h a o e1 n
  exact hid_of e2 n2

/-! ### exclusive trees: depth k, the addresses P -/
def holder : D → Bool
  | .lst _ => true
  | .dic _ => true
  | _ => false
inductive Ow (F H : Hp) : Nat → V → D → (Addr → Prop) → Prop where
  | sh {v : V} {d : D} {P : Addr → Prop} : Rp F v d → (∀ x, ¬ P x) → Ow F H 0 v d P
  | at {k : Nat} {v : V} {d : D} {P : Addr → Prop} : Rp F v d → holder d = false → (∀ x, ¬ P x) → Ow F H (k + 1) v d P
  | lst {k : Nat} {a : Addr} {vs : List V} {ds : List D} {P : Addr → Prop} (Ps : Nat → Addr → Prop) : H a = some (.lst vs) → vs.length = ds.length →
      (∀ (i : Nat) (v : V) (d : D), vs[i]? = some v → ds[i]? = some d → Ow F H k v d (Ps i)) → (∀ i, ¬ Ps i a) → (∀ i j x, Ps i x → Ps j x → i = j) → (∀ i x, Ps i x → i < ds.length) →
      (∀ x, P x ↔ x = a ∨ ∃ i, Ps i x) → Ow F H (k + 1) (.ref a) (.lst ds) P
  | dic {k : Nat} {a : Addr} {kvs : List (Key × V)} {ds : List (D × D)} {P : Addr → Prop} (Ps : Nat → Addr → Prop) : H a = some (.dK kvs) → ds.map Prod.fst = kvs.map (fun p => kD p.1) → kvs.length = ds.length →
      (∀ (i : Nat) (v : V) (d : D), (kvs.map Prod.snd)[i]? = some v → (ds.map Prod.snd)[i]? = some d → Ow F H k v d (Ps i)) → (∀ i, ¬ Ps i a) → (∀ i j x, Ps i x → Ps j x → i = j) → (∀ i x, Ps i x → i < ds.length) →
      (∀ x, P x ↔ x = a ∨ ∃ i, Ps i x) → Ow F H (k + 1) (.ref a) (.dic ds) P
theorem Ow.mono {F F' H H' : Hp} {k : Nat} {v : V} {d : D} {P : Addr → Prop} (h : Ow F H k v d P) (e : Sub F F') (k' : ∀ a o, P a → H a = some o → H' a = some o) : Ow F' H' k v d P := by
  induction h with
  | sh r n => exact .sh (r.mono e) n
  | «at» r t n => exact .at (r.mono e) t n
  | lst Ps ha l r n1 n2 n3 hP ih =>
    refine .lst Ps (k' _ _ ((hP _).2 (.inl rfl)) ha) l (fun i v d h1 h2 => ih i v d h1 h2 fun b o p q => k' b o ((hP b).2 (.inr ⟨i, p⟩)) q) n1 n2 n3 hP
  | dic Ps ha l l2 r n1 n2 n3 hP ih =>
    refine .dic Ps (k' _ _ ((hP _).2 (.inl rfl)) ha) l l2 (fun i v d h1 h2 => ih i v d h1 h2 fun b o p q => k' b o ((hP b).2 (.inr ⟨i, p⟩)) q) n1 n2 n3 hP
/-- the addresses are tracked -/
theorem Ow.there {F H : Hp} {k : Nat} {v : V} {d : D} {P : Addr → Prop} (h : Ow F H k v d P) : ∀ a, P a → ∃ o, H a = some o := by
  induction h with
  | sh r n => exact fun a p => (n a p).elim
  | «at» r t n => exact fun a p => (n a p).elim
  | @lst k a vs ds P Ps ha l r n1 n2 n3 hP ih =>
    intro b p
    rcases (hP b).1 p with e | ⟨i, p⟩
    · subst e; exact ⟨_, ha⟩
    · have hi := n3 i b p
      exact ih i vs[i] ds[i] (by simp [show i < vs.length by omega]) (by simp [hi]) b p
  | @dic k a kvs ds P Ps ha l l2 r n1 n2 n3 hP ih =>
    intro b p
    rcases (hP b).1 p with e | ⟨i, p⟩
    · subst e; exact ⟨_, ha⟩
    · have hi := n3 i b p
      exact ih i kvs[i].2 ds[i].2 (by simp [show i < kvs.length by omega]) (by simp [hi]) b p
/-- an exclusive tree read where all is to be seen -/
theorem Ow.rp {F H G : Hp} {k : Nat} {v : V} {d : D} {P : Addr → Prop} (h : Ow F H k v d P) (e : Sub F G) (e' : ∀ a o, P a → H a = some o → G a = some o) : Rp G v d := by
  induction h with
  | sh r n => exact r.mono e
  | «at» r t n => exact r.mono e
  | lst Ps ha l r n1 n2 n3 hP ih =>
    exact .lst (e' _ _ ((hP _).2 (.inl rfl)) ha) l fun i v d h1 h2 => ih i v d h1 h2 fun b o p q => e' b o ((hP b).2 (.inr ⟨i, p⟩)) q
  | dic Ps ha l l2 r n1 n2 n3 hP ih =>
    exact .dic (e' _ _ ((hP _).2 (.inl rfl)) ha) l l2 fun i v d h1 h2 => ih i v d h1 h2 fun b o p q => e' b o ((hP b).2 (.inr ⟨i, p⟩)) q

/-! ### the state of a frame -/
/-- a slot's mode: shared; lent (read only, not to be kept); own to depth k; handed on by the caller, to be given back -/
inductive Md where
  | sh | bor | own (k : Nat) | io (k : Nat) | exn (a : Addr)
/-- what stays through a frame: the slots' modes, the values of the slots handed on, what is wanted of an error, what the caller protects -/
structure Cf where
  Ms : List Md
  v0 : Nat → V
  W : WX
  B0 : Addr → Prop
  xd : List (Addr × List (Str × D))
/-- an error's fields, at the address q.1 -/
def XdR (F : Hp) (q : Addr × List (Str × D)) : Prop := ∃ fvs, F q.1 = some (.xd fvs) ∧ fvs.map Prod.fst = q.2.map Prod.fst ∧ Rps (Rp F) (fvs.map Prod.snd) (q.2.map Prod.snd)
theorem XdR.mono {F F' : Hp} {q : Addr × List (Str × D)} (h : XdR F q) (s : Sub F F') : XdR F' q := let ⟨fvs, h1, h2, h3⟩ := h; ⟨fvs, s _ _ h1, h2, h3.mono fun _ _ r => r.mono s⟩
def SlotR (B0 : Addr → Prop) (H : Hp) (O Bo : Addr → Prop) (v0 v : V) (d : D) (P : Addr → Prop) : Md → Prop
  | .sh => Rp (hid H fun a => O a ∨ Bo a) v d ∧ ∀ x, ¬ P x
  | .bor => Sm (hid H fun a => O a ∨ Bo a) (hid H fun a => O a ∨ (Bo a ∧ ¬ B0 a)) v d ∧ ∀ x, ¬ P x
  | .own k => Ow (hid H fun a => O a ∨ Bo a) H k v d P
  | .io k => Ow (hid H fun a => O a ∨ Bo a) H k v d P ∧ v = v0
  | .exn a => v = .ref a ∧ ∀ x, ¬ P x
/-- the addresses of all own slots -/
def Os (Of : Nat → Addr → Prop) : Addr → Prop := fun a => ∃ i, Of i a
structure St (C : Cf) (Bo : Addr → Prop) (H : Hp) (σ : L2.St) (env : Env) (Of : Nat → Addr → Prop) : Prop where
  len : env.length = C.Ms.length
  slen : σ.length = env.length
  b0 : ∀ a, C.B0 a → Bo a
  boIn : ∀ a, Bo a → ∃ o, H a = some o
  disB : ∀ i a, Of i a → ¬ Bo a
  sep : ∀ i j a, Of i a → Of j a → i = j
  slot : ∀ i d, env[i]? = some (some d) → ∃ v m, σ[i]? = some (some v) ∧ C.Ms[i]? = some m ∧ SlotR C.B0 H (Os Of) Bo (C.v0 i) v d (Of i) m
  empt : ∀ i a, Of i a → ∃ d, env[i]? = some (some d)
  xd : ∀ q ∈ C.xd, XdR (hid H fun a => Os Of a ∨ Bo a) q
/-- what a step may do -/
structure Ext (H : Hp) (O : Addr → Prop) (H' : Hp) (O' : Addr → Prop) : Prop where
  keep : ∀ a o, H a = some o → ¬ O a → H' a = some o
  own : ∀ a, O' a → O a ∨ H a = none
theorem Ext.refl {H : Hp} {O : Addr → Prop} : Ext H O H O := ⟨fun _ _ h _ => h, fun _ h => .inl h⟩
theorem Ext.trans {H H1 H2 : Hp} {O O1 O2 : Addr → Prop} (a : Ext H O H1 O1) (b : Ext H1 O1 H2 O2) : Ext H O H2 O2 := by
  refine ⟨fun x o h n => b.keep x o (a.keep x o h n) fun q => ?_, fun x h => ?_⟩
  · rcases a.own x q with z | z
    · exact n z
    · rw [h] at z; cases z
  · rcases b.own x h with z | z
    · exact a.own x z
    · cases q : H x with
      | none => exact .inr rfl
      | some o =>
        by_cases n : O x
        · exact .inl n
        · rw [a.keep x o q n] at z; cases z
/-- shared things stay -/
theorem Ext.hid {H H' : Hp} {O O' : Addr → Prop} (e : Ext H O H' O') (B : Addr → Prop) : Sub (hid H fun a => O a ∨ B a) (hid H' fun a => O' a ∨ B a) :=
  hid_mono fun a o h n => ⟨e.keep a o h fun z => n (.inl z), fun z => by
    rcases z with z | z
    · rcases e.own a z with q | q
      · exact n (.inl q)
      · rw [h] at q; cases q
    · exact n (.inr z)⟩
/-- more is hidden, all of it new, or own before -/
def BoX (H : Hp) (O Bo Bo' : Addr → Prop) : Prop := (∀ a, Bo a → Bo' a) ∧ ∀ a, Bo' a → Bo a ∨ O a ∨ H a = none
theorem BoX.refl {H : Hp} {O Bo : Addr → Prop} : BoX H O Bo Bo := ⟨fun _ h => h, fun _ h => .inl h⟩
theorem BoX.up {H H' : Hp} {O O' Bo Bo' : Addr → Prop} (b : BoX H' O' Bo Bo') (e : Ext H O H' O') : BoX H O Bo Bo' := ⟨b.1, fun a h => (b.2 a h).imp id fun z => by
  rcases z with z | z
  · exact e.own a z
  · cases q : H a with
    | none => exact .inr rfl
    | some o =>
      by_cases w : O a
      · exact .inl w
      · rw [e.keep a o q w] at z
        cases z⟩
theorem Ext.hidX {H H' : Hp} {O O' Bo Bo' : Addr → Prop} (e : Ext H O H' O') (b : BoX H O Bo Bo') : Sub (Pf.hid H fun a => O a ∨ Bo a) (Pf.hid H' fun a => O' a ∨ Bo' a) :=
  hid_mono fun a o h n => ⟨e.keep a o h fun z => n (.inl z), fun z => by
    rcases z with z | z
    · rcases e.own a z with q | q
      · exact n (.inl q)
      · rw [h] at q; cases q
    · rcases b.2 a z with q | q | q
      · exact n (.inr q)
      · exact n (.inl q)
      · rw [h] at q; cases q⟩
theorem St.there {C : Cf} {Bo : Addr → Prop} {H : Hp} {σ : L2.St} {env : Env} {Of : Nat → Addr → Prop} (S : St C Bo H σ env Of) {i : Nat} {a : Addr} (h : Of i a) : ∃ o, H a = some o := by
  obtain ⟨d, hd⟩ := S.empt i a h
  obtain ⟨v, m, h1, h2, r⟩ := S.slot i d hd
  cases m with
  | sh => exact (r.2 a h).elim
  | bor => exact (r.2 a h).elim
  | own k => exact Ow.there r a h
  | io k => exact Ow.there r.1 a h
  | exn b => exact (r.2 a h).elim
end Pf
/-! F2: the judgements of expressions. -/
namespace Pf
open PySem PySem.Spec PyProof.Rows L2

/-- the exception x lies as class c, own dict dd -/
def XnR (mg : Str → Option Value) (F H : Hp) (x : Xn) (c : Value) (dd : Option Addr) : Prop := mg x.cls = some c ∧ ((x.fs = [] ∧ dd = none) ∨ ∃ a, dd = some a ∧ x.fs ≠ [] ∧ XdR F (a, x.fs))
theorem XnR.mono {mg : Str → Option Value} {F F' H H' : Hp} {x : Xn} {c : Value} {dd : Option Addr} (h : XnR mg F H x c dd) (s : Sub F F') : XnR mg F' H' x c dd := ⟨h.1, h.2.imp id fun ⟨a, e, n, r⟩ => ⟨a, e, n, r.mono s⟩⟩
/-- what a result is to be -/
abbrev Rl (α β : Type) := L2.St → Hp → (Nat → Addr → Prop) → Env → (Addr → Prop) → (Addr → Prop) → α → β → Prop
def At {α β : Type} (mg : Str → Option Value) (C : Cf) (R : Rl α β) (f : M α) (Bo : Addr → Prop) (Of : Nat → Addr → Prop) (H : Hp) (σ : L2.St) (env : Env) (Q : β → Hp → Prop) : Prop :=
  match f env with
  | .ok a env' => ∀ b H' Of' P, Ext H (Os Of) H' (Os Of') → St C (fun x => Bo x ∨ P x) H' σ env' Of' → (∀ x, P x → Os Of x ∨ H x = none) → R σ H' Of' env' Bo P a b → Q b H'
  | .exc x env' => ∀ H' Of' c dd, Ext H (Os Of) H' (Os Of') → St C Bo H' σ env' Of' → XnR mg (hid H' fun a => Os Of' a ∨ Bo a) H' x c dd → C.W c dd σ H'
  | .bad => False
def rdG {α β : Type} (mg : Str → Option Value) (C : Cf) (R : Rl α β) (f : M α) : L2.St → Hp → (β → Hp → Prop) → Prop := fun σ H Q =>
  ∃ Bo Of env, St C Bo H σ env Of ∧ At mg C R f Bo Of H σ env Q

/-! ### results -/
theorem Rp.int' {F : Hp} {v : V} {i : Int} (h : Rp F v (.int i)) : v = .int i := by cases h; rfl
theorem Rp.bl' {F : Hp} {v : V} {i : Bool} (h : Rp F v (.bl i)) : v = .bl i := by cases h; rfl
theorem Rp.str' {F : Hp} {v : V} {i : Str} (h : Rp F v (.str i)) : v = .str i := by cases h; rfl
theorem Rp.non' {F : Hp} {v : V} (h : Rp F v .non) : v = .non := by cases h; rfl

section
variable (C : Cf)
/-- shared -/
def rSh : Rl D V := fun _ H' Of' _ Bo P d v => (∀ x, ¬ P x) ∧ Rp (hid H' fun a => Os Of' a ∨ Bo a) v d
/-- own to depth k -/
def rOw (k : Nat) : Rl D V := fun _ H' Of' _ Bo P d v => Ow (hid H' fun a => Os Of' a ∨ (Bo a ∨ P a)) H' k v d P
/-- an operand that stays while the slots I stay: semi-shared -/
def rSm (I : List Nat) : Rl D V := fun σ H' Of' env' Bo P d v => (∀ x, ¬ P x) ∧ ∀ Bo2 σ2 H2 Of2 env2, BoX H' (Os Of') Bo Bo2 → Ext H' (Os Of') H2 (Os Of2) → St C Bo2 H2 σ2 env2 Of2 → (∀ i ∈ I, env2[i]? = env'[i]? ∧ σ2[i]? = σ[i]?) →
  Sm (hid H2 fun a => Os Of2 a ∨ Bo2 a) (hid H2 fun a => ∃ j, j ∉ I ∧ Of2 j a) v d
/-- .. to be read only -/
def rRd (I : List Nat) : Rl D V := fun σ H' Of' env' Bo P d v => (∀ x, ¬ P x) ∧ ∀ Bo2 σ2 H2 Of2 env2, BoX H' (Os Of') Bo Bo2 → Ext H' (Os Of') H2 (Os Of2) → St C Bo2 H2 σ2 env2 Of2 → (∀ i ∈ I, env2[i]? = env'[i]? ∧ σ2[i]? = σ[i]?) →
  Rp H2 v d
def rBl : Rl Bool Bool := fun _ _ _ _ _ P a b => (∀ x, ¬ P x) ∧ b = a
/-- values in a row, all shared -/
def rShs : Rl (List D) (List V) := fun _ H' Of' _ Bo P ds vs => (∀ x, ¬ P x) ∧ Rps (Rp (hid H' fun a => Os Of' a ∨ Bo a)) vs ds
end
section
variable (X : Cx) (C : Cf)
abbrev PSh (e : Expr) (f : M D) : Prop := PE X e (rdG X.mg C (rSh) f)
abbrev POw (k : Nat) (e : Expr) (f : M D) : Prop := PE X e (rdG X.mg C (rOw k) f)
abbrev PSm (I : List Nat) (e : Expr) (f : M D) : Prop := PE X e (rdG X.mg C (rSm C I) f)
abbrev PRd (I : List Nat) (e : Expr) (f : M D) : Prop := PE X e (rdG X.mg C (rRd C I) f)
abbrev PBl (e : Expr) (f : M Bool) : Prop := PT X e (rdG X.mg C rBl f)
abbrev PShs (es : List Expr) (f : M (List D)) : Prop := PA X es (rdG X.mg C (rShs) f)
end

theorem pe_imp {X : Cx} {e : Expr} {t t' : TE} (h : PE X e t) (i : ∀ σ H Q, t' σ H Q → t σ H Q) : PE X e t' := ⟨fun pins s σ H Q I q => h.run pins s σ H Q I (i σ H Q q)⟩
theorem pt_imp {X : Cx} {e : Expr} {t t' : TT} (h : PT X e t) (i : ∀ σ H Q, t' σ H Q → t σ H Q) : PT X e t' := ⟨fun pins s σ H Q I q => h.run pins s σ H Q I (i σ H Q q)⟩
theorem pa_imp {X : Cx} {es : List Expr} {t t' : TA} (h : PA X es t) (i : ∀ σ H Q, t' σ H Q → t σ H Q) : PA X es t' := ⟨fun pos pins s σ H Q I q => h.run pos pins s σ H Q I (i σ H Q q)⟩
theorem ps_imp {X : Cx} {st : Stmt} {t t' : TS} (h : PS X st t) (i : ∀ D σ H, t' D σ H → t D σ H) : PS X st t' := ⟨fun pins s σ H D I q => h.run pins s σ H D I (i D σ H q)⟩
theorem pss_imp {X : Cx} {st : List Stmt} {t t' : TS} (h : PSs X st t) (i : ∀ D σ H, t' D σ H → t D σ H) : PSs X st t' := ⟨fun pins s σ H D I q => h.run pins s σ H D I (i D σ H q)⟩

section
variable {mg : Str → Option Value} {C : Cf} {Bo : Addr → Prop} {Of : Nat → Addr → Prop} {H : Hp} {σ : L2.St} {env : Env}
/-- another wish, another result -/
theorem At.imp {α β γ : Type} {R : Rl α β} {R' : Rl α γ} {f : M α} {Q : β → Hp → Prop} {Q' : γ → Hp → Prop} (h : At mg C R f Bo Of H σ env Q)
    (i : ∀ a c H' Of' env' P, f env = .ok a env' → Ext H (Os Of) H' (Os Of') → St C (fun x => Bo x ∨ P x) H' σ env' Of' → (∀ x, P x → Os Of x ∨ H x = none) → R' σ H' Of' env' Bo P a c →
      (∀ b H'' Of'' P', Ext H (Os Of) H'' (Os Of'') → St C (fun x => Bo x ∨ P' x) H'' σ env' Of'' → (∀ x, P' x → Os Of x ∨ H x = none) → R σ H'' Of'' env' Bo P' a b → Q b H'') → Q' c H') : At mg C R' f Bo Of H σ env Q' := by
  unfold At at h ⊢
  split
  · rename_i a env' e
    rw [e] at h
    intro c H' Of' P x1 x2 x3 x4
    exact i a c H' Of' env' P e x1 x2 x3 x4 h
  · rename_i e
    rw [e] at h
    exact h
  · rename_i e
    rw [e] at h
    exact h
/-- the first part of a sequence: its results hold no address -/
theorem At.bnd0 {α β γ δ : Type} {R : Rl α β} {R2 : Rl γ δ} {f : M α} {k : α → M γ} {Q : δ → Hp → Prop} {G : β → Hp → Prop} (h : At mg C R2 (bnd f k) Bo Of H σ env Q)
    (hP : ∀ σ H' Of' env' Bo P a b, R σ H' Of' env' Bo P a b → ∀ x, ¬ P x)
    (hk : ∀ a b H1 Of1 env1, f env = .ok a env1 → Ext H (Os Of) H1 (Os Of1) → St C Bo H1 σ env1 Of1 → R σ H1 Of1 env1 Bo (fun _ => False) a b → At mg C R2 (k a) Bo Of1 H1 σ env1 Q → G b H1) : At mg C R f Bo Of H σ env G := by
  unfold At at h ⊢
  rw [bnd_at] at h
  split
  · rename_i a env1 e
    rw [e, bnd_ok] at h
    intro b H1 Of1 P x1 x2 x3 x4
    have nP := hP _ _ _ _ _ _ _ _ x4
    have eP : P = fun _ => False := funext fun x => propext ⟨fun q => nP x q, fun q => q.elim⟩
    subst eP
    have eB : (fun x => Bo x ∨ False) = Bo := funext fun x => propext ⟨fun q => q.elim id False.elim, .inl⟩
    rw [eB] at x2
    refine hk a b H1 Of1 env1 e x1 x2 x4 ?_
    unfold At
    split
    · rename_i a2 env2 e2
      rw [e2] at h
      intro b2 H2 Of2 P2 y1 y2 y3 y4
      refine h b2 H2 Of2 P2 (x1.trans y1) y2 (fun x p => ?_) y4
      rcases y3 x p with z | z
      · exact x1.own x z
      · cases q : H x with
        | none => exact .inr rfl
        | some o =>
          by_cases n : Os Of x
          · exact .inl n
          · rw [x1.keep x o q n] at z; cases z
    · rename_i x2' env2 e2
      rw [e2] at h
      intro H2 Of2 c dd y1 y2 y3
      exact h H2 Of2 c dd (x1.trans y1) y2 y3
    · rename_i e2
      rw [e2] at h
      exact h
  · rename_i x env1 e
    rw [e, bnd_exc] at h
    exact h
  · rename_i e
    rw [e, bnd_bad] at h
    exact h
theorem At.lift_ok {α β : Type} {R : Rl α β} {o : Option α} {Q : β → Hp → Prop} (S : St C Bo H σ env Of) (h : At mg C R (lift o) Bo Of H σ env Q) :
    ∃ a, o = some a ∧ ∀ b H' Of' P, Ext H (Os Of) H' (Os Of') → St C (fun x => Bo x ∨ P x) H' σ env Of' → (∀ x, P x → Os Of x ∨ H x = none) → R σ H' Of' env Bo P a b → Q b H' := by
  unfold At at h
  cases o with
  | none => rw [lift_none] at h; exact h.elim
  | some a =>
    rw [lift_some] at h
    exact ⟨a, rfl, h⟩
theorem St.bo {Bo : Addr → Prop} (S : St C Bo H σ env Of) : St C (fun x => Bo x ∨ False) H σ env Of := by
  have eB : (fun x => Bo x ∨ False) = Bo := funext fun x => propext ⟨fun q => q.elim id False.elim, .inl⟩
  rw [eB]; exact S
/-- a result that changes nothing -/
theorem At.lift_sh {o : Option D} {Q : V → Hp → Prop} {v : V} (S : St C Bo H σ env Of) (h : At mg C (rSh) (lift o) Bo Of H σ env Q)
    (r : ∀ d, o = some d → Rp (hid H fun a => Os Of a ∨ Bo a) v d) : Q v H := by
  obtain ⟨d, e, q⟩ := h.lift_ok S
  exact q v H Of (fun _ => False) Ext.refl S.bo (fun _ z => z.elim) ⟨fun _ z => z, r d e⟩
end
theorem sh_noP : ∀ (σ : L2.St) (H' : Hp) (Of' : Nat → Addr → Prop) (env' : Env) (Bo P : Addr → Prop) (a : D) (b : V), rSh σ H' Of' env' Bo P a b → ∀ x, ¬ P x := fun _ _ _ _ _ _ _ _ h => h.1
theorem sm_noP {C : Cf} {I : List Nat} : ∀ (σ : L2.St) (H' : Hp) (Of' : Nat → Addr → Prop) (env' : Env) (Bo P : Addr → Prop) (a : D) (b : V), rSm C I σ H' Of' env' Bo P a b → ∀ x, ¬ P x := fun _ _ _ _ _ _ _ _ h => h.1
theorem rd_noP {C : Cf} {I : List Nat} : ∀ (σ : L2.St) (H' : Hp) (Of' : Nat → Addr → Prop) (env' : Env) (Bo P : Addr → Prop) (a : D) (b : V), rRd C I σ H' Of' env' Bo P a b → ∀ x, ¬ P x := fun _ _ _ _ _ _ _ _ h => h.1
theorem bl_noP : ∀ (σ : L2.St) (H' : Hp) (Of' : Nat → Addr → Prop) (env' : Env) (Bo P : Addr → Prop) (a b : Bool), rBl σ H' Of' env' Bo P a b → ∀ x, ¬ P x := fun _ _ _ _ _ _ _ _ h => h.1
theorem shs_noP : ∀ (σ : L2.St) (H' : Hp) (Of' : Nat → Addr → Prop) (env' : Env) (Bo P : Addr → Prop) (a : List D) (b : List V), rShs σ H' Of' env' Bo P a b → ∀ x, ¬ P x := fun _ _ _ _ _ _ _ _ h => h.1

/-! ### between the strengths -/
section
variable {X : Cx} {C : Cf} {e : Expr} {f : M D}
theorem PSh.sm (h : PSh X C e f) : PSm X C [] e f := pe_imp h fun σ H Q ⟨Bo, Of, env, S, q⟩ => ⟨Bo, Of, env, S, q.imp fun a c H' Of' env' P _ x1 x2 x3 x4 k => by
  refine k c H' Of' P x1 x2 x3 ⟨x4.1, fun Bo2 _ H2 Of2 env2 b2 y1 y2 _ => .inl ?_⟩
  exact x4.2.mono (y1.hidX b2)⟩
theorem PSm.rd {I : List Nat} (h : PSm X C I e f) : PRd X C I e f := pe_imp h fun σ H Q ⟨Bo, Of, env, S, q⟩ => ⟨Bo, Of, env, S, q.imp fun a c H' Of' env' P _ x1 x2 x3 x4 k => by
  refine k c H' Of' P x1 x2 x3 ⟨x4.1, fun Bo2 σ2 H2 Of2 env2 b2 y1 y2 y3 => ?_⟩
  exact ((x4.2 Bo2 σ2 H2 Of2 env2 b2 y1 y2 y3).mono (Sub.refl _) (hid_sub _ _)).rp (hid_sub _ _)⟩
theorem PSh.rd (h : PSh X C e f) : PRd X C [] e f := PSm.rd (PSh.sm h)
/-- an own value is given away -/
theorem ow_to_sh {mg : Str → Option Value} {k : Nat} {σ : L2.St} {H : Hp} {Q : VK} (h : rdG mg C rSh f σ H Q) : rdG mg C (rOw k) f σ H Q := let ⟨Bo, Of, env, S, q⟩ := h; ⟨Bo, Of, env, S, q.imp fun a c H' Of' env' P _ x1 x2 x3 x4 k' => by
  have S' : St C Bo H' σ env' Of' := ⟨x2.len, x2.slen, S.b0, fun a h => x2.boIn a (.inl h), fun i a h z => x2.disB i a h (.inl z), x2.sep, fun i d h => by
    obtain ⟨v, m, h1, h2, r⟩ := x2.slot i d h
    refine ⟨v, m, h1, h2, ?_⟩
    have sb : Sub (hid H' fun a => Os Of' a ∨ (Bo a ∨ P a)) (hid H' fun a => Os Of' a ∨ Bo a) := hid_mono fun a o h n => ⟨h, fun z => n (z.elim .inl fun z => .inr (.inl z))⟩
    cases m with
    | sh => exact ⟨r.1.mono sb, r.2⟩
    | bor => exact ⟨r.1.mono sb (hid_mono fun a o h n => ⟨h, fun z => n (z.imp id fun z => ⟨.inl z.1, z.2⟩)⟩), r.2⟩
    | own k => exact Ow.mono r sb fun _ _ _ q => q
    | io k => exact ⟨Ow.mono r.1 sb fun _ _ _ q => q, r.2⟩
    | exn b => exact r, x2.empt, fun q hq => (x2.xd q hq).mono (hid_mono fun a o h n => ⟨h, fun z => n (z.elim .inl fun z => .inr (.inl z))⟩)⟩
  refine k' c H' Of' (fun _ => False) x1 S'.bo (fun _ z => z.elim) ⟨fun _ z => z, ?_⟩
  refine Ow.rp x4 (hid_mono fun a o h n => ⟨h, fun z => n (z.elim .inl fun z => .inr (.inl z))⟩) fun a o p h => hid_of h fun z => ?_
  rcases z with ⟨i, z⟩ | z
  · exact x2.disB i a z (.inr p)
  · rcases x3 a p with ⟨i, q⟩ | q
    · exact S.disB i a q z
    · obtain ⟨o', e'⟩ := S.boIn a z
      rw [q] at e'; cases e'⟩
theorem POw.sh {k : Nat} (h : POw X C k e f) : PSh X C e f := pe_imp h fun _ _ _ q => ow_to_sh q
end
/-- the slots I are left as they are -/
def Kps (I : List Nat) {α : Type} (f : M α) : Prop := ∀ i ∈ I, ∀ env a env', f env = .ok a env' → env'[i]? = env[i]?
theorem kps_nil {α : Type} {f : M α} : Kps [] f := fun i h => by cases h
end Pf
/-! F3: names, constants, operators, tests. -/
namespace Pf
open PySem PySem.Spec PyProof.Rows L2

/-! ### the code, as Lean functions -/
def vr (i : Nat) : M D := fun e => match e[i]? with
  | some (some d) => .ok d e
  | _ => .bad
def cst (d : D) : M D := ret d
def op1 (g : D → Option D) (a : M D) : M D := bnd a fun x => lift (g x)
def op2 (g : D → D → Option D) (a b : M D) : M D := bnd a fun x => bnd b fun y => lift (g x y)
def iteM {α : Type} (c : M Bool) (a b : M α) : M α := bnd c fun x => if x = true then a else b
def andB (a b : M Bool) : M Bool := bnd a fun x => if x = true then b else ret false
def orB (a b : M Bool) : M Bool := bnd a fun x => if x = true then ret true else b
def notB (a : M Bool) : M Bool := bnd a fun x => ret (!x)
def andV (a b : M D) : M D := bnd a fun x => match x with
  | .bl true => b
  | .bl false => ret (.bl false)
  | _ => fun _ => .bad
def orV (a b : M D) : M D := bnd a fun x => match x with
  | .bl true => ret (.bl true)
  | .bl false => b
  | _ => fun _ => .bad
def truD : D → Option Bool
  | .non => some false
  | .bl b => some b
  | .int i => some (i != 0)
  | .str s => if s.length ≤ sizeLine then some (!(s.length == 0)) else none
  | .lst xs => some (!xs.isEmpty)
  | .scr xs => some (!xs.isEmpty)
  | .tup xs => some (!xs.isEmpty)
  | .dic xs => some (!xs.isEmpty)
  | .clo _ _ => none
def tru (a : M D) : M Bool := bnd a fun x => lift (truD x)
def blD : D → Option Bool
  | .bl b => some b
  | _ => none
/-- a test whose value is a truth -/
def tb (a : M D) : M Bool := bnd a fun x => lift (blD x)

instance (i j : Int) : Decidable (CMulW i j) := inferInstanceAs (Decidable (_ < _))
instance (i j : Int) : Decidable (CMul i j) := inferInstanceAs (Decidable (_ ∨ _))
instance (i j : Int) : Decidable (CPow i j) := inferInstanceAs (Decidable (_ ∧ _))
instance (i j : Int) : Decidable (CDivW i j) := inferInstanceAs (Decidable (_ ∧ _))
def addD : D → D → Option D
  | .int i, .int j => some (.int (i + j))
  | .str a, .str b => if a.length + b.length ≤ sizeLine then some (.str (a ++ b)) else none
  | .tup xs, .tup ys => if xs.length + ys.length ≤ sizeLine then some (.tup (xs ++ ys)) else none
  | _, _ => none
def subD : D → D → Option D
  | .int i, .int j => some (.int (i - j))
  | _, _ => none
def mulD : D → D → Option D
  | .int i, .int j => if CMul i j ∨ CMulW i j then some (.int (i * j)) else none
  | _, _ => none
def fdivD : D → D → Option D
  | .int i, .int j => if CDivW i j then some (.int (i / j)) else none
  | _, _ => none
def modD : D → D → Option D
  | .int i, .int j => if 0 < j then some (.int (i % j)) else none
  | _, _ => none
def powD : D → D → Option D
  | .int i, .int j => if CPow i j then some (.int (i ^ j.toNat)) else none
  | _, _ => none
def negD : D → Option D
  | .int i => some (.int (-i))
  | _ => none
def ltD : D → D → Option D
  | .int i, .int j => some (.bl (decide (i < j)))
  | _, _ => none
def leD : D → D → Option D
  | .int i, .int j => some (.bl (decide (i ≤ j)))
  | _, _ => none
def gtD : D → D → Option D
  | .int i, .int j => some (.bl (decide (j < i)))
  | _, _ => none
def geD : D → D → Option D
  | .int i, .int j => some (.bl (decide (j ≤ i)))
  | _, _ => none
def nonB : D → Bool
  | .non => true
  | _ => false
def isND (d : D) : Option D := some (.bl (nonB d))
def notND (d : D) : Option D := some (.bl (!nonB d))

/-! ### operands -/
abbrev Tk := Hp → Hp → V → D → Prop
def rT (C : Cf) (T : Tk) (I : List Nat) : Rl D V := fun σ H' Of' env' Bo P d v => (∀ x, ¬ P x) ∧ ∀ Bo2 σ2 H2 Of2 env2, BoX H' (Os Of') Bo Bo2 → Ext H' (Os Of') H2 (Os Of2) → St C Bo2 H2 σ2 env2 Of2 → (∀ i ∈ I, env2[i]? = env'[i]? ∧ σ2[i]? = σ[i]?) →
  T (hid H2 fun a => Os Of2 a ∨ Bo2 a) H2 v d
abbrev tRd : Tk := fun _ G v d => Rp G v d
abbrev tSm : Tk := Sm
abbrev POp (X : Cx) (C : Cf) (T : Tk) (I : List Nat) (e : Expr) (f : M D) : Prop := PE X e (rdG X.mg C (rT C T I) f)
theorem PRd.op {X : Cx} {C : Cf} {I : List Nat} {e : Expr} {f : M D} (h : PRd X C I e f) : POp X C tRd I e f := h
theorem PSm.op {X : Cx} {C : Cf} {I : List Nat} {e : Expr} {f : M D} (h : PSm X C I e f) : POp X C tSm I e f := pe_imp h fun σ H Q ⟨Bo, Of, env, S, q⟩ => ⟨Bo, Of, env, S, q.imp fun a c H' Of' env' P _ x1 x2 x3 x4 k =>
  k c H' Of' P x1 x2 x3 ⟨x4.1, fun Bo2 σ2 H2 Of2 env2 b2 y1 y2 y3 => (x4.2 Bo2 σ2 H2 Of2 env2 b2 y1 y2 y3).mono (Sub.refl _) (hid_sub _ _)⟩⟩
theorem rT_noP {C : Cf} {T : Tk} {I : List Nat} : ∀ (σ : L2.St) (H' : Hp) (Of' : Nat → Addr → Prop) (env' : Env) (Bo P : Addr → Prop) (a : D) (b : V), rT C T I σ H' Of' env' Bo P a b → ∀ x, ¬ P x := fun _ _ _ _ _ _ _ _ h => h.1
section
variable {mg : Str → Option Value} {C : Cf} {α β γ δ : Type}
theorem rd_one {T : Tk} {I : List Nat} {fa : M D} {k : D → M γ} {R2 : Rl γ δ} {σ : L2.St} {H : Hp} {Q : δ → Hp → Prop} (h : rdG mg C R2 (bnd fa k) σ H Q) {G : V → Hp → Prop}
    (hG : ∀ x H2 dx Bo Of2 env2, St C Bo H2 σ env2 Of2 → T (hid H2 fun a => Os Of2 a ∨ Bo a) H2 x dx → At mg C R2 (k dx) Bo Of2 H2 σ env2 Q → G x H2) : rdG mg C (rT C T I) fa σ H G := by
  obtain ⟨Bo, Of, env, S, h⟩ := h
  exact ⟨Bo, Of, env, S, h.bnd0 rT_noP fun dx x H1 Of1 env1 e x1 S1 r1 h1 => hG x H1 dx Bo Of1 env1 S1 (r1.2 Bo σ H1 Of1 env1 BoX.refl Ext.refl S1 fun _ _ => ⟨rfl, rfl⟩) h1⟩
theorem rd_two {Ta Tb : Tk} {I J : List Nat} {fa fb : M D} {k : D → D → M γ} {R2 : Rl γ δ} {σ : L2.St} {H : Hp} {Q : δ → Hp → Prop} (kp : Kps I fb) (h : rdG mg C R2 (bnd fa fun x => bnd fb fun y => k x y) σ H Q) {G : V → V → Hp → Prop}
    (hG : ∀ x y H2 dx dy Bo Of2 env2, St C Bo H2 σ env2 Of2 → Ta (hid H2 fun a => Os Of2 a ∨ Bo a) H2 x dx → Tb (hid H2 fun a => Os Of2 a ∨ Bo a) H2 y dy → At mg C R2 (k dx dy) Bo Of2 H2 σ env2 Q → G x y H2) :
    rdG mg C (rT C Ta I) fa σ H fun x H1 => rdG mg C (rT C Tb J) fb σ H1 fun y H2 => G x y H2 := by
  obtain ⟨Bo, Of, env, S, h⟩ := h
  refine ⟨Bo, Of, env, S, h.bnd0 rT_noP fun dx x H1 Of1 env1 e x1 S1 r1 h1 => ?_⟩
  refine ⟨Bo, Of1, env1, S1, h1.bnd0 rT_noP fun dy y H2 Of2 env2 e2 x2 S2 r2 h2 => ?_⟩
  exact hG x y H2 dx dy Bo Of2 env2 S2 (r1.2 Bo σ H2 Of2 env2 BoX.refl x2 S2 fun i hi => ⟨kp i hi _ _ _ e2, rfl⟩) (r2.2 Bo σ H2 Of2 env2 BoX.refl Ext.refl S2 fun _ _ => ⟨rfl, rfl⟩) h2
/-- a test ahead -/
theorem rd_bool {fa : M Bool} {k : Bool → M γ} {R2 : Rl γ δ} {σ : L2.St} {H : Hp} {Q : δ → Hp → Prop} (h : rdG mg C R2 (bnd fa k) σ H Q) {G : Bool → Hp → Prop}
    (hG : ∀ b H2, rdG mg C R2 (k b) σ H2 Q → G b H2) : rdG mg C rBl fa σ H G := by
  obtain ⟨Bo, Of, env, S, h⟩ := h
  refine ⟨Bo, Of, env, S, h.bnd0 bl_noP fun da a H1 Of1 env1 e x1 S1 r1 h1 => ?_⟩
  obtain rfl := r1.2
  exact hG _ H1 ⟨Bo, Of1, env1, S1, h1⟩
end

/-! ### names and constants -/
section
variable {X : Cx} {C : Cf} {pos : Pos}
theorem at_vr {mg : Str → Option Value} {R : Rl D V} {Bo : Addr → Prop} {Of : Nat → Addr → Prop} {H : Hp} {σ : L2.St} {env : Env} {Q : V → Hp → Prop} {i : Nat} (S : St C Bo H σ env Of) (h : At mg C R (vr i) Bo Of H σ env Q)
    (r : ∀ d v m, env[i]? = some (some d) → σ[i]? = some (some v) → C.Ms[i]? = some m → SlotR C.B0 H (Os Of) Bo (C.v0 i) v d (Of i) m → R σ H Of env Bo (fun _ => False) d v) : ∃ v, σ[i]? = some (some v) ∧ Q v H := by
  unfold At vr at h
  split at h
  · rename_i a env' e
    split at e
    · rename_i d he
      cases e
      obtain ⟨v, m, h1, h2, q⟩ := S.slot i _ he
      exact ⟨v, h1, h v H Of (fun _ => False) Ext.refl S.bo (fun _ z => z.elim) (r _ v m he h1 h2 q)⟩
    · cases e
  · rename_i a env' e
    split at e <;> cases e
  · exact h.elim
/-- the slot i, shared -/
theorem sh_var {i : Nat} {x : Str} (hp : PE X (.Name x pos) (tVar i)) (hm : C.Ms[i]? = some .sh := by rfl) : PSh X C (.Name x pos) (vr i) := pe_imp hp fun σ H Q ⟨Bo, Of, env, S, h⟩ =>
  at_vr S h fun d v m h1 h2 h3 r => by
    rw [hm] at h3; cases h3
    exact ⟨fun _ z => z, r.1⟩
def Md.semi : Md → Bool
  | .sh => true
  | .bor => true
  | .own 1 => true
  | .io 1 => true
  | _ => false
theorem SlotR.sm {H : Hp} {B0 O Bo : Addr → Prop} {v0 v : V} {d : D} {P : Addr → Prop} {m : Md} (r : SlotR B0 H O Bo v0 v d P m) (hm : m.semi = true) : Sm (hid H fun a => O a ∨ Bo a) H v d := by
  have key : ∀ {k : Nat}, k = 1 → Ow (hid H fun a => O a ∨ Bo a) H k v d P → Sm (hid H fun a => O a ∨ Bo a) H v d := fun {k} hk h => by
    cases h with
    | sh r n => exact .inl r
    | «at» r t n => exact .inl r
    | lst Ps ha l r n1 n2 n3 hP =>
      cases hk
      refine .inr (.inl ⟨_, _, _, rfl, rfl, ha, l, fun i v d e1 e2 => ?_⟩)
      have q := r i v d e1 e2
      cases q with
      | sh r n => exact r
    | dic Ps ha l l2 r n1 n2 n3 hP =>
      cases hk
      refine .inr (.inr ⟨_, _, _, rfl, rfl, ha, l, by simpa using l2, fun i v d e1 e2 => ?_⟩)
      have q := r i v d e1 e2
      cases q with
      | sh r n => exact r
  cases m with
  | sh => exact .inl r.1
  | bor => exact r.1.mono (Sub.refl _) (hid_sub _ _)
  | own k =>
    match k, hm with
    | 1, _ => exact key rfl r
  | io k =>
    match k, hm with
    | 1, _ => exact key rfl r.1
  | exn b => cases hm
theorem SlotR.sm2 {H : Hp} {B0 Bo : Addr → Prop} {Of : Nat → Addr → Prop} {I : List Nat} {i : Nat} {v0 v : V} {d : D} {m : Md} (r : SlotR B0 H (Os Of) Bo v0 v d (Of i) m) (hm : m.semi = true) (sep : ∀ j a, j ∉ I → ¬ (Of j a ∧ Of i a)) :
    Sm (hid H fun a => Os Of a ∨ Bo a) (hid H fun a => ∃ j, j ∉ I ∧ Of j a) v d := by
  have sb : Sub (hid H fun a => Os Of a ∨ Bo a) (hid H fun a => ∃ j, j ∉ I ∧ Of j a) := hid_mono fun a o e n => ⟨e, fun ⟨j, _, z⟩ => n (.inl ⟨j, z⟩)⟩
  have key : ∀ {k : Nat}, k = 1 → Ow (hid H fun a => Os Of a ∨ Bo a) H k v d (Of i) → Sm (hid H fun a => Os Of a ∨ Bo a) (hid H fun a => ∃ j, j ∉ I ∧ Of j a) v d := fun {k} hk h => by
    cases h with
    | sh r n => exact .inl r
    | «at» r t n => exact .inl r
    | lst Ps ha l r n1 n2 n3 hP =>
      cases hk
      refine .inr (.inl ⟨_, _, _, rfl, rfl, hid_of ha fun ⟨j, n, z⟩ => sep j _ n ⟨z, (hP _).2 (.inl rfl)⟩, l, fun i v d e1 e2 => ?_⟩)
      have q := r i v d e1 e2
      cases q with
      | sh r n => exact r
    | dic Ps ha l l2 r n1 n2 n3 hP =>
      cases hk
      refine .inr (.inr ⟨_, _, _, rfl, rfl, hid_of ha fun ⟨j, n, z⟩ => sep j _ n ⟨z, (hP _).2 (.inl rfl)⟩, l, by simpa using l2, fun i v d e1 e2 => ?_⟩)
      have q := r i v d e1 e2
      cases q with
      | sh r n => exact r
  cases m with
  | sh => exact .inl r.1
  | bor => exact r.1.mono (Sub.refl _) (hid_mono fun a o e n => ⟨e, fun ⟨j, _, z⟩ => n (.inl ⟨j, z⟩)⟩)
  | own k =>
    match k, hm with
    | 1, _ => exact key rfl r
  | io k =>
    match k, hm with
    | 1, _ => exact key rfl r.1
  | exn b => cases hm
def Md.val : Md → Bool
  | .exn _ => false
  | _ => true
theorem SlotR.rd {H : Hp} {B0 O Bo : Addr → Prop} {v0 v : V} {d : D} {P : Addr → Prop} {m : Md} (r : SlotR B0 H O Bo v0 v d P m) (hm : m.val = true) : Rp H v d := by
  cases m with
  | sh => exact r.1.mono (hid_sub _ _)
  | bor => exact (r.1.mono (Sub.refl _) (hid_sub _ _)).rp (hid_sub _ _)
  | own k => exact Ow.rp r (hid_sub _ _) fun _ _ _ q => q
  | io k => exact Ow.rp r.1 (hid_sub _ _) fun _ _ _ q => q
  | exn b => cases hm
theorem sm_var {i : Nat} {x : Str} (hp : PE X (.Name x pos) (tVar i)) (hm : (C.Ms[i]?).elim false Md.semi = true := by rfl) : PSm X C [i] (.Name x pos) (vr i) := pe_imp hp fun σ H Q ⟨Bo, Of, env, S, h⟩ =>
  at_vr S h fun d v m h1 h2 h3 r => ⟨fun _ z => z, fun Bo2 σ2 H2 Of2 env2 b2 y1 y2 y3 => by
    have e2 := (y3 i (by simp)).1.trans h1
    obtain ⟨v', m', g1, g2, r'⟩ := y2.slot i d e2
    rw [(y3 i (by simp)).2, h2] at g1; cases g1
    rw [h3] at g2; cases g2
    rw [h3] at hm
    exact r'.sm2 hm fun j a n z => n (by simp [y2.sep j i a z.1 z.2])⟩
theorem rd_var {i : Nat} {x : Str} (hp : PE X (.Name x pos) (tVar i)) (hm : (C.Ms[i]?).elim false Md.val = true := by rfl) : PRd X C [i] (.Name x pos) (vr i) := pe_imp hp fun σ H Q ⟨Bo, Of, env, S, h⟩ =>
  at_vr S h fun d v m h1 h2 h3 r => ⟨fun _ z => z, fun Bo2 σ2 H2 Of2 env2 b2 y1 y2 y3 => by
    have e2 := (y3 i (by simp)).1.trans h1
    obtain ⟨v', m', g1, g2, r'⟩ := y2.slot i d e2
    rw [(y3 i (by simp)).2, h2] at g1; cases g1
    rw [h3] at g2; cases g2
    rw [h3] at hm
    exact r'.rd hm⟩
theorem at_cst {mg : Str → Option Value} {Bo : Addr → Prop} {Of : Nat → Addr → Prop} {H : Hp} {σ : L2.St} {env : Env} {Q : V → Hp → Prop} {d : D} {v : V} (S : St C Bo H σ env Of) (h : At mg C rSh (cst d) Bo Of H σ env Q) (r : ∀ F, Rp F v d) : Q v H :=
  (show At mg C rSh (lift (some d)) Bo Of H σ env Q from h).lift_sh S fun d' e => by cases e; exact r _
theorem sh_int {i : Int} {j : Nat} : PSh X C (.Constant (.int i) j pos) (cst (.int i)) := pe_imp pe_int fun σ H Q ⟨Bo, Of, env, S, h⟩ => at_cst S h fun _ => .int i
theorem sh_bl {b : Bool} {j : Nat} : PSh X C (.Constant (.bool b) j pos) (cst (.bl b)) := pe_imp pe_bl fun σ H Q ⟨Bo, Of, env, S, h⟩ => at_cst S h fun _ => .bl b
theorem sh_non {j : Nat} : PSh X C (.Constant .none j pos) (cst .non) := pe_imp pe_non fun σ H Q ⟨Bo, Of, env, S, h⟩ => at_cst S h fun _ => .non
theorem sh_str {x : Str} {j : Nat} : PSh X C (.Constant (.str x) j pos) (cst (.str x)) := pe_imp pe_str fun σ H Q ⟨Bo, Of, env, S, h⟩ => at_cst S h fun _ => .str x
/-- a constant of the module -/
theorem sh_glob {x : Str} {v : V} {u : Value} {d : D} (hg : Gl X x) (hm : X.mg x = some u) (r : RelV v u) (q : ∀ F, Rp F v d) (hd : (x == ("__debug__" : Str)) = false := by decide) : PSh X C (.Name x pos) (cst d) := pe_imp (pe_glob hg hm r hd) fun σ H Q ⟨Bo, Of, env, S, h⟩ => at_cst S h q
end

/-! ### operators by values -/
def OpD (mg : Str → Option Value) (C : Cf) (Ta Tb : Tk) (r : R2) (g : D → D → Option D) : Prop := ∀ Bo Of H σ env x y dx dy Q, St C Bo H σ env Of → Ta (hid H fun a => Os Of a ∨ Bo a) H x dx → Tb (hid H fun a => Os Of a ∨ Bo a) H y dy →
  At mg C rSh (lift (g dx dy)) Bo Of H σ env Q → r x y H Q
/-- the answer is a flat one -/
theorem opd_atom {mg : Str → Option Value} {C : Cf} {Ta Tb : Tk} {r : R2} {g : D → D → Option D} (h : ∀ F G x y dx dy d, Sub F G → Ta F G x dx → Tb F G y dy → g dx dy = some d → ∃ v, (∀ F', Rp F' v d) ∧ ∀ Q : VK, Q v G → r x y G Q) : OpD mg C Ta Tb r g := by
  intro Bo Of H σ env x y dx dy Q S ha hb q
  obtain ⟨d, e, _⟩ := q.lift_ok S
  obtain ⟨v, r1, r2⟩ := h _ _ x y dx dy d (hid_sub _ _) ha hb e
  exact r2 Q (q.lift_sh S fun d' e' => by rw [e] at e'; cases e'; exact r1 _)
section
variable {X : Cx} {C : Cf} {Ta Tb Tc : Tk} {I J L : List Nat} {a b c : Expr} {fa fb fc : M D} {pos : Pos} {g g' : D → D → Option D}
theorem sh_op {op : Operator} {r : R2} (ho : OpR X (binaryOp op) r) (hd : OpD X.mg C Ta Tb r g) (ha : POp X C Ta I a fa) (hb : POp X C Tb J b fb) (kp : Kps I fb := by exact kps_nil) : PSh X C (.BinOp a op b pos) (op2 g fa fb) :=
  pe_imp (pe_op ho ha hb) fun σ H Q h => rd_two kp h fun x y H2 dx dy Bo Of2 env2 S2 r1 r2 h2 => hd Bo Of2 H2 σ env2 x y dx dy Q S2 r1 r2 h2
theorem sh_cmp {op : CmpOp} {r : R2} (ho : OpR X (compareOp op) r) (hd : OpD X.mg C Ta Tb r g) (ha : POp X C Ta I a fa) (hb : POp X C Tb J b fb) (hm : behindInMarks op b = false) (kp : Kps I fb := by exact kps_nil) : PSh X C (.Compare a [op] [b] pos) (op2 g fa fb) :=
  pe_imp (pe_cmpR ho ha hb hm) fun σ H Q h => rd_two kp h fun x y H2 dx dy Bo Of2 env2 S2 r1 r2 h2 => hd Bo Of2 H2 σ env2 x y dx dy Q S2 r1 r2 h2
/-- from a value's code to its test -/
theorem At.tb {mg : Str → Option Value} {f : M D} {Bo : Addr → Prop} {Of : Nat → Addr → Prop} {H : Hp} {σ : L2.St} {env : Env} {Q : Bool → Hp → Prop} (h : At mg C rBl (tb f) Bo Of H σ env Q) : At mg C rSh f Bo Of H σ env fun x H' => ∃ k, x = .bl k ∧ Q k H' := by
  refine At.bnd0 (f := f) (k := fun x => lift (blD x)) h sh_noP fun d v H1 Of1 env1 e x1 S1 r1 h1 => ?_
  obtain ⟨k, e, q⟩ := h1.lift_ok S1
  cases d with
  | bl b =>
    cases e
    have := r1.2.bl'
    subst this
    exact ⟨_, rfl, q _ H1 Of1 (fun _ => False) Ext.refl S1.bo (fun _ z => z.elim) ⟨fun _ z => z, rfl⟩⟩
  | _ => cases e
theorem bl_cmp {op : CmpOp} {r : R2} (ho : OpR X (compareOp op) r) (hd : OpD X.mg C Ta Tb r g) (ha : POp X C Ta I a fa) (hb : POp X C Tb J b fb) (hm : behindInMarks op b = false) (kp : Kps I fb := by exact kps_nil) : PBl X C (.Compare a [op] [b] pos) (tb (op2 g fa fb)) :=
  pt_imp (pt_cmpR ho ha hb hm) fun σ H Q ⟨Bo, Of, env, S, h⟩ => rd_two (k := fun x y => lift (g x y)) (R2 := rSh) kp ⟨Bo, Of, env, S, h.tb⟩ fun x y H2 dx dy Bo Of2 env2 S2 r1 r2 h2 => hd Bo Of2 H2 σ env2 x y dx dy _ S2 r1 r2 h2
theorem sh_un {op : UnaryOp} {r : V → Hp → VK → Prop} {g : D → Option D} (ho : UnR X (unaryOp op) r) (hd : ∀ G x dx d, Rp G x dx → g dx = some d → ∃ v, (∀ F', Rp F' v d) ∧ ∀ Q : VK, Q v G → r x G Q) (ha : PRd X C I a fa) : PSh X C (.UnaryOp op a pos) (op1 g fa) :=
  pe_imp (pe_un ho ha) fun σ H Q h => rd_one (T := tRd) h fun x H2 dx Bo Of2 env2 S2 r1 h2 => by
    obtain ⟨d, e, _⟩ := h2.lift_ok S2
    obtain ⟨v, q1, q2⟩ := hd H2 x dx d r1 e
    exact q2 Q (h2.lift_sh S2 fun d' e' => by rw [e] at e'; cases e'; exact q1 _)
end

/-! ### the operators -/
section
variable {mg : Str → Option Value} {C : Cf} {Ta Tb : Tk}
/-- what an operand tells at least -/
class Tells (T : Tk) : Prop where
  rd : ∀ {F G v d}, Sub F G → T F G v d → Rp G v d
instance : Tells tRd := ⟨fun _ h => h⟩
instance : Tells tSm := ⟨fun s h => h.rp s⟩
theorem opd_ints {r : R2} {g : D → D → Option D} {p : Int → Int → Prop} {f : Int → Int → V} [Tells Ta] [Tells Tb] (hg : ∀ x y d, g x y = some d → ∃ i j, x = .int i ∧ y = .int j ∧ p i j ∧ ∀ F, Rp F (f i j) d)
    (hr : ∀ i j G (Q : VK), p i j → Q (f i j) G → r (.int i) (.int j) G Q) : OpD mg C Ta Tb r g := opd_atom fun F G x y dx dy d s ha hb e => by
  obtain ⟨i, j, rfl, rfl, hp, hv⟩ := hg _ _ _ e
  have e1 := (Tells.rd s ha).int'
  have e2 := (Tells.rd s hb).int'
  subst e1 e2
  exact ⟨_, hv, fun Q q => hr i j G Q hp q⟩
theorem opd_add [Tells Ta] [Tells Tb] : OpD mg C Ta Tb (rI0 fun i j => .int (i + j)) (fun x y => match x, y with | .int i, .int j => some (.int (i + j)) | _, _ => none) :=
  opd_ints (p := fun _ _ => True) (fun x y d e => by
    split at e
    · cases e; exact ⟨_, _, rfl, rfl, trivial, fun _ => .int _⟩
    · cases e) fun i j G Q _ q => ⟨i, j, rfl, rfl, q⟩
theorem opd_sub [Tells Ta] [Tells Tb] : OpD mg C Ta Tb (rI0 fun i j => .int (i - j)) subD :=
  opd_ints (p := fun _ _ => True) (fun x y d e => by
    unfold subD at e
    split at e
    · cases e; exact ⟨_, _, rfl, rfl, trivial, fun _ => .int _⟩
    · cases e) fun i j G Q _ q => ⟨i, j, rfl, rfl, q⟩
theorem opd_mul [Tells Ta] [Tells Tb] : OpD mg C Ta Tb (fun x y H Q => rI CMul (fun i j => .int (i * j)) x y H Q ∨ rI CMulW (fun i j => .int (i * j)) x y H Q) mulD :=
  opd_ints (p := fun i j => CMul i j ∨ CMulW i j) (fun x y d e => by
    unfold mulD at e
    split at e
    · split at e
      · cases e; exact ⟨_, _, rfl, rfl, by assumption, fun _ => .int _⟩
      · cases e
    · cases e) fun i j G Q h q => h.imp (fun h => ⟨i, j, rfl, rfl, h, q⟩) fun h => ⟨i, j, rfl, rfl, h, q⟩
theorem opd_fdiv [Tells Ta] [Tells Tb] : OpD mg C Ta Tb (rI CDivW fun i j => .int (i / j)) fdivD :=
  opd_ints (p := fun i j => CDivW i j) (fun x y d e => by
    unfold fdivD at e
    split at e
    · split at e
      · cases e; exact ⟨_, _, rfl, rfl, by assumption, fun _ => .int _⟩
      · cases e
    · cases e) fun i j G Q h q => ⟨i, j, rfl, rfl, h, q⟩
theorem opd_mod [Tells Ta] [Tells Tb] : OpD mg C Ta Tb (rI (fun _ j => 0 < j) fun i j => .int (i % j)) modD :=
  opd_ints (p := fun i j => 0 < j) (fun x y d e => by
    unfold modD at e
    split at e
    · split at e
      · cases e; exact ⟨_, _, rfl, rfl, by assumption, fun _ => .int _⟩
      · cases e
    · cases e) fun i j G Q h q => ⟨i, j, rfl, rfl, h, q⟩
theorem opd_pow [Tells Ta] [Tells Tb] : OpD mg C Ta Tb (rI CPow fun i j => .int (i ^ j.toNat)) powD :=
  opd_ints (p := fun i j => CPow i j) (fun x y d e => by
    unfold powD at e
    split at e
    · split at e
      · cases e; exact ⟨_, _, rfl, rfl, by assumption, fun _ => .int _⟩
      · cases e
    · cases e) fun i j G Q h q => ⟨i, j, rfl, rfl, h, q⟩
theorem opd_lt [Tells Ta] [Tells Tb] : OpD mg C Ta Tb (rI0 fun i j => .bl (decide (i < j))) ltD :=
  opd_ints (p := fun _ _ => True) (fun x y d e => by
    unfold ltD at e
    split at e
    · cases e; exact ⟨_, _, rfl, rfl, trivial, fun _ => .bl _⟩
    · cases e) fun i j G Q _ q => ⟨i, j, rfl, rfl, q⟩
theorem opd_le [Tells Ta] [Tells Tb] : OpD mg C Ta Tb (rI0 fun i j => .bl (decide (i ≤ j))) leD :=
  opd_ints (p := fun _ _ => True) (fun x y d e => by
    unfold leD at e
    split at e
    · cases e; exact ⟨_, _, rfl, rfl, trivial, fun _ => .bl _⟩
    · cases e) fun i j G Q _ q => ⟨i, j, rfl, rfl, q⟩
theorem opd_gt [Tells Ta] [Tells Tb] : OpD mg C Ta Tb (rI0 fun i j => .bl (decide (j < i))) gtD :=
  opd_ints (p := fun _ _ => True) (fun x y d e => by
    unfold gtD at e
    split at e
    · cases e; exact ⟨_, _, rfl, rfl, trivial, fun _ => .bl _⟩
    · cases e) fun i j G Q _ q => ⟨i, j, rfl, rfl, q⟩
theorem opd_ge [Tells Ta] [Tells Tb] : OpD mg C Ta Tb (rI0 fun i j => .bl (decide (j ≤ i))) geD :=
  opd_ints (p := fun _ _ => True) (fun x y d e => by
    unfold geD at e
    split at e
    · cases e; exact ⟨_, _, rfl, rfl, trivial, fun _ => .bl _⟩
    · cases e) fun i j G Q _ q => ⟨i, j, rfl, rfl, q⟩
end
end Pf
/-! F4: new objects, displays, items, slices, equality, membership. -/
namespace Pf
open PySem PySem.Spec PyProof.Rows L2

section
variable {C : Cf} {Bo : Addr → Prop} {Of : Nat → Addr → Prop} {H H' : Hp} {σ : L2.St} {env : Env}
theorem SlotR.mono {B0 O O' Bo Bo' : Addr → Prop} {v0 v : V} {d : D} {P : Addr → Prop} {m : Md} (r : SlotR B0 H O Bo v0 v d P m) (e1 : Sub (hid H fun a => O a ∨ Bo a) (hid H' fun a => O' a ∨ Bo' a)) (e2 : Sub (hid H fun a => O a ∨ (Bo a ∧ ¬ B0 a)) (hid H' fun a => O' a ∨ (Bo' a ∧ ¬ B0 a))) (e3 : ∀ a o, P a → H a = some o → H' a = some o) :
    SlotR B0 H' O' Bo' v0 v d P m := by
  cases m with
  | sh => exact ⟨r.1.mono e1, r.2⟩
  | bor => exact ⟨r.1.mono e1 e2, r.2⟩
  | own k => exact Ow.mono r e1 e3
  | io k => exact ⟨Ow.mono r.1 e1 e3, r.2⟩
  | exn b => exact r
/-- more objects stand, more is hidden -/
theorem St.grow {Bo' : Addr → Prop} (S : St C Bo H σ env Of) (k : ∀ a o, H a = some o → H' a = some o) (b : ∀ a, Bo a → Bo' a) (n : ∀ a o, H a = some o → Bo' a → Bo a) (t : ∀ a, Bo' a → ∃ o, H' a = some o) : St C Bo' H' σ env Of := by
  refine ⟨S.len, S.slen, fun a h => b a (S.b0 a h), t, fun i a h z => ?_, S.sep, fun i d h => ?_, S.empt, fun q hq => (S.xd q hq).mono (hid_mono fun a o e z => ⟨k a o e, fun q => z (q.imp id (n a o e))⟩)⟩
  · obtain ⟨o, e⟩ := S.there h
    exact S.disB i a h (n a o e z)
  · obtain ⟨v, m, h1, h2, r⟩ := S.slot i d h
    refine ⟨v, m, h1, h2, r.mono (hid_mono fun a o e z => ⟨k a o e, fun q => z (q.imp id (n a o e))⟩) (hid_mono fun a o e z => ⟨k a o e, fun q => z (q.imp id fun q => ⟨n a o e q.1, q.2⟩)⟩) fun a o _ e => k a o e⟩
theorem St.newSh {p : Addr} {o : HO} (S : St C Bo H σ env Of) (hp : H p = none) : St C Bo (upd H p o) σ env Of :=
  S.grow (fun a u e => by rw [upd_ne (ne_of_none e hp)]; exact e) (fun _ h => h) (fun _ _ _ h => h) fun a h => by
    obtain ⟨u, e⟩ := S.boIn a h
    exact ⟨u, by rw [upd_ne (ne_of_none e hp)]; exact e⟩
theorem St.newOw {p : Addr} {o : HO} (S : St C Bo H σ env Of) (hp : H p = none) : St C (fun x => Bo x ∨ x = p) (upd H p o) σ env Of :=
  S.grow (fun a u e => by rw [upd_ne (ne_of_none e hp)]; exact e) (fun _ h => .inl h) (fun a u e h => h.elim id fun q => by rw [q, hp] at e; cases e) fun a h => by
    rcases h with h | h
    · obtain ⟨u, e⟩ := S.boIn a h
      exact ⟨u, by rw [upd_ne (ne_of_none e hp)]; exact e⟩
    · subst h; exact ⟨o, upd_same⟩
theorem Ext.new {O : Addr → Prop} {p : Addr} {o : HO} (hp : H p = none) : Ext H O (upd H p o) O := ⟨fun a u e _ => by rw [upd_ne (ne_of_none e hp)]; exact e, fun _ h => .inl h⟩
theorem hid_new {P : Addr → Prop} {p : Addr} {o : HO} (hp : H p = none) : Sub (hid H P) (hid (upd H p o) P) := hid_mono fun a u e n => ⟨by rw [upd_ne (ne_of_none e hp)]; exact e, n⟩
theorem hid_new2 {O Bo : Addr → Prop} {p : Addr} {o : HO} (hp : H p = none) : Sub (hid H fun a => O a ∨ Bo a) (hid (upd H p o) fun a => O a ∨ (Bo a ∨ a = p)) := hid_mono fun a u e n => ⟨by rw [upd_ne (ne_of_none e hp)]; exact e, fun z => by
  rcases z with z | z | z
  · exact n (.inl z)
  · exact n (.inr z)
  · exact ne_of_none e hp z⟩
end
section
variable {mg : Str → Option Value} {C : Cf} {Bo : Addr → Prop} {Of : Nat → Addr → Prop} {H : Hp} {σ : L2.St} {env : Env} {Q : V → Hp → Prop} {o : Option D}
theorem own_no {Of : Nat → Addr → Prop} {p : Addr} (S : St C Bo H σ env Of) (hp : H p = none) : ¬ (Os Of p ∨ Bo p) := fun z => by
  rcases z with ⟨i, z⟩ | z
  · obtain ⟨u, e⟩ := S.there z
    rw [hp] at e; cases e
  · obtain ⟨u, e⟩ := S.boIn p z
    rw [hp] at e; cases e
/-- a new tuple -/
theorem At.newTup {vs : List V} {ds : List D} (S : St C Bo H σ env Of) (h : At mg C rSh (lift o) Bo Of H σ env Q) (e : o = some (.tup ds)) (r : Rps (Rp (hid H fun a => Os Of a ∨ Bo a)) vs ds) : ∀ p, H p = none → Q (.ref p) (upd H p (.tup vs)) := fun p hp => by
  subst e
  obtain ⟨d, e, q⟩ := h.lift_ok S
  cases e
  refine q _ _ Of (fun _ => False) (Ext.new hp) (S.newSh hp).bo (fun _ z => z.elim) ⟨fun _ z => z, ?_⟩
  exact .tup (hid_of upd_same (own_no S hp)) r.1 fun i v d e1 e2 => (r.2 i v d e1 e2).mono (hid_new hp)
/-- a new list, given away -/
theorem At.newLst {vs : List V} {ds : List D} (S : St C Bo H σ env Of) (h : At mg C rSh (lift o) Bo Of H σ env Q) (e : o = some (.lst ds)) (r : Rps (Rp (hid H fun a => Os Of a ∨ Bo a)) vs ds) : ∀ p, H p = none → Q (.ref p) (upd H p (.lst vs)) := fun p hp => by
  subst e
  obtain ⟨d, e, q⟩ := h.lift_ok S
  cases e
  refine q _ _ Of (fun _ => False) (Ext.new hp) (S.newSh hp).bo (fun _ z => z.elim) ⟨fun _ z => z, ?_⟩
  exact .lst (hid_of upd_same (own_no S hp)) r.1 fun i v d e1 e2 => (r.2 i v d e1 e2).mono (hid_new hp)
/-- a new list, held -/
theorem At.ownLst {vs : List V} {ds : List D} (S : St C Bo H σ env Of) (h : At mg C (rOw 1) (lift o) Bo Of H σ env Q) (e : o = some (.lst ds)) (r : Rps (Rp (hid H fun a => Os Of a ∨ Bo a)) vs ds) : ∀ p, H p = none → Q (.ref p) (upd H p (.lst vs)) := fun p hp => by
  subst e
  obtain ⟨d, e, q⟩ := h.lift_ok S
  cases e
  refine q _ _ Of (fun x => x = p) (Ext.new hp) (S.newOw hp) (fun x z => .inr (by rw [z]; exact hp)) ?_
  exact .lst (fun _ _ => False) upd_same r.1 (fun i v d e1 e2 => .sh ((r.2 i v d e1 e2).mono (hid_new2 hp)) fun _ z => z) (fun _ z => z) (fun _ _ _ z => z.elim) (fun _ _ z => z.elim) fun x => ⟨.inl, fun z => z.elim id fun ⟨_, z⟩ => z.elim⟩
end

/-! ### arguments in a row -/
def nilM : M (List D) := ret []
def consM (a : M D) (r : M (List D)) : M (List D) := bnd a fun x => bnd r fun xs => ret (x :: xs)
def tupM (r : M (List D)) : M D := bnd r fun xs => lift (if xs.length ≤ sizeLine then some (.tup xs) else none)
def lstM (r : M (List D)) : M D := bnd r fun xs => lift (if xs.length ≤ sizeLine then some (.lst xs) else none)
section
variable {X : Cx} {C : Cf} {e : Expr} {es : List Expr} {fa : M D} {fr : M (List D)} {pos : Pos}
theorem At.ret_ok {mg : Str → Option Value} {Bo : Addr → Prop} {Of : Nat → Addr → Prop} {H : Hp} {σ : L2.St} {env : Env} {α β : Type} {R : Rl α β} {a : α} {Q : β → Hp → Prop} {b : β} (S : St C Bo H σ env Of) (h : At mg C R (ret a) Bo Of H σ env Q) (r : R σ H Of env Bo (fun _ => False) a b) : Q b H :=
  (show At mg C R (lift (some a)) Bo Of H σ env Q from h).lift_ok S |>.elim fun a' ⟨e, q⟩ => by cases e; exact q b H Of (fun _ => False) Ext.refl S.bo (fun _ z => z.elim) r
theorem shs_nil : PShs X C [] nilM := pa_imp pa_nil fun σ H Q ⟨Bo, Of, env, S, h⟩ => h.ret_ok S ⟨fun _ z => z, Rps.nil⟩
theorem shs_cons (ha : PSh X C e fa) (hr : PShs X C es fr) (hs : starEach (e :: es) X.env = (false, eval e X.env) :: starEach es X.env := by rfl) : PShs X C (e :: es) (consM fa fr) :=
  pa_imp (pa_cons ha hr hs) fun σ H Q ⟨Bo, Of, env, S, h⟩ => ⟨Bo, Of, env, S, h.bnd0 sh_noP fun dx x H1 Of1 env1 _ x1 S1 r1 h1 => ⟨Bo, Of1, env1, S1, h1.bnd0 shs_noP fun ds xs H2 Of2 env2 _ x2 S2 r2 h2 =>
    h2.ret_ok S2 ⟨fun _ z => z, Rps.cons (r1.2.mono (x2.hid _)) r2.2⟩⟩⟩
/-- what a row of arguments is handed to -/
theorem rd_args {mg : Str → Option Value} {γ δ : Type} {fr : M (List D)} {k : List D → M γ} {R2 : Rl γ δ} {σ : L2.St} {H : Hp} {Q : δ → Hp → Prop} (h : rdG mg C R2 (bnd fr k) σ H Q) {G : List V → Hp → Prop}
    (hG : ∀ xs H2 ds Bo Of2 env2, St C Bo H2 σ env2 Of2 → Rps (Rp (hid H2 fun a => Os Of2 a ∨ Bo a)) xs ds → At mg C R2 (k ds) Bo Of2 H2 σ env2 Q → G xs H2) : rdG mg C rShs fr σ H G := by
  obtain ⟨Bo, Of, env, S, h⟩ := h
  exact ⟨Bo, Of, env, S, h.bnd0 shs_noP fun ds xs H1 Of1 env1 e x1 S1 r1 h1 => hG xs H1 ds Bo Of1 env1 S1 r1.2 h1⟩
theorem sh_tup {x1 : Nat} (h : PShs X C es fr) : PSh X C (.Tuple es x1 pos) (tupM fr) := pe_imp (pe_tup h) fun σ H Q h => rd_args h fun xs H2 ds Bo Of2 env2 S2 r h2 => by
  obtain ⟨d, e, _⟩ := h2.lift_ok S2
  split at e
  · rename_i hl
    exact ⟨by rw [r.1]; exact hl, h2.newTup S2 (by rw [if_pos hl]) r⟩
  · cases e
theorem ow_lst (h : PShs X C es fr) : POw X C 1 (.List es pos) (lstM fr) := pe_imp (pe_lst h) fun σ H Q h => rd_args h fun xs H2 ds Bo Of2 env2 S2 r h2 => by
  obtain ⟨d, e, _⟩ := h2.lift_ok S2
  split at e
  · rename_i hl
    exact ⟨by rw [r.1]; exact hl, h2.ownLst S2 (by rw [if_pos hl]) r⟩
  · cases e
end

/-! ### items -/
def idxD : D → D → Option D
  | .lst xs, .int i => atI xs i
  | .scr xs, .int i => atI xs i
  | .tup xs, .int i => atI xs i
  | .str s, .int i => if s.length ≤ sizeLine then (atI s.cps.toList i).map fun c => .str ⟨#[c]⟩ else none
  | _, _ => none
theorem Rps.atI {R : V → D → Prop} {vs : List V} {ds : List D} {i : Int} {d : D} (t : Rps R vs ds) (h : L2.atI ds i = some d) : ∃ v, L2.atI vs i = some v ∧ R v d := by
  unfold L2.atI at h ⊢
  rw [t.1]
  cases e : ixN ds.length i with
  | none => rw [e] at h; cases h
  | some j =>
    rw [e] at h
    exact t.get h
section
variable {X : Cx} {C : Cf} {a b : Expr} {fa fb : M D} {I J : List Nat} {pos : Pos}
theorem opd_ix {mg : Str → Option Value} {K : PySem.W.Frag} : OpD mg C tSm tRd (rIx K) idxD := by
  intro Bo Of H σ env x y dx dy Q S ha hb q
  obtain ⟨d, e, _⟩ := q.lift_ok S
  have sb := hid_sub H fun a => Os Of a ∨ Bo a
  unfold idxD at e
  split at e
  · obtain ⟨p, vs, rfl, h1, h2⟩ := Sm.lst ha sb
    obtain rfl := hb.int'
    obtain ⟨v, e1, r1⟩ := h2.atI e
    exact .inl ⟨_, _, _, v, rfl, rfl, .inl (.inl h1), e1, q.lift_sh S fun d' e' => by have e2 := e.symm.trans (show _ = some d' from e'); cases e2; exact r1⟩
  · obtain ⟨p, o, vs, rfl, h1, h2⟩ := Sm.scr ha sb
    obtain rfl := hb.int'
    obtain ⟨v, e1, r1⟩ := h2.atI e
    exact .inl ⟨_, _, _, v, rfl, rfl, .inl (.inr ⟨_, h1⟩), e1, q.lift_sh S fun d' e' => by have e2 := e.symm.trans (show _ = some d' from e'); cases e2; exact r1⟩
  · obtain ⟨p, vs, rfl, h1, h2⟩ := Sm.tup ha sb
    obtain rfl := hb.int'
    obtain ⟨v, e1, r1⟩ := h2.atI e
    exact .inr (.inl ⟨_, _, _, v, rfl, rfl, .inl (.inl h1), e1, q.lift_sh S fun d' e' => by have e2 := e.symm.trans (show _ = some d' from e'); cases e2; exact r1⟩)
  · rename_i s i
    obtain rfl := (ha.rp sb).str'
    obtain rfl := hb.int'
    split at e
    · rename_i hl
      obtain ⟨c, e1, e3⟩ := Option.map_eq_some_iff.mp e
      exact .inr (.inr ⟨_, _, c, rfl, rfl, hl, e1, q.lift_sh S fun d' e' => by
        have e2 : (if s.length ≤ sizeLine then (L2.atI s.cps.toList i).map fun c => D.str ⟨#[c]⟩ else none) = some d' := e'
        rw [if_pos hl, e] at e2
        cases e2
        rw [← e3]
        exact .str _⟩)
    · cases e
  · cases e
theorem sh_ix (ha : PSm X C I a fa) (hb : PRd X C J b fb) (kp : Kps I fb := by exact kps_nil) (hs : PlainIx b := by intro _ _; rfl) : PSh X C (.Subscript a b pos) (op2 idxD fa fb) :=
  pe_imp (pe_ix ix_seq ha.op hb.op hs) fun σ H Q h => rd_two kp h fun x y H2 dx dy Bo Of2 env2 S2 r1 r2 h2 => opd_ix Bo Of2 H2 σ env2 x y dx dy Q S2 r1 r2 h2
end
end Pf
/-! F5: tests, equality, membership, slices. -/
namespace Pf
open PySem PySem.Spec PyProof.Rows L2

section
variable {X : Cx} {C : Cf} {a b c : Expr} {rest : List Expr} {fa fb : M D} {ga gb : M Bool} {I J : List Nat} {pos : Pos}
abbrev PWb (X : Cx) (C : Cf) (e : Expr) (f : M Bool) : Prop := PW X e (rdG X.mg C rBl f)
theorem pw_imp {e : Expr} {t t' : TT} (h : PW X e t) (i : ∀ σ H Q, t' σ H Q → t σ H Q) : PW X e t' := ⟨fun wh pins s σ H Q I q => h.run wh pins s σ H Q I (i σ H Q q)⟩
theorem PWb.bl (h : PWb X C a ga) : PBl X C a ga := PW.pt h
theorem rd_ret {mg : Str → Option Value} {k : Bool} {σ : L2.St} {H : Hp} {Q : Bool → Hp → Prop} (h : rdG mg C rBl (ret k) σ H Q) : Q k H := by
  obtain ⟨Bo, Of, env, S, h⟩ := h
  exact h.ret_ok S ⟨fun _ z => z, rfl⟩
theorem bw_and1 (ha : PBl X C a ga) : PWb X C (.BoolOp .And [a] pos) ga := pw_and1 ha
theorem bw_or1 (ha : PBl X C a ga) : PWb X C (.BoolOp .Or [a] pos) ga := pw_or1 ha
theorem bw_and (ha : PBl X C a ga) (hb : PWb X C (.BoolOp .And (b :: rest) pos) gb) : PWb X C (.BoolOp .And (a :: b :: rest) pos) (andB ga gb) := pw_imp (pw_and ha hb) fun σ H Q h => rd_bool h fun k H2 q => by
  cases k with
  | true => exact iteT q
  | false => exact iteF (rd_ret (if_neg Bool.false_ne_true ▸ q))
theorem bw_or (ha : PBl X C a ga) (hb : PWb X C (.BoolOp .Or (b :: rest) pos) gb) : PWb X C (.BoolOp .Or (a :: b :: rest) pos) (orB ga gb) := pw_imp (pw_or ha hb) fun σ H Q h => rd_bool h fun k H2 q => by
  cases k with
  | true => exact iteT (rd_ret (if_pos rfl ▸ q))
  | false => exact iteF q
theorem bl_not (ha : PBl X C a ga) : PBl X C (.UnaryOp .Not a pos) (notB ga) := pt_imp (pt_not ha) fun σ H Q h => rd_bool h fun k H2 q => rd_ret q
/-- a value that is a truth, as a test -/
theorem bl_val (ha : PSh X C a fa) (he : ∀ whole, isTrue a X.env whole = (do let v ← whole; standAt a.pos; holding [v] (truthy v)) := by intro _; rfl) : PBl X C a (tb fa) :=
  pt_imp (pt_val ha he) fun σ H Q ⟨Bo, Of, env, S, h⟩ => ⟨Bo, Of, env, S, h.tb⟩
/-- a value of any kind, as a test -/
theorem bl_tru (ha : PRd X C I a fa) (he : ∀ whole, isTrue a X.env whole = (do let v ← whole; standAt a.pos; holding [v] (truthy v)) := by intro _; rfl) : PBl X C a (tru fa) :=
  pt_imp (pt_truth ha he) fun σ H Q h => rd_one (T := tRd) h fun x H2 d Bo Of2 env2 S2 r h2 => by
    obtain ⟨k, e, q⟩ := h2.lift_ok S2
    refine ⟨k, ?_, q k H2 Of2 (fun _ => False) Ext.refl S2.bo (fun _ z => z.elim) ⟨fun _ z => z, rfl⟩⟩
    cases r with
    | non => cases e; rfl
    | bl b => cases e; rfl
    | int i => cases e; rfl
    | str s =>
      have e' : (if s.length ≤ sizeLine then some (!(s.length == 0)) else none) = some k := e
      split at e'
      · rename_i hl
        refine ⟨hl, ?_⟩
        cases e'
        cases hs : s.length with
        | zero => rfl
        | succ n => simp; omega
      · cases e'
    | @tup p vs ds h l _ => cases e; exact .inr (.inl ⟨vs, .inl (.inl h), by cases vs <;> cases ds <;> first | rfl | cases l⟩)
    | @lst p vs ds h l _ => cases e; exact .inl ⟨vs, .inl (.inl h), by cases vs <;> cases ds <;> first | rfl | cases l⟩
    | @scr p o vs ds h l _ => cases e; exact .inl ⟨vs, .inl (.inr ⟨o, h⟩), by cases vs <;> cases ds <;> first | rfl | cases l⟩
    | @dic p vs ds h _ l _ => cases e; exact .inr (.inr ⟨vs, h, by cases vs <;> cases ds <;> first | rfl | cases l⟩)
/-- a if t else b -/
theorem sh_if {t : Expr} {gt : M Bool} (ht : PBl X C t gt) (ha : PSh X C a fa) (hb : PSh X C b fb) : PSh X C (.IfExp t a b pos) (iteM gt fa fb) := pe_imp (pe_ifExp ht ha hb) fun σ H Q h => rd_bool h fun k H2 q => by
  cases k with
  | true => exact iteT q
  | false => exact iteF q
theorem ow_if {t : Expr} {gt : M Bool} {k : Nat} (ht : PBl X C t gt) (ha : POw X C k a fa) (hb : POw X C k b fb) : POw X C k (.IfExp t a b pos) (iteM gt fa fb) := pe_imp (pe_ifExp ht ha hb) fun σ H Q h => rd_bool h fun k H2 q => by
  cases k with
  | true => exact iteT q
  | false => exact iteF q
/-- and, or, not as values -/
theorem sh_one {op : BoolOp} (h : PSh X C a fa) : PSh X C (.BoolOp op [a] pos) fa := pe_one h
theorem sh_and (ha : PSh X C a fa) (hb : PSh X C (.BoolOp .And (b :: rest) pos) fb) : PSh X C (.BoolOp .And (a :: b :: rest) pos) (andV fa fb) := pe_imp (pe_and ha hb) fun σ H Q ⟨Bo, Of, env, S, h⟩ => ⟨Bo, Of, env, S, h.bnd0 sh_noP fun d x H1 Of1 env1 _ x1 S1 r1 h1 => by
  cases d with
  | bl k =>
    obtain rfl := r1.2.bl'
    refine ⟨k, rfl, ?_⟩
    cases k with
    | true => exact iteT ⟨Bo, Of1, env1, S1, h1⟩
    | false => exact iteF (h1.ret_ok S1 ⟨fun _ z => z, .bl _⟩)
  | _ => exact False.elim (by unfold At at h1; exact h1)⟩
theorem sh_or (ha : PSh X C a fa) (hb : PSh X C (.BoolOp .Or (b :: rest) pos) fb) : PSh X C (.BoolOp .Or (a :: b :: rest) pos) (orV fa fb) := pe_imp (pe_or ha hb) fun σ H Q ⟨Bo, Of, env, S, h⟩ => ⟨Bo, Of, env, S, h.bnd0 sh_noP fun d x H1 Of1 env1 _ x1 S1 r1 h1 => by
  cases d with
  | bl k =>
    obtain rfl := r1.2.bl'
    refine ⟨k, rfl, ?_⟩
    cases k with
    | true => exact iteT (h1.ret_ok S1 ⟨fun _ z => z, .bl _⟩)
    | false => exact iteF ⟨Bo, Of1, env1, S1, h1⟩
  | _ => exact False.elim (by unfold At at h1; exact h1)⟩
def notD : D → Option D
  | .bl b => some (.bl (!b))
  | _ => none
theorem sh_not (ha : PSh X C a fa) : PSh X C (.UnaryOp .Not a pos) (op1 notD fa) := pe_imp (pe_not ha) fun σ H Q ⟨Bo, Of, env, S, h⟩ => ⟨Bo, Of, env, S, h.bnd0 sh_noP fun d x H1 Of1 env1 _ x1 S1 r1 h1 => by
  cases d with
  | bl k =>
    obtain rfl := r1.2.bl'
    exact ⟨k, rfl, h1.lift_sh S1 fun d' e => by cases e; exact .bl _⟩
  | _ => exact False.elim (by unfold At at h1; exact h1)⟩
/-- a test as a value (comparisons in a row) -/
def chM (a b c : M D) (g g' : D → D → Option D) : M D := bnd a fun x => bnd b fun y => bnd (lift (g x y)) fun z => match z with
  | .bl true => bnd c fun w => lift (g' y w)
  | .bl false => ret (.bl false)
  | _ => fun _ => .bad
end

/-! ### trees as the library's data -/
mutual
def toPy : D → PyData
  | .non => .none
  | .bl b => .bool b
  | .int i => .int i
  | .str s => .str s
  | .tup xs => .tuple (toPys xs)
  | .lst xs => .list (toPys xs)
  | .scr xs => .list (toPys xs)
  | .dic _ => .dict []
  | .clo _ _ => .dict []
def toPys : List D → List PyData
  | [] => []
  | x :: xs => toPy x :: toPys xs
end
theorem dpAll_of {K : PySem.W.Frag} {H : Hp} : ∀ {vs : List V} {ds : List D}, vs.length = ds.length → (∀ (i : Nat) (v : V) (d : D), vs[i]? = some v → ds[i]? = some d → PyData.canLay0 (toPy d) = true → Dp K H v (toPy d)) → PyData.canLayAll0 (toPys ds) = true → DpAll K H vs (toPys ds)
  | [], [], _, _, _ => .nil
  | [], _ :: _, l, _, _ => by cases l
  | _ :: _, [], l, _, _ => by cases l
  | v :: vs, d :: ds, l, h, c => by
    have c' : PyData.canLay0 (toPy d) = true ∧ PyData.canLayAll0 (toPys ds) = true := by simpa [toPys, PyData.canLayAll0] using c
    exact .cons (h 0 v d rfl rfl c'.1) (dpAll_of (by simpa using l) (fun i v' d' e1 e2 => h (i + 1) v' d' (by simpa using e1) (by simpa using e2)) c'.2)
theorem Rp.dp {K : PySem.W.Frag} {H : Hp} {v : V} {d : D} (h : Rp H v d) : PyData.canLay0 (toPy d) = true → Dp K H v (toPy d) := by
  induction h with
  | non => exact fun _ => .non
  | bl b => exact fun _ => .bl b
  | int i => exact fun _ => .int i
  | str s => exact fun _ => .str s
  | tup h l _ ih => exact fun c => .tup (.inl (.inl h)) (dpAll_of l ih (by simpa [toPy, PyData.canLay0] using c))
  | lst h l _ ih => exact fun c => .lst (.inl (.inl h)) (dpAll_of l ih (by simpa [toPy, PyData.canLay0] using c))
  | scr h l _ ih => exact fun c => .lst (.inl (.inr ⟨_, h⟩)) (dpAll_of l ih (by simpa [toPy, PyData.canLay0] using c))
  | dic _ _ _ _ => exact fun c => by simp [toPy, PyData.canLay0] at c
def okD (d : D) : Bool := SeqAt.shaped (toPy d)
def eqvD (x y : D) : Bool := PyData.eqv (toPy x) (toPy y)
def eqD (x y : D) : Option D := if okD x = true ∧ okD y = true then some (.bl (eqvD x y)) else none
def neD (x y : D) : Option D := if okD x = true ∧ okD y = true then some (.bl (!eqvD x y)) else none
section
variable {mg : Str → Option Value} {C : Cf} {K : PySem.W.Frag}
theorem opd_eq : OpD mg C tRd tRd (rEqD K) eqD := opd_atom fun F G x y dx dy d s ha hb e => by
  unfold eqD at e
  split at e
  · rename_i h
    cases e
    exact ⟨.bl (eqvD dx dy), fun _ => .bl _, fun Q q => ⟨_, _, ha.dp (SeqAt.canLay_of_shaped h.1), hb.dp (SeqAt.canLay_of_shaped h.2), h.1, h.2, q⟩⟩
  · cases e
theorem opd_ne : OpD mg C tRd tRd (rNeD K) neD := opd_atom fun F G x y dx dy d s ha hb e => by
  unfold neD at e
  split at e
  · rename_i h
    cases e
    exact ⟨.bl (!eqvD dx dy), fun _ => .bl _, fun Q q => ⟨_, _, ha.dp (SeqAt.canLay_of_shaped h.1), hb.dp (SeqAt.canLay_of_shaped h.2), h.1, h.2, q⟩⟩
  · cases e
def isD (x y : D) : Option D := match y with
  | .non => isND x
  | _ => none
def nisD (x y : D) : Option D := match y with
  | .non => notND x
  | _ => none
theorem isn_dec {G : Hp} {x : V} {d : D} (h : Rp G x d) : decide (x = .non) = nonB d := by
  cases h <;> rfl
theorem opd_is : OpD mg C tRd tRd (fun x y H Q => y = .non ∧ Q (.bl (decide (x = .non))) H) isD := opd_atom fun F G x y dx dy d s ha hb e => by
  unfold isD at e
  split at e
  · unfold isND at e
    cases e
    obtain rfl := hb.non'
    refine ⟨_, fun _ => .bl _, fun Q q => ⟨rfl, ?_⟩⟩
    rw [isn_dec ha]
    exact q
  · cases e
theorem opd_nis : OpD mg C tRd tRd (fun x y H Q => y = .non ∧ Q (.bl (!decide (x = .non))) H) nisD := opd_atom fun F G x y dx dy d s ha hb e => by
  unfold nisD at e
  split at e
  · unfold notND at e
    cases e
    obtain rfl := hb.non'
    refine ⟨_, fun _ => .bl _, fun Q q => ⟨rfl, ?_⟩⟩
    rw [isn_dec ha]
    exact q
  · cases e
/-- t + u of ints, texts, tuples -/
theorem opd_addA : OpD mg C tSm tSm (fun x y H Q => rI0 (fun i j => .int (i + j)) x y H Q ∨ (∃ i j, x = .str i ∧ y = .str j ∧ i.length + j.length ≤ sizeLine ∧ Q (.str (i ++ j)) H) ∨ rCatA K x y H Q) addD := by
  intro Bo Of H σ env x y dx dy Q S ha hb q
  obtain ⟨d, e, _⟩ := q.lift_ok S
  have sb := hid_sub H fun a => Os Of a ∨ Bo a
  unfold addD at e
  split at e
  · obtain rfl := (ha.rp sb).int'
    obtain rfl := (hb.rp sb).int'
    exact .inl ⟨_, _, rfl, rfl, q.lift_sh S fun d' e' => by cases e'; exact .int _⟩
  · rename_i s1 s2
    obtain rfl := (ha.rp sb).str'
    obtain rfl := (hb.rp sb).str'
    split at e
    · rename_i hl
      exact .inr (.inl ⟨_, _, rfl, rfl, hl, q.lift_sh S fun d' e' => by
        have e2 : (if s1.length + s2.length ≤ sizeLine then some (D.str (s1 ++ s2)) else none) = some d' := e'
        rw [if_pos hl] at e2; cases e2; exact .str _⟩)
    · cases e
  · rename_i xs ys
    obtain ⟨p, vs, rfl, h1, h2⟩ := Sm.tup ha sb
    obtain ⟨p', vs', rfl, h1', h2'⟩ := Sm.tup hb sb
    split at e
    · rename_i hl
      have eo : addD (.tup xs) (.tup ys) = some (.tup (xs ++ ys)) := by
        show (if xs.length + ys.length ≤ sizeLine then some (D.tup (xs ++ ys)) else none) = _
        rw [if_pos hl]
      have hl' : vs.length + vs'.length ≤ sizeLine := by rw [h2.1, h2'.1]; exact hl
      refine .inr (.inr ⟨p, p', vs, vs', rfl, rfl, .inl (.inl h1), .inl (.inl h1'), hl', fun z => ?_, fun z z' => ?_, fun z z' => q.newTup S eo (h2.append h2')⟩)
      · refine q.lift_sh S fun d' e' => ?_
        rw [eo] at e'; cases e'
        subst z
        have : xs = [] := by cases xs with | nil => rfl | cons _ _ => cases h2.1
        subst this
        rcases hb with hb | ⟨_, _, _, _, e3, _⟩ | ⟨_, _, _, _, e3, _⟩
        · exact hb
        · cases e3
        · cases e3
      · refine q.lift_sh S fun d' e' => ?_
        rw [eo] at e'; cases e'
        subst z'
        have : ys = [] := by cases ys with | nil => rfl | cons _ _ => cases h2'.1
        subst this
        rw [List.append_nil]
        rcases ha with ha | ⟨_, _, _, _, e3, _⟩ | ⟨_, _, _, _, e3, _⟩
        · exact ha
        · cases e3
        · cases e3
    · cases e
  · cases e
end
section
variable {X : Cx} {C : Cf} {a b : Expr} {fa fb : M D} {I J : List Nat} {pos : Pos}
theorem sh_add (ha : PSm X C I a fa) (hb : PSm X C J b fb) (kp : Kps I fb := by exact kps_nil) : PSh X C (.BinOp a .Add b pos) (op2 addD fa fb) := sh_op (op_add.or (op_add_str.or op_catA)) opd_addA ha.op hb.op kp
theorem sh_sub (ha : PRd X C I a fa) (hb : PRd X C J b fb) (kp : Kps I fb := by exact kps_nil) : PSh X C (.BinOp a .Sub b pos) (op2 subD fa fb) := sh_op op_sub opd_sub ha.op hb.op kp
theorem sh_mul (ha : PRd X C I a fa) (hb : PRd X C J b fb) (kp : Kps I fb := by exact kps_nil) : PSh X C (.BinOp a .Mult b pos) (op2 mulD fa fb) := sh_op (op_mul.or op_mulW) opd_mul ha.op hb.op kp
theorem sh_fdiv (ha : PRd X C I a fa) (hb : PRd X C J b fb) (kp : Kps I fb := by exact kps_nil) : PSh X C (.BinOp a .FloorDiv b pos) (op2 fdivD fa fb) := sh_op op_fdivW opd_fdiv ha.op hb.op kp
theorem sh_mod (ha : PRd X C I a fa) (hb : PRd X C J b fb) (kp : Kps I fb := by exact kps_nil) : PSh X C (.BinOp a .Mod b pos) (op2 modD fa fb) := sh_op op_mod opd_mod ha.op hb.op kp
theorem sh_pow (ha : PRd X C I a fa) (hb : PRd X C J b fb) (kp : Kps I fb := by exact kps_nil) : PSh X C (.BinOp a .Pow b pos) (op2 powD fa fb) := sh_op op_pow opd_pow ha.op hb.op kp
theorem sh_neg (ha : PRd X C I a fa) : PSh X C (.UnaryOp .USub a pos) (op1 negD fa) := sh_un un_neg (fun G x dx d r e => by
  unfold negD at e
  split at e
  · cases e
    obtain rfl := r.int'
    exact ⟨_, fun _ => .int _, fun Q q => ⟨_, rfl, q⟩⟩
  · cases e) ha
variable (hu : X.A.units + 64 < cLine)
theorem sh_eq (hu : X.A.units + 64 < cLine) (ha : PRd X C I a fa) (hb : PRd X C J b fb) (kp : Kps I fb := by exact kps_nil) : PSh X C (.Compare a [.Eq] [b] pos) (op2 eqD fa fb) := sh_cmp (op_eqD hu) opd_eq ha.op hb.op (nomark _) kp
theorem sh_ne (hu : X.A.units + 64 < cLine) (ha : PRd X C I a fa) (hb : PRd X C J b fb) (kp : Kps I fb := by exact kps_nil) : PSh X C (.Compare a [.NotEq] [b] pos) (op2 neD fa fb) := sh_cmp (op_neD hu) opd_ne ha.op hb.op (nomark _) kp
theorem sh_lt (ha : PRd X C I a fa) (hb : PRd X C J b fb) (kp : Kps I fb := by exact kps_nil) : PSh X C (.Compare a [.Lt] [b] pos) (op2 ltD fa fb) := sh_cmp op_lt opd_lt ha.op hb.op (nomark _) kp
theorem sh_le (ha : PRd X C I a fa) (hb : PRd X C J b fb) (kp : Kps I fb := by exact kps_nil) : PSh X C (.Compare a [.LtE] [b] pos) (op2 leD fa fb) := sh_cmp op_le opd_le ha.op hb.op (nomark _) kp
theorem sh_gt (ha : PRd X C I a fa) (hb : PRd X C J b fb) (kp : Kps I fb := by exact kps_nil) : PSh X C (.Compare a [.Gt] [b] pos) (op2 gtD fa fb) := sh_cmp op_gt opd_gt ha.op hb.op (nomark _) kp
theorem sh_ge (ha : PRd X C I a fa) (hb : PRd X C J b fb) (kp : Kps I fb := by exact kps_nil) : PSh X C (.Compare a [.GtE] [b] pos) (op2 geD fa fb) := sh_cmp op_ge opd_ge ha.op hb.op (nomark _) kp
theorem sh_is (ha : PRd X C I a fa) (hb : PRd X C J b fb) (kp : Kps I fb := by exact kps_nil) : PSh X C (.Compare a [.Is] [b] pos) (op2 isD fa fb) := sh_cmp op_isN opd_is ha.op hb.op (nomark _) kp
theorem sh_nis (ha : PRd X C I a fa) (hb : PRd X C J b fb) (kp : Kps I fb := by exact kps_nil) : PSh X C (.Compare a [.IsNot] [b] pos) (op2 nisD fa fb) := sh_cmp op_notN opd_nis ha.op hb.op (nomark _) kp
theorem bl_eq (hu : X.A.units + 64 < cLine) (ha : PRd X C I a fa) (hb : PRd X C J b fb) (kp : Kps I fb := by exact kps_nil) : PBl X C (.Compare a [.Eq] [b] pos) (tb (op2 eqD fa fb)) := bl_cmp (op_eqD hu) opd_eq ha.op hb.op (nomark _) kp
theorem bl_ne (hu : X.A.units + 64 < cLine) (ha : PRd X C I a fa) (hb : PRd X C J b fb) (kp : Kps I fb := by exact kps_nil) : PBl X C (.Compare a [.NotEq] [b] pos) (tb (op2 neD fa fb)) := bl_cmp (op_neD hu) opd_ne ha.op hb.op (nomark _) kp
theorem bl_lt (ha : PRd X C I a fa) (hb : PRd X C J b fb) (kp : Kps I fb := by exact kps_nil) : PBl X C (.Compare a [.Lt] [b] pos) (tb (op2 ltD fa fb)) := bl_cmp op_lt opd_lt ha.op hb.op (nomark _) kp
theorem bl_le (ha : PRd X C I a fa) (hb : PRd X C J b fb) (kp : Kps I fb := by exact kps_nil) : PBl X C (.Compare a [.LtE] [b] pos) (tb (op2 leD fa fb)) := bl_cmp op_le opd_le ha.op hb.op (nomark _) kp
theorem bl_gt (ha : PRd X C I a fa) (hb : PRd X C J b fb) (kp : Kps I fb := by exact kps_nil) : PBl X C (.Compare a [.Gt] [b] pos) (tb (op2 gtD fa fb)) := bl_cmp op_gt opd_gt ha.op hb.op (nomark _) kp
theorem bl_ge (ha : PRd X C I a fa) (hb : PRd X C J b fb) (kp : Kps I fb := by exact kps_nil) : PBl X C (.Compare a [.GtE] [b] pos) (tb (op2 geD fa fb)) := bl_cmp op_ge opd_ge ha.op hb.op (nomark _) kp
theorem bl_is (ha : PRd X C I a fa) (hb : PRd X C J b fb) (kp : Kps I fb := by exact kps_nil) : PBl X C (.Compare a [.Is] [b] pos) (tb (op2 isD fa fb)) := bl_cmp op_isN opd_is ha.op hb.op (nomark _) kp
theorem bl_nis (ha : PRd X C I a fa) (hb : PRd X C J b fb) (kp : Kps I fb := by exact kps_nil) : PBl X C (.Compare a [.IsNot] [b] pos) (tb (op2 nisD fa fb)) := bl_cmp op_notN opd_nis ha.op hb.op (nomark _) kp
end
end Pf
/-! F6: built-ins called. -/
namespace Pf
open PySem PySem.Spec PyProof.Rows L2

/-! ### what they answer -/
def lenD : D → Option D
  | .lst xs => some (.int xs.length)
  | .scr xs => some (.int xs.length)
  | .tup xs => some (.int xs.length)
  | .dic xs => some (.int xs.length)
  | .str s => if s.length ≤ sizeLine then some (.int s.length) else none
  | _ => none
def absD : D → Option D
  | .int i => some (.int (if i < 0 then -i else i))
  | _ => none
def intD : D → Option D
  | .int i => some (.int i)
  | .bl b => some (.int (if b = true then 1 else 0))
  | _ => none
def maxD : D → D → Option D
  | .int i, .int j => some (.int (if j > i then j else i))
  | _, _ => none
def minD : D → D → Option D
  | .int i, .int j => some (.int (if j < i then j else i))
  | _, _ => none
def gcdD : D → D → Option D
  | .int i, .int j => some (.int ((Nat.gcd i.natAbs j.natAbs : Nat) : Int))
  | _, _ => none
/-- all items ints, truths -/
def intsD : List D → Option (List Int)
  | [] => some []
  | .int i :: r => (intsD r).map (i :: ·)
  | _ :: _ => none
def blsD : List D → Option (List Bool)
  | [] => some []
  | .bl i :: r => (blsD r).map (i :: ·)
  | _ :: _ => none
theorem intsD_map (ns : List Int) : intsD (ns.map .int) = some ns := by
  induction ns with
  | nil => rfl
  | cons n ns ih => show (intsD (ns.map .int)).map (n :: ·) = _; rw [ih]; rfl
theorem blsD_map (ns : List Bool) : blsD (ns.map .bl) = some ns := by
  induction ns with
  | nil => rfl
  | cons n ns ih => show (blsD (ns.map .bl)).map (n :: ·) = _; rw [ih]; rfl
theorem intsD_some : ∀ {xs : List D} {ns : List Int}, intsD xs = some ns → xs = ns.map .int
  | [], ns, h => by cases h; rfl
  | x :: r, ns, h => by
    cases x with
    | int i =>
      obtain ⟨m, e1, e2⟩ := Option.map_eq_some_iff.mp (show (intsD r).map (i :: ·) = some ns from h)
      rw [← e2, intsD_some e1]; rfl
    | _ => cases h
theorem blsD_some : ∀ {xs : List D} {ns : List Bool}, blsD xs = some ns → xs = ns.map .bl
  | [], ns, h => by cases h; rfl
  | x :: r, ns, h => by
    cases x with
    | bl i =>
      obtain ⟨m, e1, e2⟩ := Option.map_eq_some_iff.mp (show (blsD r).map (i :: ·) = some ns from h)
      rw [← e2, blsD_some e1]; rfl
    | _ => cases h
def sumD : D → Option D
  | .lst xs => (intsD xs).map fun ns => .int ns.sum
  | _ => none
def allD : D → Option D
  | .lst xs => (blsD xs).map fun bs => .bl (bs.all id)
  | _ => none
def anyD : D → Option D
  | .lst xs => (blsD xs).map fun bs => .bl (bs.any id)
  | _ => none
def tupleD : D → Option D
  | .lst xs => some (.tup xs)
  | .tup xs => some (.tup xs)
  | _ => none
def listD : D → Option D
  | .lst xs => some (.lst xs)
  | .scr xs => some (.lst xs)
  | .tup xs => some (.lst xs)
  | _ => none
/-- in their order -/
def srt (ns : List Int) : List Int := ns.mergeSort fun a b => decide (a ≤ b)
def sortedD : D → Option D
  | .lst xs => (intsD xs).map fun ns => .lst ((srt ns).map .int)
  | _ => none
def maxLD : D → Option D
  | .lst xs => match intsD xs with
    | some (n :: ns) => some (.int (ns.foldl (fun a b => if a < b then b else a) n))
    | _ => none
  | _ => none
def minLD : D → Option D
  | .lst xs => match intsD xs with
    | some (n :: ns) => some (.int (ns.foldl (fun a b => if b < a then b else a) n))
    | _ => none
  | _ => none
def tyD : D → String
  | .non => "NoneType"
  | .bl _ => "bool"
  | .int _ => "int"
  | .str _ => "str"
  | .tup _ => "tuple"
  | .lst _ => "list"
  | .scr _ => "list"
  | .dic _ => "dict"
  | .clo _ _ => "function"
inductive Ty where
  | int | bool | str | tup | lst | dic
def Ty.name : Ty → String
  | .int => "int"
  | .bool => "bool"
  | .str => "str"
  | .tup => "tuple"
  | .lst => "list"
  | .dic => "dict"
def isiB : Ty → D → Bool
  | .int, .int _ => true
  | .int, .bl _ => true
  | .bool, .bl _ => true
  | .str, .str _ => true
  | .tup, .tup _ => true
  | .lst, .lst _ => true
  | .lst, .scr _ => true
  | .dic, .dic _ => true
  | _, _ => false
def isiD (T : Ty) : D → Option D
  | .clo _ _ => none
  | d => some (.bl (isiB T d))

section
variable {mg : Str → Option Value} {C : Cf} {K : PySem.W.Frag}
def Od1 (mg : Str → Option Value) (C : Cf) (R : Rl D V) (T : Tk) (r : V → Hp → VK → Prop) (g : D → Option D) : Prop := ∀ Bo Of H σ env x dx Q, St C Bo H σ env Of → T (hid H fun a => Os Of a ∨ Bo a) H x dx →
  At mg C R (lift (g dx)) Bo Of H σ env Q → r x H Q
theorem od1_atom {T : Tk} {r : V → Hp → VK → Prop} {g : D → Option D} (h : ∀ F G x dx d, Sub F G → T F G x dx → g dx = some d → ∃ v, (∀ F', Rp F' v d) ∧ ∀ Q : VK, Q v G → r x G Q) : Od1 mg C rSh T r g := by
  intro Bo Of H σ env x dx Q S ha q
  obtain ⟨d, e, _⟩ := q.lift_ok S
  obtain ⟨v, r1, r2⟩ := h _ _ x dx d (hid_sub _ _) ha e
  exact r2 Q (q.lift_sh S fun d' e' => by rw [e] at e'; cases e'; exact r1 _)
theorem od_len : Od1 mg C rSh tRd (fun x H Q => (∃ y n, [x] = [y] ∧ LenV K y H n ∧ Q (.int n) H) ∨ ∃ a kvs, [x] = [V.ref a] ∧ H a = some (.dK kvs) ∧ Q (.int kvs.length) H) lenD := od1_atom fun F G x dx d s ha e => by
  cases ha with
  | str z =>
    have e' : (if z.length ≤ sizeLine then some (D.int z.length) else none) = some d := e
    split at e'
    · rename_i h
      cases e'
      exact ⟨_, fun _ => .int _, fun Q q => .inl ⟨_, _, rfl, ⟨h, rfl⟩, q⟩⟩
    · cases e'
  | tup h l r => cases e; exact ⟨_, fun _ => .int _, fun Q q => .inl ⟨_, _, rfl, .inr ⟨_, .inl (.inl h), l.symm⟩, q⟩⟩
  | lst h l r => cases e; exact ⟨_, fun _ => .int _, fun Q q => .inl ⟨_, _, rfl, .inl ⟨_, .inl (.inl h), l.symm⟩, q⟩⟩
  | scr h l r => cases e; exact ⟨_, fun _ => .int _, fun Q q => .inl ⟨_, _, rfl, .inl ⟨_, .inl (.inr ⟨_, h⟩), l.symm⟩, q⟩⟩
  | dic h k l r => cases e; exact ⟨_, fun _ => .int _, fun Q q => .inr ⟨_, _, rfl, h, by rw [l]; exact q⟩⟩
  | _ => cases e
theorem od_abs : Od1 mg C rSh tRd (fun x H Q => ∃ i, [x] = [V.int i] ∧ Q (.int (if i < 0 then -i else i)) H) absD := od1_atom fun F G x dx d s ha e => by
  unfold absD at e
  split at e
  · cases e
    obtain rfl := ha.int'
    exact ⟨_, fun _ => .int _, fun Q q => ⟨_, rfl, q⟩⟩
  · cases e
theorem od_int : Od1 mg C rSh tRd (fun x H Q => (∃ i, [x] = [V.int i] ∧ Q (.int i) H) ∨ ∃ k, [x] = [V.bl k] ∧ Q (.int (if k then 1 else 0)) H) intD := od1_atom fun F G x dx d s ha e => by
  unfold intD at e
  split at e
  · cases e
    obtain rfl := ha.int'
    exact ⟨_, fun _ => .int _, fun Q q => .inl ⟨_, rfl, q⟩⟩
  · cases e
    obtain rfl := ha.bl'
    exact ⟨_, fun _ => .int _, fun Q q => .inr ⟨_, rfl, q⟩⟩
  · cases e
theorem rps_ints {F : Hp} : ∀ {vs : List V} {ns : List Int}, Rps (Rp F) vs (ns.map .int) → vs = ns.map V.int
  | [], [], _ => rfl
  | [], _ :: _, h => by cases h.1
  | _ :: _, [], h => by cases h.1
  | v :: vs, n :: ns, h => by
    have h1 := (Rps.head h).int'
    rw [h1, rps_ints (Rps.tail h)]; rfl
theorem rps_bls {F : Hp} : ∀ {vs : List V} {ns : List Bool}, Rps (Rp F) vs (ns.map .bl) → vs = ns.map V.bl
  | [], [], _ => rfl
  | [], _ :: _, h => by cases h.1
  | _ :: _, [], h => by cases h.1
  | v :: vs, n :: ns, h => by
    have h1 := (Rps.head h).bl'
    rw [h1, rps_bls (Rps.tail h)]; rfl
theorem ints_rps {F : Hp} : ∀ {ns : List Int}, Rps (Rp F) (ns.map V.int) (ns.map .int)
  | [] => Rps.nil
  | n :: ns => Rps.cons (.int n) ints_rps
theorem Rp.lst' {F : Hp} {v : V} {ds : List D} (h : Rp F v (.lst ds)) : ∃ a vs, v = .ref a ∧ F a = some (.lst vs) ∧ Rps (Rp F) vs ds := by
  cases h with
  | lst q l r => exact ⟨_, _, rfl, q, l, r⟩
theorem Rp.tup' {F : Hp} {v : V} {ds : List D} (h : Rp F v (.tup ds)) : ∃ a vs, v = .ref a ∧ F a = some (.tup vs) ∧ Rps (Rp F) vs ds := by
  cases h with
  | tup q l r => exact ⟨_, _, rfl, q, l, r⟩
theorem od_sum : Od1 mg C rSh tRd (fun x H Q => rSum K [x] H Q) sumD := od1_atom fun F G x dx d s ha e => by
  unfold sumD at e
  split at e
  · obtain ⟨ns, e1, e2⟩ := Option.map_eq_some_iff.mp e
    cases e2
    obtain ⟨a, vs, rfl, h1, h2⟩ := ha.lst'
    rw [intsD_some e1] at h2
    rw [rps_ints h2] at h1
    exact ⟨_, fun _ => .int _, fun Q q => ⟨a, ns, rfl, .inl (.inl h1), q⟩⟩
  · cases e
theorem od_all : Od1 mg C rSh tRd (fun x H Q => rAll K [x] H Q) allD := od1_atom fun F G x dx d s ha e => by
  unfold allD at e
  split at e
  · obtain ⟨ns, e1, e2⟩ := Option.map_eq_some_iff.mp e
    cases e2
    obtain ⟨a, vs, rfl, h1, h2⟩ := ha.lst'
    rw [blsD_some e1] at h2
    rw [rps_bls h2] at h1
    exact ⟨_, fun _ => .bl _, fun Q q => ⟨a, ns, rfl, .inl (.inl h1), q⟩⟩
  · cases e
theorem od_any : Od1 mg C rSh tRd (fun x H Q => rAny K [x] H Q) anyD := od1_atom fun F G x dx d s ha e => by
  unfold anyD at e
  split at e
  · obtain ⟨ns, e1, e2⟩ := Option.map_eq_some_iff.mp e
    cases e2
    obtain ⟨a, vs, rfl, h1, h2⟩ := ha.lst'
    rw [blsD_some e1] at h2
    rw [rps_bls h2] at h1
    exact ⟨_, fun _ => .bl _, fun Q q => ⟨a, ns, rfl, .inl (.inl h1), q⟩⟩
  · cases e
theorem od_tuple : Od1 mg C rSh tSm (fun x H Q => ∃ p ys, [x] = [V.ref p] ∧ ((SqL K H p ys ∧ ∀ l, H l = none → Q (.ref l) (upd H l (.tup ys))) ∨ (SqT K H p ys ∧ Q (.ref p) H))) tupleD := by
  intro Bo Of H σ env x dx Q S ha q
  obtain ⟨d, e, _⟩ := q.lift_ok S
  have sb := hid_sub H fun a => Os Of a ∨ Bo a
  unfold tupleD at e
  split at e
  · obtain ⟨p, vs, rfl, h1, h2⟩ := Sm.lst ha sb
    exact ⟨p, vs, rfl, .inl ⟨.inl (.inl h1), q.newTup S rfl h2⟩⟩
  · rename_i xs
    have ha' : Rp (hid H fun a => Os Of a ∨ Bo a) x (.tup xs) := by
      rcases ha with ha | ⟨_, _, _, _, e3, _⟩ | ⟨_, _, _, _, e3, _⟩
      · exact ha
      · cases e3
      · cases e3
    obtain ⟨p, vs, rfl, h1, h2⟩ := ha'.tup'
    exact ⟨p, vs, rfl, .inr ⟨.inl (.inl (sb _ _ h1)), q.lift_sh S fun d' e' => by cases e'; exact ha'⟩⟩
  · cases e
theorem od_list : Od1 mg C (rOw 1) tSm (fun x H Q => ∃ p ys, [x] = [V.ref p] ∧ (SqL K H p ys ∨ SqT K H p ys) ∧ ∀ l, H l = none → Q (.ref l) (upd H l (.lst ys))) listD := by
  intro Bo Of H σ env x dx Q S ha q
  obtain ⟨d, e, _⟩ := q.lift_ok S
  have sb := hid_sub H fun a => Os Of a ∨ Bo a
  unfold listD at e
  split at e
  · obtain ⟨p, vs, rfl, h1, h2⟩ := Sm.lst ha sb
    exact ⟨p, vs, rfl, .inl (.inl (.inl h1)), q.ownLst S rfl h2⟩
  · obtain ⟨p, o, vs, rfl, h1, h2⟩ := Sm.scr ha sb
    exact ⟨p, vs, rfl, .inl (.inl (.inr ⟨_, h1⟩)), q.ownLst S rfl h2⟩
  · obtain ⟨p, vs, rfl, h1, h2⟩ := Sm.tup ha sb
    exact ⟨p, vs, rfl, .inr (.inl (.inl h1)), q.ownLst S rfl h2⟩
  · cases e
theorem srt_perm (ns : List Int) : (srt ns).Perm ns := List.mergeSort_perm _ _
theorem srt_pair (ns : List Int) : (srt ns).Pairwise (· ≤ ·) := by
  have h := List.pairwise_mergeSort (le := fun a b : Int => decide (a ≤ b)) (fun a b c h1 h2 => by simp at *; omega) (fun a b => by simp; omega) ns
  exact h.imp fun h => by simpa using h
theorem srt_uniq {ns ms : List Int} (p : ms.Perm ns) (q : ms.Pairwise (· ≤ ·)) : ms = srt ns :=
  (p.trans (srt_perm ns).symm).eq_of_pairwise (fun a b _ _ h1 h2 => by omega) q (srt_pair ns)
theorem od_sorted : Od1 mg C (rOw 1) tRd (fun x H Q => rSortedI K [x] H Q) sortedD := by
  intro Bo Of H σ env x dx Q S ha q
  obtain ⟨d, e, _⟩ := q.lift_ok S
  unfold sortedD at e
  split at e
  · rename_i xs
    obtain ⟨ns, e1, e2⟩ := Option.map_eq_some_iff.mp e
    obtain ⟨a, vs, rfl, h1, h2⟩ := ha.lst'
    rw [intsD_some e1] at h2
    rw [rps_ints h2] at h1
    refine ⟨a, ns, rfl, .inl (.inl h1), fun ns' p hp hs hn => ?_⟩
    rw [srt_uniq hp hs]
    exact q.ownLst S (ds := (srt ns).map .int) (by show (intsD xs).map _ = _; rw [e1]; rfl) ints_rps p hn
  · cases e
theorem kit_tab (T : Ty) : kitB "NoneType" T.name = some (isiB T .non) ∧ kitB "bool" T.name = some (isiB T (.bl true)) ∧ kitB "int" T.name = some (isiB T (.int 0)) ∧ kitB "str" T.name = some (isiB T (.str Str.empty)) ∧
    kitB "tuple" T.name = some (isiB T (.tup [])) ∧ kitB "list" T.name = some (isiB T (.lst [])) ∧ kitB "dict" T.name = some (isiB T (.dic [])) := by
  cases T <;> decide +kernel
theorem Rp.tyx {K : PySem.W.Frag} {G : Hp} {v : V} {d : D} (h : Rp G v d) : TyX K G v (.type (tyD d)) := by
  cases h with
  | non => exact .base .non
  | bl b => exact .base (.bl b)
  | int i => exact .base (.int i)
  | str s => exact .base (.str s)
  | tup h _ _ => exact .base (.tup h)
  | lst h _ _ => exact .base (.lst h)
  | scr h _ _ => exact .base (.frz h)
  | dic h _ _ _ => exact .base (.dK h)
theorem od_isi (T : Ty) : Od1 mg C rSh tRd (fun x H Q => rIsi K [x, .ty T.name] H Q) (isiD T) := od1_atom fun F G x dx d s ha e => by
  obtain ⟨k1, k2, k3, k4, k5, k6, k7⟩ := kit_tab T
  have key : ∀ b, kitB (tyD dx) T.name = some b → ∃ v, (∀ F', Rp F' v (.bl b)) ∧ ∀ Q : VK, Q v G → rIsi K [x, .ty T.name] G Q := fun b hb =>
    ⟨.bl b, fun _ => .bl b, fun Q q => ⟨x, .ty T.name, _, _, b, rfl, .ty _, ha.tyx, kit_ty hb, q⟩⟩
  cases ha with
  | non => cases e; exact key _ k1
  | bl b => cases e; exact key _ (by rw [show isiB T (.bl b) = isiB T (.bl true) by cases T <;> rfl]; exact k2)
  | int i => cases e; exact key _ (by rw [show isiB T (.int i) = isiB T (.int 0) by cases T <;> rfl]; exact k3)
  | str s => cases e; exact key _ (by rw [show isiB T (.str s) = isiB T (.str Str.empty) by cases T <;> rfl]; exact k4)
  | @tup a vs ds h _ _ => cases e; exact key _ (by rw [show isiB T (.tup ds) = isiB T (.tup []) by cases T <;> rfl]; exact k5)
  | @lst a vs ds h _ _ => cases e; exact key _ (by rw [show isiB T (.lst ds) = isiB T (.lst []) by cases T <;> rfl]; exact k6)
  | @scr a o vs ds h _ _ => cases e; exact key _ (by rw [show isiB T (.scr ds) = isiB T (.lst []) by cases T <;> rfl]; exact k6)
  | @dic a vs ds h _ _ _ => cases e; exact key _ (by rw [show isiB T (.dic ds) = isiB T (.dic []) by cases T <;> rfl]; exact k7)
end
/-! ### calls written -/
section
variable {X : Cx} {C : Cf} {T : Tk} {a b : Expr} {fa fb : M D} {I J : List Nat} {p p2 pos : Pos} {x : Str} {id : String}
theorem g_callB {R : Rl D V} {r : List V → Hp → VK → Prop} {g : D → Option D} (hc : CallR X (.builtin id) r) (hd : Od1 X.mg C R T (fun v => r [v]) g) (ha : POp X C T I a fa) (hg : Gl X x) (hm : X.mg x = none) (hv : bootBuiltins x = some (.builtin id))
    (he : starEach [a] X.env = (false, eval a X.env) :: starEach [] X.env) (hn : x ≠ "__name__") (hdb : (x == ("__debug__" : Str)) = false) : PE X (.Call (.Name x p) [a] [] pos) (rdG X.mg C R (op1 g fa)) :=
  pe_imp (pe_callB hc hg hm hv (pa_cons ha pa_nil he) hn hdb he (by show (backTo pos []).any _ = _; rfl)) fun σ H Q h => rd_one h fun v H2 dx Bo Of2 env2 S2 r1 h2 => hd Bo Of2 H2 σ env2 v dx Q S2 r1 h2
theorem g_callTy {R : Rl D V} {n : String} {r : List V → Hp → VK → Prop} {g : D → Option D} (hc : CallR X (.type n) r) (hd : Od1 X.mg C R T (fun v => r [v]) g) (ha : POp X C T I a fa) (hg : Gl X x) (hm : X.mg x = none) (hv : bootBuiltins x = some (.type n))
    (he : starEach [a] X.env = (false, eval a X.env) :: starEach [] X.env) (hn : x ≠ "__name__") (hdb : (x == ("__debug__" : Str)) = false) : PE X (.Call (.Name x p) [a] [] pos) (rdG X.mg C R (op1 g fa)) :=
  pe_imp (pe_callTy hc hg hm hv (pa_cons ha pa_nil he) hn hdb he (by show (backTo pos []).any _ = _; rfl)) fun σ H Q h => rd_one h fun v H2 dx Bo Of2 env2 S2 r1 h2 => hd Bo Of2 H2 σ env2 v dx Q S2 r1 h2
theorem sh_len (hm : X.mg "len" = none) (ha : PRd X C I a fa) (hg : Gl X "len" := by rfl) (he : starEach [a] X.env = (false, eval a X.env) :: starEach [] X.env := by rfl) : PSh X C (.Call (.Name "len" p) [a] [] pos) (op1 lenD fa) :=
  g_callB (call_len.or call_lenD) od_len ha.op hg hm PySem.boot_len he (by decide) (by decide)
theorem sh_abs (hm : X.mg "abs" = none) (ha : PRd X C I a fa) (hg : Gl X "abs" := by rfl) (he : starEach [a] X.env = (false, eval a X.env) :: starEach [] X.env := by rfl) : PSh X C (.Call (.Name "abs" p) [a] [] pos) (op1 absD fa) :=
  g_callB call_abs od_abs ha.op hg hm (by decide +kernel) he (by decide) (by decide)
theorem sh_int' (hm : X.mg "int" = none) (ha : PRd X C I a fa) (hg : Gl X "int" := by rfl) (he : starEach [a] X.env = (false, eval a X.env) :: starEach [] X.env := by rfl) : PSh X C (.Call (.Name "int" p) [a] [] pos) (op1 intD fa) :=
  g_callTy call_int1 od_int ha.op hg hm (by decide +kernel) he (by decide) (by decide)
theorem sh_sum (hm : X.mg "sum" = none) (hc : X.calm = true) (ha : PRd X C I a fa) (hg : Gl X "sum" := by rfl) (he : starEach [a] X.env = (false, eval a X.env) :: starEach [] X.env := by rfl) : PSh X C (.Call (.Name "sum" p) [a] [] pos) (op1 sumD fa) :=
  g_callB (cr_sum hc) od_sum ha.op hg hm (by decide +kernel) he (by decide) (by decide)
theorem sh_all (hm : X.mg "all" = none) (hc : X.calm = true) (ha : PRd X C I a fa) (hg : Gl X "all" := by rfl) (he : starEach [a] X.env = (false, eval a X.env) :: starEach [] X.env := by rfl) : PSh X C (.Call (.Name "all" p) [a] [] pos) (op1 allD fa) :=
  g_callB (cr_all hc) od_all ha.op hg hm (by decide +kernel) he (by decide) (by decide)
theorem sh_any (hm : X.mg "any" = none) (hc : X.calm = true) (ha : PRd X C I a fa) (hg : Gl X "any" := by rfl) (he : starEach [a] X.env = (false, eval a X.env) :: starEach [] X.env := by rfl) : PSh X C (.Call (.Name "any" p) [a] [] pos) (op1 anyD fa) :=
  g_callB (cr_any hc) od_any ha.op hg hm (by decide +kernel) he (by decide) (by decide)
theorem sh_tuple (hm : X.mg "tuple" = none) (ha : PSm X C I a fa) (hg : Gl X "tuple" := by rfl) (he : starEach [a] X.env = (false, eval a X.env) :: starEach [] X.env := by rfl) : PSh X C (.Call (.Name "tuple" p) [a] [] pos) (op1 tupleD fa) :=
  g_callTy call_tuple_of od_tuple ha.op hg hm (by decide +kernel) he (by decide) (by decide)
theorem ow_list (hm : X.mg "list" = none) (ha : PSm X C I a fa) (hg : Gl X "list" := by rfl) (he : starEach [a] X.env = (false, eval a X.env) :: starEach [] X.env := by rfl) : POw X C 1 (.Call (.Name "list" p) [a] [] pos) (op1 listD fa) :=
  g_callTy call_list_of od_list ha.op hg hm (by decide +kernel) he (by decide) (by decide)
theorem ow_sorted (hm : X.mg "sorted" = none) (ha : PRd X C I a fa) (hg : Gl X "sorted" := by rfl) (he : starEach [a] X.env = (false, eval a X.env) :: starEach [] X.env := by rfl) : POw X C 1 (.Call (.Name "sorted" p) [a] [] pos) (op1 sortedD fa) :=
  g_callB cr_sortedI od_sorted ha.op hg hm (by decide +kernel) he (by decide) (by decide)
/-- isinstance(x, T) -/
theorem sh_isi (T : Ty) {tn : Str} (hm : X.mg "isinstance" = none) (ht : X.mg tn = none) (hb : bootBuiltins tn = some (.type T.name)) (ha : PRd X C I a fa) (hg : Gl X "isinstance" := by rfl) (hgt : Gl X tn := by rfl)
    (he : starEach [a, .Name tn p2] X.env = (false, eval a X.env) :: starEach [.Name tn p2] X.env := by rfl) (hn : tn ≠ "__name__" := by decide) (hd : (tn == ("__debug__" : Str)) = false := by decide) :
    PSh X C (.Call (.Name "isinstance" p) [a, .Name tn p2] [] pos) (op1 (isiD T) fa) :=
  pe_imp (pe_callB call_isi hg hm (by decide +kernel) (pa_cons ha (pa_cons (pe_bltn (v := .ty T.name) hgt ht hb rfl hn hd) pa_nil) he) (by decide) (by decide) he (by show (backTo pos [_]).any _ = _; rfl)) fun σ H Q h =>
    rd_one (T := tRd) h fun v H2 dx Bo Of2 env2 S2 r1 h2 => od_isi T Bo Of2 H2 σ env2 v dx Q S2 r1 h2
/-- two ints -/
theorem g_callB2 {r : List V → Hp → VK → Prop} {g : D → D → Option D} (hc : CallR X (.builtin id) r) (hd : OpD X.mg C tRd tRd (fun v w => r [v, w]) g) (ha : PRd X C I a fa) (hb : PRd X C J b fb) (kp : Kps I fb) (hg : Gl X x) (hm : X.mg x = none) (hv : bootBuiltins x = some (.builtin id))
    (he : starEach [a, b] X.env = (false, eval a X.env) :: starEach [b] X.env) (he2 : starEach [b] X.env = (false, eval b X.env) :: starEach [] X.env) (hn : x ≠ "__name__") (hdb : (x == ("__debug__" : Str)) = false) : PSh X C (.Call (.Name x p) [a, b] [] pos) (op2 g fa fb) :=
  pe_imp (pe_callB hc hg hm hv (pa_cons ha (pa_cons hb pa_nil he2) he) hn hdb he (by rw [he2]; show (backTo pos [_]).any _ = _; rfl)) fun σ H Q h => rd_two (Ta := tRd) (Tb := tRd) kp h fun v w H2 dx dy Bo Of2 env2 S2 r1 r2 h2 => hd Bo Of2 H2 σ env2 v w dx dy Q S2 r1 r2 h2
theorem sh_max (hm : X.mg "max" = none) (hc : X.calm = true) (ha : PRd X C I a fa) (hb : PRd X C J b fb) (kp : Kps I fb := by exact kps_nil) (hg : Gl X "max" := by rfl) (he : starEach [a, b] X.env = (false, eval a X.env) :: starEach [b] X.env := by rfl) (he2 : starEach [b] X.env = (false, eval b X.env) :: starEach [] X.env := by rfl) :
    PSh X C (.Call (.Name "max" p) [a, b] [] pos) (op2 maxD fa fb) := g_callB2 (call_max2 hc) (opd_ints (p := fun _ _ => True) (f := fun i j => .int (if j > i then j else i)) (fun x y d e => by
    unfold maxD at e
    split at e
    · cases e; exact ⟨_, _, rfl, rfl, trivial, fun _ => .int _⟩
    · cases e) fun i j G Q _ q => ⟨i, j, rfl, q⟩) ha hb kp hg hm (by decide +kernel) he he2 (by decide) (by decide)
theorem sh_min (hm : X.mg "min" = none) (hc : X.calm = true) (ha : PRd X C I a fa) (hb : PRd X C J b fb) (kp : Kps I fb := by exact kps_nil) (hg : Gl X "min" := by rfl) (he : starEach [a, b] X.env = (false, eval a X.env) :: starEach [b] X.env := by rfl) (he2 : starEach [b] X.env = (false, eval b X.env) :: starEach [] X.env := by rfl) :
    PSh X C (.Call (.Name "min" p) [a, b] [] pos) (op2 minD fa fb) := g_callB2 (call_min2 hc) (opd_ints (p := fun _ _ => True) (f := fun i j => .int (if j < i then j else i)) (fun x y d e => by
    unfold minD at e
    split at e
    · cases e; exact ⟨_, _, rfl, rfl, trivial, fun _ => .int _⟩
    · cases e) fun i j G Q _ q => ⟨i, j, rfl, q⟩) ha hb kp hg hm (by decide +kernel) he he2 (by decide) (by decide)
/-- gcd of the module math -/
theorem sh_gcd {x : Str} (hm : X.mg x = some (.builtin "math.gcd")) (ha : PRd X C I a fa) (hb : PRd X C J b fb) (kp : Kps I fb := by exact kps_nil) (hg : Gl X x := by rfl) (he : starEach [a, b] X.env = (false, eval a X.env) :: starEach [b] X.env := by rfl)
    (he2 : starEach [b] X.env = (false, eval b X.env) :: starEach [] X.env := by rfl) (hdb : (x == ("__debug__" : Str)) = false := by decide) : PSh X C (.Call (.Name x p) [a, b] [] pos) (op2 gcdD fa fb) :=
  pe_imp (pe_callBfun cr_gcd hg hm (pa_cons ha (pa_cons hb pa_nil he2) he) hdb he (by rw [he2]; show (backTo pos [_]).any _ = _; rfl)) fun σ H Q h => rd_two (Ta := tRd) (Tb := tRd) kp h fun v w H2 dx dy Bo Of2 env2 S2 r1 r2 h2 =>
    opd_ints (Ta := tRd) (Tb := tRd) (r := fun v w => rGcd [v, w]) (p := fun _ _ => True) (f := fun i j => .int ((Nat.gcd i.natAbs j.natAbs : Nat) : Int)) (fun x y d e => by
      unfold gcdD at e
      split at e
      · cases e; exact ⟨_, _, rfl, rfl, trivial, fun _ => .int _⟩
      · cases e) (fun i j G Q _ q => ⟨i, j, rfl, q⟩) Bo Of2 H2 σ env2 v w dx dy Q S2 r1 r2 h2
end
end Pf
/-! F7: statements. -/
namespace Pf
open PySem PySem.Spec PyProof.Rows L2

/-- how a statement ends -/
inductive Fl where
  | nx | brk | cnt | ret (d : D)
def RS (mg : Str → Option Value) (C : Cf) (R : Rl D V) (Bo : Addr → Prop) (Of : Nat → Addr → Prop) (H : Hp) (De : Ends) : Rx Fl → Prop
  | .ok .nx env' => ∀ σ' H' Of', Ext H (Os Of) H' (Os Of') → St C Bo H' σ' env' Of' → De.nx σ' H'
  | .ok .brk env' => ∀ σ' H' Of', Ext H (Os Of) H' (Os Of') → St C Bo H' σ' env' Of' → De.bk σ' H'
  | .ok .cnt env' => ∀ σ' H' Of', Ext H (Os Of) H' (Os Of') → St C Bo H' σ' env' Of' → De.ct σ' H'
  | .ok (.ret d) env' => ∀ σ' v H' Of' P, Ext H (Os Of) H' (Os Of') → St C (fun x => Bo x ∨ P x) H' σ' env' Of' → (∀ x, P x → Os Of x ∨ H x = none) → R σ' H' Of' env' Bo P d v → De.rt v H'
  | .exc x env' => ∀ σ' H' Of' c dd, Ext H (Os Of) H' (Os Of') → St C Bo H' σ' env' Of' → XnR mg (hid H' fun a => Os Of' a ∨ Bo a) H' x c dd → C.W c dd σ' H'
  | .bad => False
def AtS (mg : Str → Option Value) (C : Cf) (R : Rl D V) (f : M Fl) (Bo : Addr → Prop) (Of : Nat → Addr → Prop) (H : Hp) (σ : L2.St) (env : Env) (De : Ends) : Prop := RS mg C R Bo Of H De (f env)
def rdS (mg : Str → Option Value) (C : Cf) (R : Rl D V) (f : M Fl) : TS := fun De σ H => ∃ Bo Of env, St C Bo H σ env Of ∧ AtS mg C R f Bo Of H σ env De
section
variable (X : Cx) (C : Cf) (R : Rl D V)
abbrev PSx (st : Stmt) (f : M Fl) : Prop := PS X st (rdS X.mg C R f)
abbrev PSsx (st : List Stmt) (f : M Fl) : Prop := PSs X st (rdS X.mg C R f)
end
def seqM (f g : M Fl) : M Fl := bnd f fun k => match k with
  | .nx => g
  | r => ret r
def nop : M Fl := ret .nx
def drop (f : M D) : M Fl := bnd f fun _ => ret .nx
def retM (f : M D) : M Fl := bnd f fun d => ret (.ret d)
def retN : M Fl := ret (.ret .non)
def asg (i : Nat) (f : M D) : M Fl := bnd f fun d e => .ok .nx (e.set i (some d))
def whN : Nat → M Bool → M Fl → M Fl
  | 0, _, _ => fun _ => .bad
  | n + 1, c, b => bnd c fun k => if k = true then bnd b fun r => match r with
    | .nx => whN n c b
    | .cnt => whN n c b
    | .brk => ret .nx
    | .ret d => ret (.ret d) else ret .nx
open Classical in
noncomputable def whM (c : M Bool) (b : M Fl) : M Fl := fun e => if h : ∃ n, whN n c b e ≠ .bad then whN (Classical.choose h) c b e else .bad
section
variable {mg : Str → Option Value} {C : Cf} {R : Rl D V} {Bo : Addr → Prop} {Of Of1 : Nat → Addr → Prop} {H H1 : Hp} {σ σ1 : L2.St} {env env1 : Env} {De : Ends}
/-- a later beginning -/
theorem ext_new {O O1 : Addr → Prop} (x1 : Ext H O H1 O1) {a : Addr} (h : O1 a ∨ H1 a = none) : O a ∨ H a = none := by
  rcases h with z | z
  · exact x1.own a z
  · cases q : H a with
    | none => exact .inr rfl
    | some o =>
      by_cases n : O a
      · exact .inl n
      · rw [x1.keep a o q n] at z; cases z
theorem AtS.from {g : M Fl} {r : Rx Fl} (x1 : Ext H (Os Of) H1 (Os Of1)) (e : g env1 = r) (h : RS mg C R Bo Of H De r) : AtS mg C R g Bo Of1 H1 σ1 env1 De := by
  unfold AtS
  rw [e]
  cases r with
  | bad => exact h
  | exc x env' => exact fun σ' H' Of' c dd y1 y2 y3 => h σ' H' Of' c dd (x1.trans y1) y2 y3
  | ok k env' =>
    cases k with
    | nx => exact fun σ' H' Of' y1 y2 => h σ' H' Of' (x1.trans y1) y2
    | brk => exact fun σ' H' Of' y1 y2 => h σ' H' Of' (x1.trans y1) y2
    | cnt => exact fun σ' H' Of' y1 y2 => h σ' H' Of' (x1.trans y1) y2
    | ret d => exact fun σ' v H' Of' P y1 y2 y3 y4 => h σ' v H' Of' P (x1.trans y1) y2 (fun x p => ext_new x1 (y3 x p)) y4
theorem AtS.on {f g : M Fl} (h : AtS mg C R f Bo Of H σ env De) (x1 : Ext H (Os Of) H1 (Os Of1)) (e : g env1 = f env) : AtS mg C R g Bo Of1 H1 σ1 env1 De := AtS.from x1 e h
/-- an expression ahead -/
theorem AtS.bnd0 {α β : Type} {R1 : Rl α β} {f : M α} {k : α → M Fl} {G : β → Hp → Prop} (h : AtS mg C R (bnd f k) Bo Of H σ env De)
    (hP : ∀ σ H' Of' env' Bo P a b, R1 σ H' Of' env' Bo P a b → ∀ x, ¬ P x)
    (hk : ∀ a b H1 Of1 env1, f env = .ok a env1 → Ext H (Os Of) H1 (Os Of1) → St C Bo H1 σ env1 Of1 → R1 σ H1 Of1 env1 Bo (fun _ => False) a b → AtS mg C R (k a) Bo Of1 H1 σ env1 De → G b H1) : At mg C R1 f Bo Of H σ env G := by
  unfold At
  unfold AtS at h
  rw [bnd_at] at h
  split
  · rename_i a env1 e
    rw [e, bnd_ok] at h
    intro b H1 Of1 P x1 x2 x3 x4
    have nP := hP _ _ _ _ _ _ _ _ x4
    have eP : P = fun _ => False := funext fun x => propext ⟨fun q => nP x q, fun q => q.elim⟩
    subst eP
    have eB : (fun x => Bo x ∨ False) = Bo := funext fun x => propext ⟨fun q => q.elim id False.elim, .inl⟩
    rw [eB] at x2
    exact hk a b H1 Of1 env1 e x1 x2 x4 (AtS.from x1 rfl h)
  · rename_i x env1 e
    rw [e, bnd_exc] at h
    exact h _
  · rename_i e
    rw [e, bnd_bad] at h
    exact h
/-- a statement ahead -/
theorem AtS.seq {f : M Fl} {k : Fl → M Fl} {G : Ends} (h : AtS mg C R (bnd f k) Bo Of H σ env De)
    (h1 : ∀ σ1 H1 Of1 env1, f env = .ok .nx env1 → Ext H (Os Of) H1 (Os Of1) → St C Bo H1 σ1 env1 Of1 → AtS mg C R (k .nx) Bo Of1 H1 σ1 env1 De → G.nx σ1 H1)
    (h2 : ∀ σ1 H1 Of1 env1, f env = .ok .brk env1 → Ext H (Os Of) H1 (Os Of1) → St C Bo H1 σ1 env1 Of1 → AtS mg C R (k .brk) Bo Of1 H1 σ1 env1 De → G.bk σ1 H1)
    (h3 : ∀ σ1 H1 Of1 env1, f env = .ok .cnt env1 → Ext H (Os Of) H1 (Os Of1) → St C Bo H1 σ1 env1 Of1 → AtS mg C R (k .cnt) Bo Of1 H1 σ1 env1 De → G.ct σ1 H1)
    (h4 : ∀ d, k (.ret d) = ret (.ret d)) (h5 : ∀ v H, De.rt v H → G.rt v H) : AtS mg C R f Bo Of H σ env G := by
  unfold AtS at h ⊢
  rw [bnd_at] at h
  cases e : f env with
  | bad => rw [e, bnd_bad] at h; exact h
  | exc x env' => rw [e, bnd_exc] at h; exact h
  | ok r env' =>
    rw [e, bnd_ok] at h
    cases r with
    | nx => exact fun σ1 H1 Of1 x1 x2 => h1 σ1 H1 Of1 env' e x1 x2 (AtS.from x1 rfl h)
    | brk => exact fun σ1 H1 Of1 x1 x2 => h2 σ1 H1 Of1 env' e x1 x2 (AtS.from x1 rfl h)
    | cnt => exact fun σ1 H1 Of1 x1 x2 => h3 σ1 H1 Of1 env' e x1 x2 (AtS.from x1 rfl h)
    | ret d =>
      rw [h4, ret_at] at h
      exact fun σ' v H' Of' P y1 y2 y3 y4 => h5 _ _ (h σ' v H' Of' P y1 y2 y3 y4)
theorem AtS.ret_nx (S : St C Bo H σ env Of) (h : AtS mg C R (ret .nx) Bo Of H σ env De) : De.nx σ H := h σ H Of Ext.refl S
theorem AtS.ret_brk (S : St C Bo H σ env Of) (h : AtS mg C R (ret .brk) Bo Of H σ env De) : De.bk σ H := h σ H Of Ext.refl S
theorem AtS.ret_cnt (S : St C Bo H σ env Of) (h : AtS mg C R (ret .cnt) Bo Of H σ env De) : De.ct σ H := h σ H Of Ext.refl S

/-! ### a slot is set -/
def upO (Of : Nat → Addr → Prop) (i : Nat) (P : Addr → Prop) : Nat → Addr → Prop := fun j a => (j = i ∧ P a) ∨ (j ≠ i ∧ Of j a)
theorem upO_os {P : Addr → Prop} {i : Nat} {a : Addr} (h : Os (upO Of i P) a) : Os Of a ∨ P a := by
  obtain ⟨j, h⟩ := h
  rcases h with ⟨_, h⟩ | ⟨_, h⟩
  · exact .inr h
  · exact .inl ⟨j, h⟩
theorem St.assign {P : Addr → Prop} {i : Nat} {v : V} {d : D} {m : Md} (S : St C (fun x => Bo x ∨ P x) H σ env Of) (hb : ∀ a, Bo a → (∃ o, H a = some o) ∧ ¬ P a) (hm : C.Ms[i]? = some m) (hb0 : ∀ a, C.B0 a → Bo a)
    (r : ∀ O' : Addr → Prop, (∀ a, O' a → Os Of a ∨ P a) → (∀ a, P a → O' a) → SlotR C.B0 H O' Bo (C.v0 i) v d P m) :
    St C Bo H (σ.set i (some v)) (env.set i (some d)) (upO Of i P) := by
  have hi : i < env.length := by rw [S.len]; exact (List.getElem?_eq_some_iff.mp hm).1
  have e1 : Sub (hid H fun a => Os Of a ∨ (Bo a ∨ P a)) (hid H fun a => Os (upO Of i P) a ∨ Bo a) := hid_mono fun a o h n => ⟨h, fun z => by
    rcases z with z | z
    · exact n ((upO_os z).imp id .inr)
    · exact n (.inr (.inl z))⟩
  have e2 : Sub (hid H fun a => Os Of a ∨ ((Bo a ∨ P a) ∧ ¬ C.B0 a)) (hid H fun a => Os (upO Of i P) a ∨ (Bo a ∧ ¬ C.B0 a)) := hid_mono fun a o h n => ⟨h, fun z => by
    rcases z with z | z
    · rcases upO_os z with z | z
      · exact n (.inl z)
      · exact n (.inr ⟨.inr z, fun q => (hb a (hb0 a q)).2 z⟩)
    · exact n (.inr ⟨.inl z.1, z.2⟩)⟩
  refine ⟨by simpa using S.len, by simpa using S.slen, hb0, fun a h => (hb a h).1, fun j a h z => ?_, fun j k a h1 h2 => ?_, fun j d' h => ?_, fun j a h => ?_, fun q hq => (S.xd q hq).mono e1⟩
  · rcases h with ⟨_, h⟩ | ⟨_, h⟩
    · exact (hb a z).2 h
    · exact S.disB j a h (.inl z)
  · rcases h1 with ⟨e1, h1⟩ | ⟨_, h1⟩
    · rcases h2 with ⟨e2, h2⟩ | ⟨_, h2⟩
      · omega
      · exact (S.disB k a h2 (.inr h1)).elim
    · rcases h2 with ⟨e2, h2⟩ | ⟨_, h2⟩
      · exact (S.disB j a h1 (.inr h2)).elim
      · exact S.sep j k a h1 h2
  · by_cases hj : j = i
    · subst hj
      rw [List.getElem?_set_self hi] at h
      cases h
      refine ⟨v, m, by rw [List.getElem?_set_self (by rw [S.slen]; exact hi)], hm, ?_⟩
      have eP : upO Of j P j = P := funext fun a => propext ⟨fun z => z.elim (fun z => z.2) fun z => (z.1 rfl).elim, fun z => .inl ⟨rfl, z⟩⟩
      rw [eP]
      exact r _ (fun a z => upO_os z) fun a p => ⟨j, .inl ⟨rfl, p⟩⟩
    · rw [List.getElem?_set_ne (Ne.symm hj)] at h
      obtain ⟨v', m', h1, h2, q⟩ := S.slot j d' h
      refine ⟨v', m', by rw [List.getElem?_set_ne (Ne.symm hj)]; exact h1, h2, ?_⟩
      have eP : upO Of i P j = Of j := funext fun a => propext ⟨fun z => z.elim (fun z => (hj z.1).elim) fun z => z.2, fun z => .inr ⟨hj, z⟩⟩
      rw [eP]
      exact q.mono e1 e2 fun a o _ e => e
  · rcases h with ⟨hj, h⟩ | ⟨hj, h⟩
    · subst hj
      exact ⟨d, by rw [List.getElem?_set_self hi]⟩
    · obtain ⟨d', e⟩ := S.empt j a h
      exact ⟨d', by rw [List.getElem?_set_ne (Ne.symm hj)]; exact e⟩
theorem Ext.assign {P : Addr → Prop} {i : Nat} (hp : ∀ x, P x → Os Of x ∨ H x = none) : ∀ {H1 : Hp} {Of1 : Nat → Addr → Prop}, Ext H (Os Of) H1 (Os Of1) → Ext H (Os Of) H1 (Os (upO Of1 i P)) := fun {H1 Of1} x =>
  ⟨x.keep, fun a h => (upO_os h).elim (x.own a) (hp a)⟩
end
/-! ### small statements -/
def mvM (i : Nat) : M D := fun e => match e[i]? with
  | some (some d) => .ok d (e.set i none)
  | _ => .bad
section
variable {X : Cx} {C : Cf} {R : Rl D V} {e : Expr} {f : M D} {g g' : M Fl} {c : Expr} {t : M Bool} {st : Stmt} {sts sts' : List Stmt} {pos pos' : Pos} {x : Str} {i k : Nat}
theorem sx_nil : PSsx X C R [] nop := pss_imp pss_nil fun De σ H ⟨Bo, Of, env, S, h⟩ => h.ret_nx S
theorem sx_cons (h1 : PSx X C R st g) (h2 : PSsx X C R sts g') : PSsx X C R (st :: sts) (seqM g g') := pss_imp (pss_cons h1 h2) fun De σ H ⟨Bo, Of, env, S, h⟩ => ⟨Bo, Of, env, S, by
  refine AtS.seq (G := { De with nx := rdS X.mg C R g' De }) h (fun σ1 H1 Of1 env1 _ _ S1 q => ⟨Bo, Of1, env1, S1, q⟩) (fun σ1 H1 Of1 env1 _ _ S1 q => AtS.ret_brk (R := R) (De := De) S1 q) (fun σ1 H1 Of1 env1 _ _ S1 q => AtS.ret_cnt (R := R) (De := De) S1 q) (fun _ => rfl) fun _ _ q => q⟩
theorem sx_one (h1 : PSx X C R st g) : PSsx X C R [st] g := pss_imp (pss_one h1) fun De σ H q => q
theorem sx_pass : PSx X C R (.Pass pos) nop := ps_imp ps_pass fun De σ H ⟨Bo, Of, env, S, h⟩ => h.ret_nx S
theorem sx_break : PSx X C R (.Break pos) (ret .brk) := ps_imp ps_break fun De σ H ⟨Bo, Of, env, S, h⟩ => h.ret_brk S
theorem sx_cont : PSx X C R (.Continue pos) (ret .cnt) := ps_imp ps_continue fun De σ H ⟨Bo, Of, env, S, h⟩ => h.ret_cnt S
theorem sx_doc {x : Str} {j : Nat} : PSx X C R (.Expr (.Constant (.str x) j pos) pos') nop := ps_imp ps_doc fun De σ H ⟨Bo, Of, env, S, h⟩ => h.ret_nx S
theorem sx_expr (he : PSh X C e f) (hs : swapsWith e none pos.line X.env = pure false := by rfl) : PSx X C R (.Expr e pos) (drop f) := ps_imp (ps_expr he hs) fun De σ H ⟨Bo, Of, env, S, h⟩ => ⟨Bo, Of, env, S, h.bnd0 sh_noP fun d v H1 Of1 env1 _ x1 S1 r1 h1 => h1.ret_nx S1⟩
theorem sx_ret (he : PE X e (rdG X.mg C R f)) (hR : ∀ {σ σ' H Of env Bo P d v}, R σ H Of env Bo P d v → R σ' H Of env Bo P d v) : PSx X C R (.Return (some e) pos) (retM f) := ps_imp (ps_ret he) fun De σ H ⟨Bo, Of, env, S, h⟩ => ⟨Bo, Of, env, S, by
  unfold AtS retM at h
  unfold At
  rw [bnd_at] at h
  split
  · rename_i d env1 q
    rw [q, bnd_ok] at h
    exact fun v H' Of' P y1 y2 y3 y4 => h σ v H' Of' P y1 y2 y3 y4
  · rename_i q
    rw [q, bnd_exc] at h
    exact h σ
  · rename_i q
    rw [q, bnd_bad] at h
    exact h⟩
theorem sx_retS (he : PSh X C e f) : PSx X C rSh (.Return (some e) pos) (retM f) := sx_ret he fun h => h
theorem sx_retO (he : POw X C k e f) : PSx X C (rOw k) (.Return (some e) pos) (retM f) := sx_ret he fun h => h
theorem sx_retN : PSx X C rSh (.Return none pos) retN := ps_imp ps_retN fun De σ H ⟨Bo, Of, env, S, h⟩ => h σ .non H Of (fun _ => False) Ext.refl S.bo (fun _ z => z.elim) ⟨fun _ z => z, .non⟩
theorem sx_if (hc : PBl X C c t) (ha : PSsx X C R sts g) (hb : PSsx X C R sts' g') : PSx X C R (.If c sts sts' pos) (iteM t g g') := ps_imp (ps_if hc ha hb) fun De σ H ⟨Bo, Of, env, S, h⟩ => ⟨Bo, Of, env, S, h.bnd0 bl_noP fun b b' H1 Of1 env1 _ x1 S1 r1 h1 => by
  obtain rfl := r1.2
  cases b' with
  | true => exact iteT ⟨Bo, Of1, env1, S1, h1⟩
  | false => exact iteF ⟨Bo, Of1, env1, S1, h1⟩⟩
/-- name = value -/
theorem AtS.asg {mg : Str → Option Value} {R1 : Rl D V} {Bo : Addr → Prop} {Of : Nat → Addr → Prop} {H : Hp} {σ : L2.St} {env : Env} {De : Ends} (S : St C Bo H σ env Of) (h : AtS mg C R (asg i f) Bo Of H σ env De) {m : Md} (hm : C.Ms[i]? = some m)
    (hk : ∀ d v H1 Of1 env1 P, St C (fun x => Bo x ∨ P x) H1 σ env1 Of1 → R1 σ H1 Of1 env1 Bo P d v → ∀ O' : Addr → Prop, (∀ a, O' a → Os Of1 a ∨ P a) → (∀ a, P a → O' a) → SlotR C.B0 H1 O' Bo (C.v0 i) v d P m) : At mg C R1 f Bo Of H σ env (fun v H1 => De.nx (σ.set i (some v)) H1) := by
  unfold AtS Pf.asg at h
  unfold At
  rw [bnd_at] at h
  split
  · rename_i d env1 q
    rw [q, bnd_ok] at h
    intro v H1 Of1 P y1 y2 y3 y4
    have hb : ∀ a, Bo a → (∃ o, H1 a = some o) ∧ ¬ P a := fun a b => ⟨y2.boIn a (.inl b), fun p => by
      rcases y3 a p with ⟨j, z⟩ | z
      · exact S.disB j a z b
      · obtain ⟨o, e⟩ := S.boIn a b
        rw [z] at e; cases e⟩
    exact h _ H1 _ (Ext.assign y3 y1) (y2.assign hb hm S.b0 (hk d v H1 Of1 env1 P y2 y4))
  · rename_i q
    rw [q, bnd_exc] at h
    exact h σ
  · rename_i q
    rw [q, bnd_bad] at h
    exact h
theorem slot_sh {B0 Bo : Addr → Prop} {H1 : Hp} {Of1 : Nat → Addr → Prop} {P : Addr → Prop} {v0 v : V} {d : D} (r : (∀ x, ¬ P x) ∧ Rp (hid H1 fun a => Os Of1 a ∨ Bo a) v d) (O' : Addr → Prop) (h : ∀ a, O' a → Os Of1 a ∨ P a) : SlotR B0 H1 O' Bo v0 v d P .sh :=
  ⟨r.2.mono (hid_mono fun a o e n => ⟨e, fun z => by
    rcases z with z | z
    · rcases h a z with z | z
      · exact n (.inl z)
      · exact r.1 a z
    · exact n (.inr z)⟩), r.1⟩
theorem slot_ow {B0 Bo : Addr → Prop} {H1 : Hp} {Of1 : Nat → Addr → Prop} {P : Addr → Prop} {v0 v : V} {d : D} (r : Ow (hid H1 fun a => Os Of1 a ∨ (Bo a ∨ P a)) H1 k v d P) (O' : Addr → Prop) (h : ∀ a, O' a → Os Of1 a ∨ P a) : SlotR B0 H1 O' Bo v0 v d P (.own k) :=
  Ow.mono r (hid_mono fun a o e n => ⟨e, fun z => by
    rcases z with z | z
    · rcases h a z with z | z
      · exact n (.inl z)
      · exact n (.inr (.inr z))
    · exact n (.inr (.inl z))⟩) fun _ _ _ q => q
theorem sx_asg (hp : PS X (.Assign [.Name x pos'] e pos) (tAsg (rdG X.mg C rSh f) (gName i))) (hm : C.Ms[i]? = some .sh := by rfl) : PSx X C R (.Assign [.Name x pos'] e pos) (asg i f) :=
  ps_imp hp fun De σ H ⟨Bo, Of, env, S, h⟩ => ⟨Bo, Of, env, S, AtS.asg S h hm fun d v H1 Of1 env1 P S1 r O' o1 o2 => slot_sh r O' o1⟩
theorem sx_asgO (hp : PS X (.Assign [.Name x pos'] e pos) (tAsg (rdG X.mg C (rOw k) f) (gName i))) (hm : C.Ms[i]? = some (.own k) := by rfl) : PSx X C R (.Assign [.Name x pos'] e pos) (asg i f) :=
  ps_imp hp fun De σ H ⟨Bo, Of, env, S, h⟩ => ⟨Bo, Of, env, S, AtS.asg S h hm fun d v H1 Of1 env1 P S1 r O' o1 o2 => slot_ow r O' o1⟩
/-- an own slot is given up -/
theorem ow_mov (hp : PE X (.Name x pos) (tVar i)) (hm : C.Ms[i]? = some (.own k) := by rfl) : POw X C k (.Name x pos) (mvM i) := pe_imp hp fun σ H Q ⟨Bo, Of, env, S, h⟩ => by
  unfold At mvM at h
  split at h
  · rename_i a env' q
    split at q
    · rename_i d he
      cases q
      obtain ⟨v, m, h1, h2, r⟩ := S.slot i _ he
      rw [hm] at h2; cases h2
      have hlt : i < env.length := (List.getElem?_eq_some_iff.mp he).1
      have oi : ∀ a, Os (upO Of i fun _ => False) a → Os Of a := fun a z => (upO_os z).elim id False.elim
      have e1 : Sub (hid H fun a => Os Of a ∨ Bo a) (hid H fun a => Os (upO Of i fun _ => False) a ∨ (Bo a ∨ Of i a)) := hid_mono fun a o e n => ⟨e, fun z => by
        rcases z with z | z | z
        · exact n (.inl (oi a z))
        · exact n (.inr z)
        · exact n (.inl ⟨i, z⟩)⟩
      refine ⟨v, h1, h v H (upO Of i fun _ => False) (Of i) ⟨fun _ _ h _ => h, fun a z => .inl (oi a z)⟩ ?_ (fun a z => .inl ⟨i, z⟩) ?_⟩
      · refine ⟨by simpa using S.len, by simpa using S.slen, fun a z => .inl (S.b0 a z), fun a z => ?_, fun j a z w => ?_, fun j k a z w => ?_, fun j d' z => ?_, fun j a z => ?_, fun q hq => (S.xd q hq).mono e1⟩
        · rcases z with z | z
          · exact S.boIn a z
          · exact S.there z
        · rcases z with ⟨_, z⟩ | ⟨hj, z⟩
          · exact z
          · rcases w with w | w
            · exact S.disB j a z w
            · exact hj (S.sep j i a z w)
        · rcases z with ⟨_, z⟩ | ⟨hj, z⟩
          · exact z.elim
          · rcases w with ⟨_, w⟩ | ⟨hk, w⟩
            · exact w.elim
            · exact S.sep j k a z w
        · by_cases hj : j = i
          · subst hj
            rw [List.getElem?_set_self hlt] at z
            cases z
          · rw [List.getElem?_set_ne (Ne.symm hj)] at z
            obtain ⟨v', m', g1, g2, q⟩ := S.slot j d' z
            refine ⟨v', m', g1, g2, ?_⟩
            have eP : upO Of i (fun _ => False) j = Of j := funext fun a => propext ⟨fun z => z.elim (fun z => (hj z.1).elim) fun z => z.2, fun z => .inr ⟨hj, z⟩⟩
            rw [eP]
            refine q.mono e1 (hid_mono fun a o e n => ⟨e, fun z => ?_⟩) fun a o _ e => e
            rcases z with z | z
            · exact n (.inl (oi a z))
            · rcases z.1 with y | y
              · exact n (.inr ⟨y, z.2⟩)
              · exact n (.inl ⟨i, y⟩)
        · rcases z with ⟨_, z⟩ | ⟨hj, z⟩
          · exact z.elim
          · obtain ⟨d', e⟩ := S.empt j a z
            exact ⟨d', by rw [List.getElem?_set_ne (Ne.symm hj)]; exact e⟩
      · exact Ow.mono r e1 fun _ _ _ q => q
    · cases q
  · rename_i a env' q
    split at q <;> cases q
  · exact h.elim
end
end Pf
/-! F8: what loops walk. -/
namespace Pf
open PySem PySem.Spec PyProof.Rows L2

/-! ### lists and tuples alike -/
inductive SK where
  | l | t
def SqK : SK → Hp → Addr → List V → Prop
  | .l, H, a, vs => H a = some (.lst vs) ∨ ∃ o, H a = some (.frz o (.lst vs))
  | .t, H, a, vs => H a = some (.tup vs)
def HSeq : SK → Heap → Addr → Array Value → Prop
  | .l, h, a, its => h.IsList a its
  | .t, h, a, its => h.IsTuple a its
def ItAt : SK → Heap → Addr → Addr → Nat → Prop
  | .l, h, it, a, i => h.IsListIter it a i
  | .t, h, it, a, i => h.IsTupleIter it a i
section
variable {X : Cx} {pins : List (Addr × Obj)} {σ : L2.St} {H : Hp} {s : Shared} {a : Addr} {vs : List V} {k : SK}
theorem inv_seq (I : Inv X pins σ H s) (h : SqK k H a vs) : ∃ its : List Value, Vals vs its ∧ HSeq k s.heap a its.toArray ∧ vs.length ≤ sizeLine := by
  cases k with
  | l =>
    obtain ⟨its, r, p, z⟩ := I.list (show SqL X.K H a vs from .inl h)
    exact ⟨its, r, p.isList, z⟩
  | t =>
    obtain ⟨its, r, p, z⟩ := I.tuple (show SqT X.K H a vs from .inl (.inl h))
    exact ⟨its, r, p, z⟩
theorem SqK.tracked (h : SqK k H a vs) : ∃ o, H a = some o := by
  cases k with
  | l =>
    rcases h with h | ⟨o, h⟩
    · exact ⟨_, h⟩
    · exact ⟨_, h⟩
  | t => exact ⟨_, h⟩
theorem SqK.sub {H' : Hp} (e : Sub H H') (h : SqK k H a vs) : SqK k H' a vs := by
  cases k with
  | l =>
    rcases h with h | ⟨o, h⟩
    · exact .inl (e _ _ h)
    · exact .inr ⟨o, e _ _ h⟩
  | t => exact e _ _ h
theorem HSeq.lt {h : Heap} {its : Array Value} (q : HSeq k h a its) : a < h.objs.size := by
  cases k with
  | l => obtain ⟨o, e, _⟩ := (show h.IsList a its from q); exact Heap.lt_size e
  | t => obtain ⟨o, e, _⟩ := (show h.IsTuple a its from q); exact Heap.lt_size e
end
def itO (k : SK) (a : Addr) : Obj := match k with
  | .l => { cls := .type "list_iterator", data := .fields #[.ref a, .int 0 0] }
  | .t => { cls := .type "tuple_iterator", data := .fields #[.ref a, .int 0 0] }
theorem begins_k (k : SK) (a : Addr) (its : Array Value) : Begins (.ref a) (itO k a) fun h => HSeq k h a its := by
  cases k with
  | l => exact begins_list a its
  | t => exact begins_tuple a its
theorem itAt_new {k : SK} {h : Heap} {it a : Addr} (e : h.get? it = some (itO k a)) : ItAt k h it a 0 := by
  cases k with
  | l => exact ⟨_, e, rfl, rfl⟩
  | t => exact ⟨_, e, rfl, rfl⟩
theorem itAt_obj {k : SK} {h : Heap} {it a : Addr} {i : Nat} (e : ItAt k h it a i) : ∃ o, h.get? it = some o ∧ ∀ v, o.data ≠ .cell v := by
  cases k with
  | l => obtain ⟨o, e, _, d⟩ := (show h.IsListIter it a i from e); exact ⟨o, e, fun v q => by rw [d] at q; cases q⟩
  | t => obtain ⟨o, e, _, d⟩ := (show h.IsTupleIter it a i from e); exact ⟨o, e, fun v q => by rw [d] at q; cases q⟩
theorem itAt_keep {k : SK} {h h' : Heap} {it a : Addr} {i : Nat} (e : ItAt k h it a i) (q : ∀ o, h.get? it = some o → h'.get? it = some o) : ItAt k h' it a i := by
  cases k with
  | l => exact (show h.IsListIter it a i from e).at q
  | t => exact (show h.IsTupleIter it a i from e).at q
theorem draws_k {prog : Program} {w : World} {A : Around} (k : SK) (hh : A.handled = none) (it a : Addr) (hne : a ≠ it) (its : Array Value) : Draws prog w A it [it, a] its.size (fun i v => its[i]? = some v) (fun i h => ItAt k h it a i ∧ HSeq k h a its) := by
  cases k with
  | l => exact Draws.list hh it a hne its
  | t => exact Draws.tuple hh it a hne its

/-! ### enumerate -/
def JE (k : SK) (a : Addr) : It :=
  ⟨fun i H => ∃ vs, SqK k H a vs ∧ i < vs.length, fun i H v H' => ∃ T x vs, v = .ref T ∧ H T = none ∧ H' = upd H T (.tup [.int (i : Nat), x]) ∧ SqK k H a vs ∧ vs[i]? = some x, fun i H => ∃ vs, SqK k H a vs ∧ vs.length = i⟩
theorem turn_enumK {P : Program} {w : World} {K : PySem.W.Frag} {elts : List Expr} {kk : Nat} {tpos : Pos} (k : SK) (a : Addr) (e it : Addr) (hne : e ≠ it) (hae : a ≠ e) (hai : a ≠ it) :
    Turn P w K (.Tuple elts kk tpos) (JE k a) [e, it] e (fun i h => (∃ old, IsEnum h e it ((i : Nat) : Int) old) ∧ ItAt k h it a i) where
  mem := by simp
  obj := fun i h st b hb => by
    obtain ⟨⟨old, he⟩, hi⟩ := st
    have e' : b = e ∨ b = it := by simpa using hb
    rcases e' with z | z
    · rw [z]; exact ⟨_, he, fun v q => nomatch q⟩
    · rw [z]; exact itAt_obj hi
  keep := fun i h h' st q => let ⟨⟨old, he⟩, hi⟩ := st; ⟨⟨old, q e (by simp) _ he⟩, itAt_keep hi fun o z => q it (by simp) o z⟩
  item := by
    intro X hP hw hK hc i pins s σ H E I hf st hg
    subst hP hw hK
    obtain ⟨⟨old, he⟩, hit⟩ := st
    obtain ⟨vs, hq, hil⟩ := hg
    obtain ⟨its, rv, p, hz⟩ := inv_seq I hq
    have hl := rv.length
    have hel : e < s.heap.objs.size := Heap.lt_size he
    have hitl : it < s.heap.objs.size := by obtain ⟨_, q, _⟩ := itAt_obj hit; exact Heap.lt_size q
    refine wpAny_pyNext_enum_itemD (draws_k (A := X.A.in1) k (show X.A.in1.handled = none from I.ok.hd hc) it a hai its.toArray) he ⟨hit, p⟩ (by simp; omega) hne (by simp; exact ⟨hne, Ne.symm hae⟩) fun u h' tk hu ho hst hT hsz hk => ?_
    have hx : vs[i]? = some vs[i] := by simp [hil]
    obtain ⟨u', hu', ru⟩ := rv.get hx
    have hu2 : its[i]? = some u := by simpa using hu
    rw [hu2] at hu'; cases hu'
    refine ⟨_, rfl, wpAny_letOwnedTupleGo_enum (s := { s with heap := h', toks := tk + 1 }) ho fun h'' he' sb => ?_⟩
    have hT2 : h''.get? s.heap.objs.size = some { cls := .type "tuple", data := .seq #[.int i tk, u] } := (sb.2 _ (Nat.ne_of_gt hel)).trans hT
    have new : ObjOk X.prog X.w (upd H s.heap.objs.size (.tup [.int (i : Nat), vs[i]])) h'' s.heap.objs.size (.tup [.int (i : Nat), vs[i]]) :=
      ⟨by show 2 ≤ sizeLine; decide, [.int i tk, u], .cons ⟨_, rfl⟩ (.cons ru .nil), ⟨_, hT2, rfl, _, rfl⟩⟩
    have I1 : Inv X pins σ (upd H s.heap.objs.size (.tup [.int (i : Nat), vs[i]])) { s with heap := h'', toks := tk + 1 } :=
      I.turnedNew (ch := [e, it]) (fun b ob hb q => (sb.2 b (fun z => hb (by simp [z]))).trans (hk b ob (fun z => hb (by simp [z])) (fun z => hb (by simp [z])) q)) hf (Nat.le_refl _) new
    refine ⟨.ref s.heap.objs.size, _, I1, rfl, ⟨_, vs[i], vs, rfl, I.hok.fresh (Nat.le_refl _), rfl, hq, hx⟩, ⟨⟨u, ?_⟩, itAt_keep hst.1 fun o q => (sb.2 it (Ne.symm hne)).trans q⟩, fun b hb => ?_⟩
    · have e1 : ((i + 1 : Nat) : Int) = (i : Int) + 1 := by omega
      rw [e1]; exact he'
    · have hb' : b < s.heap.objs.size := by
        have e' : b = e ∨ b = it := by simpa using hb
        rcases e' with z | z
        · rw [z]; exact hel
        · rw [z]; exact hitl
      rw [upd_ne (Nat.ne_of_lt hb')]
      exact (hf b hb).1
  done := by
    intro X hP hw hK hc i pins s σ H E I hf st hg
    subst hP hw hK
    obtain ⟨⟨old, he⟩, hit⟩ := st
    obtain ⟨vs, hq, hx⟩ := hg
    obtain ⟨its, rv, p, hz⟩ := inv_seq I hq
    obtain ⟨f0, f1, f2, f3, f4, f5⟩ := hf it (by simp)
    have hl := rv.length
    have hi : i = its.toArray.size := by simp; omega
    subst hi
    exact wpAny_pyNext_enum_endD (draws_k (A := X.A.in1) k (show X.A.in1.handled = none from I.ok.hd hc) it a hai its.toArray) he ⟨hit, p⟩ fun h' eb => ⟨rfl, I.turned (t' := s.toks) (fun b o hb q => eb b o hb q) f0 f1 f3 f4 f5⟩
  self := fun A i s Q E st h => let ⟨⟨_, he⟩, _⟩ := st; wpAny_pyIter_enum he h
theorem meets_enum_newK {v : Value} {o : Obj} {H : Heap → Prop} (B : Begins v o H) :
    Meets (Builtin.«enumerate.__new__» ⟨[.type "enumerate", v], []⟩) (fun _ R s => H s.heap ∧
      R (.ok (.ret (.ref (s.heap.push o).objs.size))) { s with heap := (s.heap.push o).push { cls := .type "enumerate", data := .fields #[.none, .bool false, .ref s.heap.objs.size, rawInt 0, .none, .none] } }) :=
  .of_wp fun prog w A R s h => by
    obtain ⟨hp, g, d, tk, os⟩ := s; obtain ⟨hl, h⟩ := h
    have hsub := sub_enumerate
    have q1 : ∀ {A' : Around} {E' : Value → Shared → Prop} {Q' : Value → Shared → Prop}, Q' (.ref hp.objs.size) ⟨hp.push o, g, d, tk, os⟩ → wpAny (model prog w) A' (pyIter v) Q' E' ⟨hp, g, d, tk, os⟩ := fun {A' E' Q'} hQ => B.iter prog w A' E' ⟨hp, g, d, tk, os⟩ Q' hl hQ
    wp_walk
    refine wpAny_stack_any fun st => wpAny_pure ?_
    split
    · rename_i c _ _ _ _ _
      cases (c == Value.type "enumerate")
      · wp_walk using q1
        exact ⟨_, rfl, h⟩
      · wp_walk using q1
        exact ⟨_, rfl, h⟩
    · wp_walk using q1
      exact ⟨_, rfl, h⟩
theorem call_enumK {prog : Program} {w : World} {A : Around} {E : Value → Shared → Prop} {s : Shared} {v : Value} {o : Obj} {H : Heap → Prop} {Q : Value → Shared → Prop} (B : Begins v o H) (h1 : H s.heap)
    (h : ∀ h', IsEnum h' (s.heap.objs.size + 1) s.heap.objs.size 0 .none → h'.get? s.heap.objs.size = some o → h'.objs.size = s.heap.objs.size + 2 →
      (∀ b o, s.heap.get? b = some o → h'.get? b = some o) → Q (.ref (s.heap.objs.size + 1)) { s with heap := h' }) :
    wpAny (model prog w) A (call (.type "enumerate") [v]) Q E s := by
  refine callType_new F.called_enumerate (by decide) (F.typeCall_enumerate_1 _) (F.newCall_enumerate_1 _) (fun obj => F.args_object_init_2 obj _) F.entry_enumerate_new
    (meets_enum_newK B) ⟨h1, ?_⟩
  have hz : (s.heap.push o).objs.size = s.heap.objs.size + 1 := Heap.size_push ..
  show _ ∧ _
  rw [hz]
  have he : IsEnum ((s.heap.push o).push { cls := .type "enumerate", data := .fields #[.none, .bool false, .ref s.heap.objs.size, rawInt 0, .none, .none] }) (s.heap.objs.size + 1) s.heap.objs.size 0 .none := by
    have := Heap.get?_push_size (s.heap.push o) (o := { cls := .type "enumerate", data := .fields #[.none, .bool false, .ref s.heap.objs.size, rawInt 0, .none, .none] }) rfl
    rw [hz] at this; exact this
  refine ⟨⟨_, he, rfl⟩, h _ he (Heap.get?_push_of_some _ (Heap.get?_push_size _ B.free)) (by rw [Heap.size_push, hz]) fun b o x => Heap.get?_push_of_some _ (Heap.get?_push_of_some _ x)⟩
def iEnumK (te : TE) : TI := fun σ H R => te σ H fun v H1 => ∃ k a vs, v = .ref a ∧ SqK k H1 a vs ∧ R (JE k a) H1
theorem pi_enumK {X : Cx} {e : Expr} {te : TE} {p pos tpos : Pos} {elts : List Expr} {kk : Nat} (hg : Gl X "enumerate") (hm : X.mg "enumerate" = none) (he : PE X e te) (hs : starEach [e] X.env = (false, eval e X.env) :: starEach [] X.env) :
    PI X (.Tuple elts kk tpos) (.Call (.Name "enumerate" p) [e] [] pos) (iEnumK te) := by
  refine ⟨fun pins s σ H R I h => ?_⟩
  refine Call_ (ld_blt I hg hm boot_enumerate (PyProof.Rows.callWith_type1 (thn ((pa_cons he pa_nil hs).run pos pins s σ H (fun vs H1 => ∃ k a xs, vs = [.ref a] ∧ SqK k H1 a xs ∧ R (JE k a) H1) I ?_) fun us s1 ⟨vs, H1, I1, r1, q1⟩ => ?_) hs rfl))
  · have h' : te σ H fun v H1 => ∃ k a vs, v = .ref a ∧ SqK k H1 a vs ∧ R (JE k a) H1 := h
    show te σ H fun x H1 => ∃ k a xs, [x] = [V.ref a] ∧ SqK k H1 a xs ∧ R (JE k a) H1
    have e1 : (fun (v : V) (H1 : Hp) => ∃ k a vs, v = .ref a ∧ SqK k H1 a vs ∧ R (JE k a) H1) = fun x H1 => ∃ k a xs, [x] = [V.ref a] ∧ SqK k H1 a xs ∧ R (JE k a) H1 := by
      funext v H1
      simp
    rw [← e1]
    exact h'
  · obtain ⟨k, a, xs, ex, hq, q⟩ := q1
    subst ex
    cases r1 with
    | cons r rr =>
      cases rr
      cases r
      obtain ⟨its, rv, p', hz⟩ := inv_seq I1 hq
      have hlt := p'.lt
      refine call_enumK (begins_k k a its.toArray) p' fun h' he hit hsz hk => wpAny_pyIter_enum he ?_
      have I2 : Inv X pins σ H1 { s1 with heap := h' } := I1.kept (t' := s1.toks) hk
      refine ⟨s1.heap.objs.size + 1, [s1.heap.objs.size + 1, s1.heap.objs.size], _, _, H1, rfl, I2, turn_enumK k a (s1.heap.objs.size + 1) s1.heap.objs.size (Nat.succ_ne_self _) (Nat.ne_of_lt (Nat.lt_succ_of_lt hlt)) (Nat.ne_of_lt hlt), ⟨⟨.none, he⟩, itAt_new hit⟩, fun b hb => ?_, q⟩
      have e' : b = s1.heap.objs.size + 1 ∨ b = s1.heap.objs.size := by simpa using hb
      have hle : s1.heap.objs.size ≤ b := by
        rcases e' with z | z
        · rw [z]; exact Nat.le_add_right _ _
        · rw [z]; exact Nat.le_refl _
      exact I1.fpOk hle (I1.hok.fresh hle)

/-! ### zip -/
def JZ (k : SK) (a : Addr) (k' : SK) (b : Addr) : It :=
  ⟨fun i H => ∃ vs ws, SqK k H a vs ∧ SqK k' H b ws ∧ i < min vs.length ws.length, fun i H v H' => ∃ T x y vs ws, v = .ref T ∧ H T = none ∧ H' = upd H T (.tup [x, y]) ∧ SqK k H a vs ∧ SqK k' H b ws ∧ vs[i]? = some x ∧ ws[i]? = some y,
    fun i H => ∃ vs ws, SqK k H a vs ∧ SqK k' H b ws ∧ i = min vs.length ws.length⟩
theorem turn_zipK {P : Program} {w : World} {K : PySem.W.Frag} {elts : List Expr} {kk : Nat} {tpos : Pos} (k k' : SK) (a b : Addr) (z TI TO i1 i2 : Addr) (S : ZipSep2 z TI TO i1 i2 [i1, a] [i2, b]) :
    Turn P w K (.Tuple elts kk tpos) (JZ k a k' b) [z, TI, TO, i1, i2] z (fun i h => IsZip h z TI TO .none ∧ IsTupOf2 h TI (.ref i1) (.ref i2) ∧ (∃ a1 a2, IsTupOf2 h TO a1 a2) ∧ ItAt k h i1 a i ∧ ItAt k' h i2 b i) where
  mem := by simp
  obj := fun i h st c hb => by
    obtain ⟨h1, h2, ⟨a1, a2, h3⟩, h4, h5⟩ := st
    have e' : c = z ∨ c = TI ∨ c = TO ∨ c = i1 ∨ c = i2 := by simpa using hb
    rcases e' with q | q | q | q | q
    · rw [q]; exact ⟨_, h1, fun v q => nomatch q⟩
    · rw [q]; exact ⟨_, h2, fun v q => nomatch q⟩
    · rw [q]; exact ⟨_, h3, fun v q => nomatch q⟩
    · rw [q]; exact itAt_obj h4
    · rw [q]; exact itAt_obj h5
  keep := fun i h h' st q => let ⟨h1, h2, ⟨a1, a2, h3⟩, h4, h5⟩ := st
    ⟨q z (by simp) _ h1, q TI (by simp) _ h2, ⟨a1, a2, q TO (by simp) _ h3⟩, itAt_keep h4 fun o e => q i1 (by simp) o e, itAt_keep h5 fun o e => q i2 (by simp) o e⟩
  item := by
    intro X hP hw hK hc i pins s σ H E I hf st hg
    subst hP hw hK
    obtain ⟨h1, h2, h3, h4, h5⟩ := st
    obtain ⟨vs, ws, hq, hq', hil⟩ := hg
    obtain ⟨its, rv, p, hz⟩ := inv_seq I hq
    obtain ⟨its', rv', p', hz'⟩ := inv_seq I hq'
    have hl := rv.length
    have hl' := rv'.length
    have hh : X.A.in1.handled = none := I.ok.hd hc
    have ai : a ≠ i1 := fun e => by
      obtain ⟨o, e2⟩ := hq.tracked
      rw [e, (hf i1 (by simp)).1] at e2; cases e2
    have bi : b ≠ i2 := fun e => by
      obtain ⟨o, e2⟩ := hq'.tracked
      rw [e, (hf i2 (by simp)).1] at e2; cases e2
    have W := GoesN.zip2 (prog := X.prog) (w := X.w) (A := X.A) (elts := elts) (x1 := kk) (pos := tpos) S (draws_k (A := X.A.in1) k hh i1 a ai its.toArray) (draws_k (A := X.A.in1) k' hh i2 b bi its'.toArray)
    refine thn (W.goes i s (fun u s2 => ∃ x H', Inv X pins σ H' s2 ∧ RelV x u ∧ (JZ k a k' b).yld i H x H' ∧ (IsZip s2.heap z TI TO .none ∧ IsTupOf2 s2.heap TI (.ref i1) (.ref i2) ∧ (∃ a1 a2, IsTupOf2 s2.heap TO a1 a2) ∧ ItAt k s2.heap i1 a (i + 1) ∧ ItAt k' s2.heap i2 b (i + 1)) ∧ ∀ b ∈ [z, TI, TO, i1, i2], H' b = none) E
      (by simp; omega) ⟨h1, h2, h3, ⟨h4, p⟩, ⟨h5, p'⟩⟩ fun v h' tk hy hst hk htk => ?_) fun r s1 h => h
    obtain ⟨T, x, y, rfl, hT, hx, hy, hTup⟩ := hy
    obtain ⟨g1, g2, g3, g4, g5⟩ := hst
    have hxv : vs[i]? = some vs[i] := by simp [show i < vs.length by omega]
    have hyv : ws[i]? = some ws[i] := by simp [show i < ws.length by omega]
    obtain ⟨u1, hu1, ru1⟩ := rv.get hxv
    obtain ⟨u2, hu2, ru2⟩ := rv'.get hyv
    have hx' : its[i]? = some x := by simpa using hx
    have hy' : its'[i]? = some y := by simpa using hy
    rw [hx'] at hu1; cases hu1
    rw [hy'] at hu2; cases hu2
    have new : ObjOk X.prog X.w (upd H T (.tup [vs[i], ws[i]])) h' T (.tup [vs[i], ws[i]]) := ⟨by show 2 ≤ sizeLine; decide, [x, y], .cons ru1 (.cons ru2 .nil), hTup⟩
    have I1 : Inv X pins σ (upd H T (.tup [vs[i], ws[i]])) { s with heap := h', toks := tk } := I.turnedNew (ch := [z, TI, TO, i1, i2]) (fun c ob hb q => hk c ob (fun z' => hb (by
      have : c = z ∨ c = TO ∨ c = i1 ∨ c = i2 := by simpa using z'
      rcases this with q | q | q | q <;> simp [q])) q) hf hT new
    refine ⟨.ref T, _, I1, rfl, ⟨T, vs[i], ws[i], vs, ws, rfl, I.hok.fresh hT, rfl, hq, hq', hxv, hyv⟩, ⟨g1, g2, g3, g4.1, g5.1⟩, fun c hb => ?_⟩
    have hb' : c < s.heap.objs.size := by
      have e' : c = z ∨ c = TI ∨ c = TO ∨ c = i1 ∨ c = i2 := by simpa using hb
      rcases e' with q | q | q | q | q
      · rw [q]; exact Heap.lt_size h1
      · rw [q]; exact Heap.lt_size h2
      · obtain ⟨a1, a2, h3⟩ := h3
        rw [q]; exact Heap.lt_size h3
      · obtain ⟨o, e, _⟩ := itAt_obj h4
        rw [q]; exact Heap.lt_size e
      · obtain ⟨o, e, _⟩ := itAt_obj h5
        rw [q]; exact Heap.lt_size e
    rw [upd_ne (Nat.ne_of_lt (Nat.lt_of_lt_of_le hb' hT))]
    exact (hf c hb).1
  done := by
    intro X hP hw hK hc i pins s σ H E I hf st hg
    subst hP hw hK
    obtain ⟨h1, h2, h3, h4, h5⟩ := st
    obtain ⟨vs, ws, hq, hq', hil⟩ := hg
    obtain ⟨its, rv, p, hz⟩ := inv_seq I hq
    obtain ⟨its', rv', p', hz'⟩ := inv_seq I hq'
    have hl := rv.length
    have hl' := rv'.length
    have hh : X.A.in1.handled = none := I.ok.hd hc
    have ai : a ≠ i1 := fun e => by
      obtain ⟨o, e2⟩ := hq.tracked
      rw [e, (hf i1 (by simp)).1] at e2; cases e2
    have bi : b ≠ i2 := fun e => by
      obtain ⟨o, e2⟩ := hq'.tracked
      rw [e, (hf i2 (by simp)).1] at e2; cases e2
    have W := GoesN.zip2 (prog := X.prog) (w := X.w) (A := X.A) (elts := elts) (x1 := kk) (pos := tpos) S (draws_k (A := X.A.in1) k hh i1 a ai its.toArray) (draws_k (A := X.A.in1) k' hh i2 b bi its'.toArray)
    have ei : min its.toArray.size its'.toArray.size = i := by simp; omega
    rw [← ei] at h4 h5
    refine thn (W.stops s (fun s2 => Inv X pins σ H s2) E ⟨h1, h2, h3, ⟨h4, p⟩, ⟨h5, p'⟩⟩ fun h' tk hk htk => ?_) fun r s1 h => h
    refine I.step (g' := s.gens) (d' := s.drawn) (ch := [z, TI, TO, i1, i2]) (fun b hb => ⟨(hf b hb).2.2.2.1, (hf b hb).2.1, (hf b hb).2.2.2.2.1, (hf b hb).2.2.2.2.2⟩) (fun b o _ _ hc e _ => hk b o (fun q => hc ?_) e) (fun b o _ _ hc e _ => ⟨o.slots, hk b o (fun q => hc ?_) e⟩) (fun _ _ _ _ n => n)
      (fun b o hc e => ⟨o, hk b o (fun q => hc ?_) e⟩) (fun _ _ e => e) (fun _ _ _ e => e) (fun b ps e => ⟨#[], by rw [e]; simp⟩) (fun m hm => ?_) (fun b u e => ?_) I.bare
    · have : b = z ∨ b = TO ∨ b = i1 ∨ b = i2 := by simpa using q
      rcases this with q | q | q | q <;> simp [q]
    · have : b = z ∨ b = TO ∨ b = i1 ∨ b = i2 := by simpa using q
      rcases this with q | q | q | q <;> simp [q]
    · have : b = z ∨ b = TO ∨ b = i1 ∨ b = i2 := by simpa using q
      rcases this with q | q | q | q <;> simp [q]
    · obtain ⟨o, es, ep, ho, r⟩ := hm
      exact ⟨o, es, ep, hk _ o (fun q => by
        have : X.env.locals = z ∨ X.env.locals = TO ∨ X.env.locals = i1 ∨ X.env.locals = i2 := by simpa using q
        rcases this with q | q | q | q <;> exact (hf _ (by simp)).2.1 q.symm) ho, r⟩
    · have nit : ∀ c u, H c = some u → ¬ c ∈ [z, TO, i1, i2] := fun c u e q => by
        have q' : c = z ∨ c = TO ∨ c = i1 ∨ c = i2 := by simpa using q
        have n := (hf c (by rcases q' with q | q | q | q <;> simp [q])).1
        rw [e] at n; cases n
      refine (I.hok b u e).stay (fun c v hc' q => hk c v ?_ q) (fun _ q => q) fun _ _ q => q
      rcases hc' with y | y
      · rw [y]; exact nit b u e
      · exact nit c _ y
  self := fun A i s Q E st h => wpAny_pyIter_zip st.1 h
def iZipK (ta tb : TE) : TI := fun σ H R => ta σ H fun v H1 => tb σ H1 fun w H2 => ∃ k a vs k' b ws, v = .ref a ∧ w = .ref b ∧ SqK k H2 a vs ∧ SqK k' H2 b ws ∧ R (JZ k a k' b) H2
theorem pi_zipK {X : Cx} {e e2 : Expr} {ta tb : TE} {p pos tpos : Pos} {elts : List Expr} {kk : Nat} (hg : Gl X "zip") (hm : X.mg "zip" = none) (ha : PE X e ta) (hb : PE X e2 tb)
    (hs : starEach [e, e2] X.env = (false, eval e X.env) :: starEach [e2] X.env) (hs2 : starEach [e2] X.env = (false, eval e2 X.env) :: starEach [] X.env) :
    PI X (.Tuple elts kk tpos) (.Call (.Name "zip" p) [e, e2] [] pos) (iZipK ta tb) := by
  refine ⟨fun pins s σ H R I h => ?_⟩
  refine Call_ (ld_blt I hg hm PyProof.Rows.boot_zip (PyProof.Rows.callWith_type1 (thn ((pa_cons ha (pa_cons hb pa_nil hs2) hs).run pos pins s σ H (fun vs H2 => ∃ k a xs k' b ws, vs = [.ref a, .ref b] ∧ SqK k H2 a xs ∧ SqK k' H2 b ws ∧ R (JZ k a k' b) H2) I ?_) fun us s1 ⟨vs, H1, I1, r1, q1⟩ => ?_) hs (by rw [hs2]; rfl)))
  · have h' : ta σ H fun v H1 => tb σ H1 fun w H2 => ∃ k a vs k' b ws, v = .ref a ∧ w = .ref b ∧ SqK k H2 a vs ∧ SqK k' H2 b ws ∧ R (JZ k a k' b) H2 := h
    show ta σ H fun x H1 => tb σ H1 fun y H2 => ∃ k a xs k' b ws, [x, y] = [V.ref a, V.ref b] ∧ SqK k H2 a xs ∧ SqK k' H2 b ws ∧ R (JZ k a k' b) H2
    have e1 : (fun (v : V) (H1 : Hp) => tb σ H1 fun w H2 => ∃ k a vs k' b ws, v = .ref a ∧ w = .ref b ∧ SqK k H2 a vs ∧ SqK k' H2 b ws ∧ R (JZ k a k' b) H2) = fun x H1 => tb σ H1 fun y H2 => ∃ k a xs k' b ws, [x, y] = [V.ref a, V.ref b] ∧ SqK k H2 a xs ∧ SqK k' H2 b ws ∧ R (JZ k a k' b) H2 := by
      funext v H1
      congr 1
      funext w H2
      simp [and_assoc]
    rw [← e1]
    exact h'
  · obtain ⟨k, a, xs, k', b, ws, ex, hq, hq', q⟩ := q1
    subst ex
    cases r1 with
    | cons r rr =>
      cases rr with
      | cons r' rr =>
        cases rr
        cases r
        cases r'
        obtain ⟨its, rv, p', hz⟩ := inv_seq I1 hq
        obtain ⟨its2, rv2, p2', hz2⟩ := inv_seq I1 hq'
        have hlt := p'.lt
        have hlt2 := p2'.lt
        refine zip_begins2 (begins_k k a its.toArray) (begins_k k' b its2.toArray) p' p2' fun h' hz hTI hTO g1 g2 hsz hk => wpAny_pyIter_zip hz ?_
        have I2 : Inv X pins σ H1 { s1 with heap := h' } := I1.kept (t' := s1.toks) hk
        refine ⟨s1.heap.objs.size + 4, [s1.heap.objs.size + 4, s1.heap.objs.size + 2, s1.heap.objs.size + 3, s1.heap.objs.size, s1.heap.objs.size + 1], _, _, H1, rfl, I2,
          turn_zipK k k' a b _ _ _ _ _ (zip_sep2 (N := s1.heap.objs.size) (fp1 := [a]) (fp2 := [b]) (by simpa using hlt) (by simpa using hlt2)), ⟨hz, hTI, ⟨_, _, hTO⟩, itAt_new g1, itAt_new g2⟩, fun c hcm => ?_, q⟩
        have e' : c = s1.heap.objs.size + 4 ∨ c = s1.heap.objs.size + 2 ∨ c = s1.heap.objs.size + 3 ∨ c = s1.heap.objs.size ∨ c = s1.heap.objs.size + 1 := by simpa using hcm
        have hle : s1.heap.objs.size ≤ c := by
          rcases e' with z | z | z | z | z
          · rw [z]; exact Nat.le_add_right _ _
          · rw [z]; exact Nat.le_add_right _ _
          · rw [z]; exact Nat.le_add_right _ _
          · rw [z]; exact Nat.le_refl _
          · rw [z]; exact Nat.le_add_right _ _
        exact I1.fpOk hle (I1.hok.fresh hle)
end Pf
/-! F9: loops. -/
namespace Pf
open PySem PySem.Spec PyProof.Rows L2

/-! ### while -/
section
variable {X : Cx} {C : Cf} {R : Rl D V} {c : Expr} {t : M Bool} {body : List Stmt} {b : M Fl} {pos : Pos}
theorem sx_while (hp : PassesOwn (model X.prog X.w) X.A X.env X.xe) (hc : PBl X C c t) (hb : PSsx X C R body b) : PSx X C R (.While c body [] pos) (whM t b) := ps_imp (ps_while hp hc hb) fun De σ H ⟨Bo, Of, env, S, h⟩ => by
  unfold AtS whM at h
  split at h
  · rename_i hx
    refine ⟨fun m σ H => rdS X.mg C R (whN m t b) De σ H, ⟨Classical.choose hx, Bo, Of, env, S, h⟩, fun m σ1 H1 ⟨Bo1, Of1, env1, S1, h1⟩ => ?_⟩
    cases m with
    | zero => exact h1.elim
    | succ n =>
      refine ⟨Bo1, Of1, env1, S1, AtS.bnd0 (R1 := rBl) h1 bl_noP fun k k' H2 Of2 env2 _ x2 S2 r2 h2 => ?_⟩
      obtain rfl := r2.2
      cases k' with
      | false => exact iteF (AtS.ret_nx S2 (if_neg Bool.false_ne_true ▸ h2))
      | true =>
        refine iteT ⟨fun σ' H' => rdS X.mg C R (whN n t b) De σ' H', fun σ' H' q => ⟨n, Nat.lt_succ_self n, q⟩, Bo1, Of2, env2, S2, ?_⟩
        rw [if_pos rfl] at h2
        exact AtS.seq (G := { De with nx := rdS X.mg C R (whN n t b) De, ct := rdS X.mg C R (whN n t b) De, bk := De.nx }) h2 (fun σ3 H3 Of3 env3 _ _ S3 q => ⟨Bo1, Of3, env3, S3, q⟩)
          (fun σ3 H3 Of3 env3 _ _ S3 q => AtS.ret_nx (R := R) (De := De) S3 q) (fun σ3 H3 Of3 env3 _ _ S3 q => ⟨Bo1, Of3, env3, S3, q⟩) (fun _ => rfl) fun _ _ q => q
  · exact h.elim
end

/-! ### slots that stay fixed through a loop -/
def Md.fix : Md → Md
  | .own k => .io k
  | m => m
def fixMs : List Nat → List Md → List Md
  | [], Ms => Ms
  | i :: r, Ms => match (fixMs r Ms)[i]? with
    | some m => (fixMs r Ms).set i m.fix
    | none => fixMs r Ms
def ownAt (Ms : List Md) (i : Nat) : Bool := match Ms[i]? with
  | some (.own _) => true
  | _ => false
def Cf.fix (C : Cf) (I : List Nat) (σ : L2.St) : Cf := { C with Ms := fixMs I C.Ms, v0 := fun i => if (I.elem i && ownAt C.Ms i) = true then (σ[i]?).join.getD .non else C.v0 i }
theorem fixMs_get : ∀ (I : List Nat) (Ms : List Md) (i : Nat), (fixMs I Ms)[i]? = (Ms[i]?).map fun m => if i ∈ I then m.fix else m
  | [], Ms, i => by simp [fixMs]
  | j :: r, Ms, i => by
    have ih := fixMs_get r Ms
    unfold fixMs
    rw [ih j]
    cases hj : Ms[j]? with
    | none =>
      rw [Option.map_none]
      show (fixMs r Ms)[i]? = _
      rw [ih i]
      cases hi : Ms[i]? with
      | none => rfl
      | some m =>
        have : i ≠ j := fun e => by rw [e, hj] at hi; cases hi
        simp [this]
    | some m =>
      rw [Option.map_some]
      show ((fixMs r Ms).set j _)[i]? = _
      by_cases e : j = i
      · subst e
        have hl : j < (fixMs r Ms).length := by
          have := ih j
          rw [hj, Option.map_some] at this
          exact (List.getElem?_eq_some_iff.mp this).1
        rw [List.getElem?_set_self hl, hj]
        simp only [Option.map_some, List.mem_cons, true_or, if_true]
        by_cases h : j ∈ r
        · simp only [h, if_true]
          cases m <;> rfl
        · simp only [h, if_false]
      · rw [List.getElem?_set_ne e, ih i]
        simp [Ne.symm e]
theorem fixMs_len (I : List Nat) (Ms : List Md) : (fixMs I Ms).length = Ms.length := by
  induction I with
  | nil => rfl
  | cons j r ih =>
    unfold fixMs
    split
    · rw [List.length_set, ih]
    · exact ih
section
variable {C : Cf} {I : List Nat} {σ0 σ : L2.St} {Bo : Addr → Prop} {H : Hp} {env : Env} {Of : Nat → Addr → Prop}
theorem ownAt_of {Ms : List Md} {i k : Nat} (h : Ms[i]? = some (.own k)) : ownAt Ms i = true := by unfold ownAt; rw [h]
theorem ownAt_not {Ms : List Md} {i : Nat} {m : Md} (h : Ms[i]? = some m) (n : ∀ k, m ≠ .own k) : ownAt Ms i = false := by
  unfold ownAt
  rw [h]
  cases m with
  | own k => exact absurd rfl (n k)
  | _ => rfl
theorem St.unfix (S : St (C.fix I σ0) Bo H σ env Of) : St C Bo H σ env Of := by
  refine ⟨by have := S.len; simpa [Cf.fix, fixMs_len] using this, S.slen, S.b0, S.boIn, S.disB, S.sep, fun i d h => ?_, S.empt, S.xd⟩
  obtain ⟨v, m, h1, h2, r⟩ := S.slot i d h
  have h2' : (fixMs I C.Ms)[i]? = some m := h2
  rw [fixMs_get] at h2'
  obtain ⟨m0, h3, h4⟩ := Option.map_eq_some_iff.mp h2'
  refine ⟨v, m0, h1, h3, ?_⟩
  cases m0 with
  | sh => have : m = .sh := by rw [← h4]; split <;> rfl
          subst this; exact r
  | bor => have : m = .bor := by rw [← h4]; split <;> rfl
           subst this; exact r
  | own k =>
    by_cases hi : i ∈ I
    · rw [if_pos hi] at h4
      have h4 : m = .io k := h4.symm
      subst h4
      exact r.1
    · rw [if_neg hi] at h4
      subst h4
      exact r
  | io k =>
    have : m = .io k := by rw [← h4]; split <;> rfl
    subst this
    have hn : ownAt C.Ms i = false := ownAt_not h3 (fun _ e => nomatch e)
    have r' : Ow _ H k v d _ ∧ v = (if (I.elem i && ownAt C.Ms i) = true then (σ0[i]?).join.getD .non else C.v0 i) := r
    rw [hn, Bool.and_false, if_neg Bool.false_ne_true] at r'
    exact r'
  | exn b => have : m = .exn b := by rw [← h4]; split <;> rfl
             subst this; exact r
theorem St.fix (S : St C Bo H σ env Of) (hf : ∀ i ∈ I, ∀ d, env[i]? = some (some d) → σ[i]? = σ0[i]?) : St (C.fix I σ0) Bo H σ env Of := by
  refine ⟨by have := S.len; simpa [Cf.fix, fixMs_len] using this, S.slen, S.b0, S.boIn, S.disB, S.sep, fun i d h => ?_, S.empt, S.xd⟩
  obtain ⟨v, m, h1, h2, r⟩ := S.slot i d h
  refine ⟨v, if i ∈ I then m.fix else m, h1, by show (fixMs I C.Ms)[i]? = _; rw [fixMs_get, h2, Option.map_some], ?_⟩
  cases m with
  | sh => have : (if i ∈ I then Md.sh.fix else Md.sh) = .sh := by split <;> rfl
          rw [this]; exact r
  | bor => have : (if i ∈ I then Md.bor.fix else Md.bor) = .bor := by split <;> rfl
           rw [this]; exact r
  | own k =>
    by_cases hi : i ∈ I
    · rw [if_pos hi]
      refine ⟨r, ?_⟩
      show v = if (I.elem i && ownAt C.Ms i) = true then (σ0[i]?).join.getD .non else C.v0 i
      rw [ownAt_of h2, Bool.and_true, if_pos (by simpa using hi), ← hf i hi d h, h1]
      rfl
    · rw [if_neg hi]; exact r
  | io k =>
    have : (if i ∈ I then (Md.io k).fix else Md.io k) = .io k := by split <;> rfl
    rw [this]
    have hn : ownAt C.Ms i = false := ownAt_not h2 (fun _ e => nomatch e)
    refine ⟨r.1, ?_⟩
    show v = if (I.elem i && ownAt C.Ms i) = true then (σ0[i]?).join.getD .non else C.v0 i
    rw [hn, Bool.and_false, if_neg Bool.false_ne_true]
    exact r.2
  | exn b => have : (if i ∈ I then (Md.exn b).fix else Md.exn b) = .exn b := by split <;> rfl
             rw [this]; exact r
/-- the slots I may be fixed: they are own, or handed on -/
def fixable (Ms : List Md) (I : List Nat) : Bool := I.all fun i => match Ms[i]? with
  | some (.own _) => true
  | some (.io _) => true
  | _ => false
theorem St.fixed (hI : fixable C.Ms I = true) {Bo' : Addr → Prop} {H' : Hp} {env' : Env} {Of' : Nat → Addr → Prop} (S : St (C.fix I σ0) Bo H σ env Of) (S0 : St C Bo' H' σ0 env' Of')
    {i : Nat} (hi : i ∈ I) {d : D} (e : env[i]? = some (some d)) {d0 : D} (e0 : env'[i]? = some (some d0)) : σ[i]? = σ0[i]? := by
  obtain ⟨v, m, h1, h2, r⟩ := S.slot i d e
  obtain ⟨v', m', g1, g2, r'⟩ := S0.slot i d0 e0
  have h2' : (fixMs I C.Ms)[i]? = some m := h2
  rw [fixMs_get, g2, Option.map_some, if_pos hi] at h2'
  have hm := List.all_eq_true.mp hI i hi
  rw [g2] at hm
  cases m' with
  | sh => cases hm
  | bor => cases hm
  | exn b => cases hm
  | own k =>
    have : m = .io k := (Option.some.inj h2').symm
    subst this
    have r2 : v = if (I.elem i && ownAt C.Ms i) = true then (σ0[i]?).join.getD .non else C.v0 i := r.2
    rw [ownAt_of g2, Bool.and_true, if_pos (by simpa using hi), g1] at r2
    rw [h1, g1, r2]
    rfl
  | io k =>
    have : m = .io k := (Option.some.inj h2').symm
    subst this
    have r2 : v = if (I.elem i && ownAt C.Ms i) = true then (σ0[i]?).join.getD .non else C.v0 i := r.2
    have hn : ownAt C.Ms i = false := ownAt_not g2 (fun _ e => nomatch e)
    rw [hn, Bool.and_false, if_neg Bool.false_ne_true] at r2
    rw [h1, g1, r2, r'.2]
theorem AtS.tofix {mg : Str → Option Value} {R : Rl D V} {f : M Fl} {De : Ends} (h : AtS mg C R f Bo Of H σ env De) : AtS mg (C.fix I σ0) R f Bo Of H σ env De := by
  unfold AtS at h ⊢
  cases e : f env with
  | bad => rw [e] at h; exact h
  | exc x env' => rw [e] at h; exact fun σ' H' Of' c dd y1 y2 y3 => h σ' H' Of' c dd y1 y2.unfix y3
  | ok k env' =>
    rw [e] at h
    cases k with
    | nx => exact fun σ' H' Of' y1 y2 => h σ' H' Of' y1 y2.unfix
    | brk => exact fun σ' H' Of' y1 y2 => h σ' H' Of' y1 y2.unfix
    | cnt => exact fun σ' H' Of' y1 y2 => h σ' H' Of' y1 y2.unfix
    | ret d => exact fun σ' v H' Of' P y1 y2 y3 y4 => h σ' v H' Of' P y1 y2.unfix y3 y4
end

/-! ### what is walked -/
/-- the slots I stand as they stood -/
def chk (I : List Nat) (e0 e : Env) : Prop := ∀ i ∈ I, ∃ d, e0[i]? = some (some d) ∧ e[i]? = some (some d)
structure ItOk (C : Cf) (I : List Nat) (Bo : Addr → Prop) (J : It) (xs : List D) (H1 : Hp) (O1 : Addr → Prop) (σ1 : L2.St) (env1 : Env) : Prop where
  step : ∀ Bo2 σ2 H2 Of2 env2, BoX H1 O1 Bo Bo2 → Ext H1 O1 H2 (Os Of2) → St C Bo2 H2 σ2 env2 Of2 → (∀ i ∈ I, env2[i]? = env1[i]? ∧ σ2[i]? = σ1[i]?) → ∀ i x, xs[i]? = some x → J.go i H2 ∧ ∀ v H3, J.yld i H2 v H3 → (∀ a o, H2 a = some o → H3 a = some o) ∧ Rp (hid H3 fun a => Os Of2 a ∨ Bo2 a) v x
  stop : ∀ Bo2 σ2 H2 Of2 env2, BoX H1 O1 Bo Bo2 → Ext H1 O1 H2 (Os Of2) → St C Bo2 H2 σ2 env2 Of2 → (∀ i ∈ I, env2[i]? = env1[i]? ∧ σ2[i]? = σ1[i]?) → J.stop xs.length H2
def rIt (C : Cf) (I : List Nat) : Rl (List D) It := fun σ H' Of' env' Bo P xs J => (∀ x, ¬ P x) ∧ ItOk C I Bo J xs H' (Os Of') σ env'
theorem it_noP {C : Cf} {I : List Nat} : ∀ (σ : L2.St) (H' : Hp) (Of' : Nat → Addr → Prop) (env' : Env) (Bo P : Addr → Prop) (a : List D) (b : It), rIt C I σ H' Of' env' Bo P a b → ∀ x, ¬ P x := fun _ _ _ _ _ _ _ _ h => h.1
abbrev PIt (X : Cx) (C : Cf) (I : List Nat) (tg it : Expr) (f : M (List D)) : Prop := PI X tg it (fun σ H R => rdG X.mg C (rIt C I) f σ H R)
theorem pi_imp {X : Cx} {tg it : Expr} {t t' : TI} (h : PI X tg it t) (i : ∀ σ H R, t' σ H R → t σ H R) : PI X tg it t' := ⟨fun pins s σ H R I q => h.run pins s σ H R I (i σ H R q)⟩
def seqD : D → Option (List D)
  | .lst xs => some xs
  | .scr xs => some xs
  | .tup xs => some xs
  | _ => none
def knd : D → SK
  | .tup _ => .t
  | _ => .l
def enumL (xs : List D) : List D := xs.zipIdx.map fun p => .tup [.int p.2, p.1]
def zipL (xs ys : List D) : List D := (xs.zip ys).map fun p => .tup [p.1, p.2]
def rngL (lo : Int) (n : Nat) : List D := (List.range n).map fun i : Nat => D.int (lo + (i : Int))
def itS (f : M D) : M (List D) := bnd f fun d => lift (seqD d)
def itE (f : M D) : M (List D) := bnd f fun d => lift ((seqD d).map enumL)
def itZ (f g : M D) : M (List D) := bnd f fun x => bnd g fun y => lift (match seqD x, seqD y with
  | some xs, some ys => some (zipL xs ys)
  | _, _ => none)
def rng1D : D → Option (List D)
  | .int n => if -(2 ^ 62) ≤ n ∧ n < 2 ^ 62 then some (rngL 0 n.toNat) else none
  | _ => none
def rng2D : D → D → Option (List D)
  | .int i, .int j => if -(2 ^ 62) ≤ i ∧ i < 2 ^ 62 ∧ -(2 ^ 62) ≤ j ∧ j < 2 ^ 62 then some (rngL i (j - i).toNat) else none
  | _, _ => none
def itR1 (f : M D) : M (List D) := bnd f fun d => lift (rng1D d)
def itR2 (f g : M D) : M (List D) := bnd f fun x => bnd g fun y => lift (rng2D x y)
/-- a sequence, read where it is shared or lent -/
theorem Sm.seqK {F G : Hp} {v : V} {d : D} {xs : List D} (h : Sm F G v d) (s : Sub F G) (e : seqD d = some xs) : ∃ a vs, v = .ref a ∧ SqK (knd d) G a vs ∧ Rps (Rp F) vs xs := by
  cases d with
  | lst ds => cases e; obtain ⟨a, vs, rfl, h1, h2⟩ := Sm.lst h s; exact ⟨a, vs, rfl, .inl h1, h2⟩
  | scr ds => cases e; obtain ⟨a, o, vs, rfl, h1, h2⟩ := Sm.scr h s; exact ⟨a, vs, rfl, .inr ⟨o, h1⟩, h2⟩
  | tup ds => cases e; obtain ⟨a, vs, rfl, h1, h2⟩ := Sm.tup h s; exact ⟨a, vs, rfl, h1, h2⟩
  | _ => cases e
theorem hid_os {H : Hp} {Of : Nat → Addr → Prop} {I : List Nat} {Bo : Addr → Prop} : Sub (hid H fun a => Os Of a ∨ Bo a) (hid H fun a => ∃ j, j ∉ I ∧ Of j a) := hid_mono fun a o e n => ⟨e, fun ⟨j, _, z⟩ => n (.inl ⟨j, z⟩)⟩
theorem Sm.seqH {F H : Hp} {P : Addr → Prop} {v : V} {d : D} {xs : List D} (h : Sm F (hid H P) v d) (s : Sub F (hid H P)) (e : seqD d = some xs) : ∃ a vs, v = .ref a ∧ SqK (knd d) H a vs ∧ Rps (Rp F) vs xs := by
  obtain ⟨a, vs, e1, h1, h2⟩ := Sm.seqK h s e
  exact ⟨a, vs, e1, h1.sub (hid_sub _ _), h2⟩
/-- the list at a, tuple at a -/
def JS (k : SK) (a : Addr) : It := ⟨fun i H => ∃ vs, SqK k H a vs ∧ i < vs.length, fun i H x H' => H' = H ∧ ∃ vs, SqK k H a vs ∧ vs[i]? = some x, fun i H => ∃ vs, SqK k H a vs ∧ vs.length = i⟩
theorem sqk_l {K : PySem.W.Frag} {H : Hp} {a : Addr} {vs : List V} (h : SqK .l H a vs) : SqL K H a vs := .inl h
theorem sqk_t {K : PySem.W.Frag} {H : Hp} {a : Addr} {vs : List V} (h : SqK .t H a vs) : SqT K H a vs := .inl (.inl h)
theorem turn_JS {P : Program} {w : World} {K : PySem.W.Frag} {tg : Expr} (k : SK) (a : Addr) (it : Addr) : Turn P w K tg (JS k a) [it] it (fun i h => ItAt k h it a i) := by
  cases k with
  | l =>
    have T := turn_list (P := P) (w := w) (K := K) (tg := tg) a it
    refine ⟨T.mem, T.obj, T.keep, fun X hP hw hK hc i pins s σ H E I hf st hg => ?_, fun X hP hw hK hc i pins s σ H E I hf st hg => ?_, T.self⟩
    · obtain ⟨vs, hq, hi⟩ := hg
      have hx : vs[i]? = some vs[i] := by simp [hi]
      exact thn (T.item X hP hw hK hc i pins s σ H E I hf st ⟨vs, _, sqk_l hq, hx⟩) fun r s1 ⟨u, e1, q⟩ => ⟨u, e1, thn q fun _ s2 ⟨x, H', I', rx, y, st', n⟩ => ⟨x, H', I', rx, ⟨y.1, vs, hq, y.2 vs (sqk_l hq)⟩, st', n⟩⟩
    · obtain ⟨vs, hq, hi⟩ := hg
      exact T.done X hP hw hK hc i pins s σ H E I hf st ⟨vs, sqk_l hq, Nat.le_of_eq hi⟩
  | t =>
    have T := turn_tuple (P := P) (w := w) (K := K) (tg := tg) a it
    refine ⟨T.mem, T.obj, T.keep, fun X hP hw hK hc i pins s σ H E I hf st hg => ?_, fun X hP hw hK hc i pins s σ H E I hf st hg => ?_, T.self⟩
    · obtain ⟨vs, hq, hi⟩ := hg
      have hx : vs[i]? = some vs[i] := by simp [hi]
      exact thn (T.item X hP hw hK hc i pins s σ H E I hf st ⟨vs, _, sqk_t hq, hx⟩) fun r s1 ⟨u, e1, q⟩ => ⟨u, e1, thn q fun _ s2 ⟨x, H', I', rx, y, st', n⟩ => ⟨x, H', I', rx, ⟨y.1, vs, hq, y.2 vs (sqk_t hq)⟩, st', n⟩⟩
    · obtain ⟨vs, hq, hi⟩ := hg
      exact T.done X hP hw hK hc i pins s σ H E I hf st ⟨vs, sqk_t hq, Nat.le_of_eq hi⟩
def iSeqK (te : TE) : TI := fun σ H R => te σ H fun v H1 => ∃ k a vs, v = .ref a ∧ SqK k H1 a vs ∧ R (JS k a) H1
theorem pi_seqK {X : Cx} {tg l : Expr} {tl : TE} (hl : PE X l tl) : PI X tg l (iSeqK tl) := by
  refine ⟨fun pins s σ H R I h => ?_⟩
  refine thn (hl.run pins s σ H _ I h) fun v s1 ⟨x, H1, I1, r1, k, a, vs, e, hq, q⟩ => ?_
  subst e
  cases r1
  obtain ⟨its, rv, p, hz⟩ := inv_seq I1 hq
  have B := begins_k k a its.toArray
  refine B.iter _ _ _ _ _ _ p ?_
  refine ⟨s1.heap.objs.size, [s1.heap.objs.size], _, _, H1, rfl, I1.kept (t' := s1.toks) fun b o e => Heap.get?_push_of_some _ e, turn_JS k a _, itAt_new (Heap.get?_push_size _ B.free), fun b hb => ?_, q⟩
  have e : b = s1.heap.objs.size := by simpa using hb
  subst e
  exact I1.fpOk (Nat.le_refl _) (I1.hok.fresh (Nat.le_refl _))
/-- shared, or lent by the caller -/
def rLe (C : Cf) : Rl D V := fun _ H' Of' _ Bo P d v => (∀ x, ¬ P x) ∧ Sm (hid H' fun a => Os Of' a ∨ Bo a) (hid H' fun a => Os Of' a ∨ (Bo a ∧ ¬ C.B0 a)) v d
abbrev PLe (X : Cx) (C : Cf) (e : Expr) (f : M D) : Prop := PE X e (rdG X.mg C (rLe C) f)
theorem SqK.fun {k : SK} {H : Hp} {a : Addr} {vs ws : List V} (h : SqK k H a vs) (h' : SqK k H a ws) : vs = ws := by
  cases k with
  | l =>
    rcases h with h | ⟨o, h⟩ <;> rcases h' with h' | ⟨o', h'⟩ <;> (rw [h] at h'; cases h' <;> rfl)
  | t => have h : H a = _ := h; have h' : H a = _ := h'; rw [h] at h'; cases h'; rfl
section
variable {X : Cx} {C : Cf} {I : List Nat} {J : List Nat} {e e2 : Expr} {f f2 : M D} {tg : Expr} {pos p : Pos} {i : Nat} {x : Str}
theorem le_var (hp : PE X (.Name x pos) (tVar i)) (hm : C.Ms[i]? = some .bor := by rfl) : PLe X C (.Name x pos) (vr i) := pe_imp hp fun σ H Q ⟨Bo, Of, env, S, h⟩ =>
  at_vr S h fun d v m h1 h2 h3 r => by
    rw [hm] at h3; cases h3
    exact ⟨fun _ z => z, r.1⟩
theorem PLe.sm (h : PLe X C e f) : PSm X C [] e f := pe_imp h fun σ H Q ⟨Bo, Of, env, S, q⟩ => ⟨Bo, Of, env, S, q.imp fun a c H' Of' env' P _ x1 x2 x3 x4 k => by
  refine k c H' Of' P x1 x2 x3 ⟨x4.1, fun Bo2 σ2 H2 Of2 env2 b2 y1 y2 _ => ?_⟩
  exact Sm.mono x4.2 (y1.hidX b2) (Sub.trans (y1.hidX (Bo := fun x => Bo x ∧ ¬ C.B0 x) (Bo' := fun x => Bo2 x ∧ ¬ C.B0 x) ⟨fun a z => ⟨b2.1 a z.1, z.2⟩, fun a z => (b2.2 a z.1).imp (fun q => ⟨q, z.2⟩) fun q => q⟩) (hid_mono fun a o e n => ⟨e, fun ⟨j, _, z⟩ => n (.inl ⟨j, z⟩)⟩))⟩
theorem it_seq (he : PSm X C I e f) : PIt X C I tg e (itS f) := pi_imp (pi_seqK he) fun σ H R ⟨Bo, Of, env, S, h⟩ => ⟨Bo, Of, env, S, h.bnd0 sm_noP fun d v H1 Of1 env1 _ x1 S1 r1 h1 => by
  obtain ⟨xs, e1, q⟩ := h1.lift_ok S1
  obtain ⟨a, vs, rfl, hq, hr⟩ := Sm.seqH (r1.2 Bo σ H1 Of1 env1 BoX.refl Ext.refl S1 fun _ _ => ⟨rfl, rfl⟩) hid_os e1
  refine ⟨knd d, a, vs, rfl, hq, q _ H1 Of1 (fun _ => False) Ext.refl S1.bo (fun _ z => z.elim) ⟨fun _ z => z, ⟨fun Bo2 σ2 H2 Of2 env2 b2 x2 S2 c2 i x hx => ?_, fun Bo2 σ2 H2 Of2 env2 b2 x2 S2 c2 => ?_⟩⟩⟩
  · obtain ⟨a', vs', ea, hq', hr'⟩ := Sm.seqH (r1.2 Bo2 σ2 H2 Of2 env2 b2 x2 S2 c2) hid_os e1
    cases ea
    obtain ⟨v, hv, rv⟩ := hr'.get hx
    exact ⟨⟨vs', hq', (List.getElem?_eq_some_iff.mp hv).1⟩, fun u H3 ⟨e3, ws, e4, e5⟩ => by subst e3; cases hq'.fun e4; rw [hv] at e5; cases e5; exact ⟨fun _ _ z => z, rv⟩⟩
  · obtain ⟨a', vs', ea, hq', hr'⟩ := Sm.seqH (r1.2 Bo2 σ2 H2 Of2 env2 b2 x2 S2 c2) hid_os e1
    cases ea
    exact ⟨vs', hq', hr'.1⟩⟩
theorem pair_rp {H2 : Hp} {B : Addr → Prop} {T : Addr} {x y : V} {dx dy : D} (hT : H2 T = none) (hB : ¬ B T) (hx : Rp (hid H2 B) x dx) (hy : Rp (hid H2 B) y dy) : Rp (hid (upd H2 T (.tup [x, y])) B) (.ref T) (.tup [dx, dy]) :=
  .tup (hid_of upd_same hB) rfl (Rps.cons (hx.mono (hid_new hT)) (Rps.cons (hy.mono (hid_new hT)) Rps.nil)).2
theorem it_enum {elts : List Expr} {kk : Nat} {tpos : Pos} (hm : X.mg "enumerate" = none) (he : PSm X C I e f) (hg : Gl X "enumerate" := by rfl) (hs : starEach [e] X.env = (false, eval e X.env) :: starEach [] X.env := by rfl) : PIt X C I (.Tuple elts kk tpos) (.Call (.Name "enumerate" p) [e] [] pos) (itE f) :=
  pi_imp (pi_enumK hg hm he hs) fun σ H R ⟨Bo, Of, env, S, h⟩ => ⟨Bo, Of, env, S, h.bnd0 sm_noP fun d v H1 Of1 env1 _ x1 S1 r1 h1 => by
  obtain ⟨ys, e1, q⟩ := h1.lift_ok S1
  obtain ⟨xs, e3, e2⟩ := Option.map_eq_some_iff.mp e1
  subst e2
  obtain ⟨a, vs, rfl, hq, hr⟩ := Sm.seqH (r1.2 Bo σ H1 Of1 env1 BoX.refl Ext.refl S1 fun _ _ => ⟨rfl, rfl⟩) hid_os e3
  refine ⟨knd d, a, vs, rfl, hq, q _ H1 Of1 (fun _ => False) Ext.refl S1.bo (fun _ z => z.elim) ⟨fun _ z => z, ⟨fun Bo2 σ2 H2 Of2 env2 b2 x2 S2 c2 i x hx => ?_, fun Bo2 σ2 H2 Of2 env2 b2 x2 S2 c2 => ?_⟩⟩⟩
  · obtain ⟨a', vs', ea, hq', hr'⟩ := Sm.seqH (r1.2 Bo2 σ2 H2 Of2 env2 b2 x2 S2 c2) hid_os e3
    cases ea
    unfold enumL at hx
    rw [List.getElem?_map, List.getElem?_zipIdx] at hx
    obtain ⟨y, hy, rfl⟩ := Option.map_eq_some_iff.mp hx
    obtain ⟨z, hz, rfl⟩ := Option.map_eq_some_iff.mp hy
    obtain ⟨v, hv, rv⟩ := hr'.get hz
    refine ⟨⟨vs', hq', (List.getElem?_eq_some_iff.mp hv).1⟩, fun u H3 ⟨T, w, ws, eu, hT, eH, hw, ew⟩ => ?_⟩
    subst eu eH
    cases hq'.fun hw
    rw [hv] at ew; cases ew
    refine ⟨fun b o eb => by rw [upd_ne (ne_of_none eb hT)]; exact eb, ?_⟩
    have := pair_rp (H2 := H2) (x := .int (i : Nat)) (dx := .int ((0 + i : Nat))) hT (own_no S2 hT) (by rw [Nat.zero_add]; exact .int _) rv
    exact this
  · obtain ⟨a', vs', ea, hq', hr'⟩ := Sm.seqH (r1.2 Bo2 σ2 H2 Of2 env2 b2 x2 S2 c2) hid_os e3
    cases ea
    exact ⟨vs', hq', by unfold enumL; simp [hr'.1]⟩⟩
theorem it_zip {elts : List Expr} {kk : Nat} {tpos : Pos} (hm : X.mg "zip" = none) (he : PSm X C I e f) (he2 : PSm X C J e2 f2) (kp : Kps I f2 := by exact kps_nil) (hg : Gl X "zip" := by rfl) (hs : starEach [e, e2] X.env = (false, eval e X.env) :: starEach [e2] X.env := by rfl) (hs2 : starEach [e2] X.env = (false, eval e2 X.env) :: starEach [] X.env := by rfl) :
    PIt X C (I ++ J) (.Tuple elts kk tpos) (.Call (.Name "zip" p) [e, e2] [] pos) (itZ f f2) :=
  pi_imp (pi_zipK hg hm he he2 hs hs2) fun σ H R ⟨Bo, Of, env, S, h⟩ => ⟨Bo, Of, env, S, h.bnd0 sm_noP fun d v H1 Of1 env1 _ x1 S1 r1 h1 => ⟨Bo, Of1, env1, S1, h1.bnd0 sm_noP fun d2 v2 H2 Of2 env2 eq2 x2 S2 r2 h2 => by
  obtain ⟨zs, e1, q⟩ := h2.lift_ok S2
  split at e1
  · rename_i xs ys ex ey
    cases e1
    have rd1 := r1.2 Bo σ H2 Of2 env2 BoX.refl x2 S2 fun i hi => ⟨kp i hi _ _ _ eq2, rfl⟩
    obtain ⟨a, vs, rfl, hq, hr⟩ := Sm.seqH rd1 hid_os ex
    obtain ⟨b, ws, rfl, hq', hr'⟩ := Sm.seqH (r2.2 Bo σ H2 Of2 env2 BoX.refl Ext.refl S2 fun _ _ => ⟨rfl, rfl⟩) hid_os ey
    refine ⟨knd d, a, vs, knd d2, b, ws, rfl, rfl, hq, hq', q _ H2 Of2 (fun _ => False) Ext.refl S2.bo (fun _ z => z.elim) ⟨fun _ z => z, ⟨fun Bo3 σ3 H3 Of3 env3 b3 x3 S3 c3 i x hx => ?_, fun Bo3 σ3 H3 Of3 env3 b3 x3 S3 c3 => ?_⟩⟩⟩
    · obtain ⟨a', vs', ea, hv', hr1⟩ := Sm.seqH (r1.2 Bo3 σ3 H3 Of3 env3 (b3.up x2) (x2.trans x3) S3 fun i hi => ⟨(c3 i (List.mem_append_left _ hi)).1.trans (kp i hi _ _ _ eq2), (c3 i (List.mem_append_left _ hi)).2⟩) hid_os ex
      cases ea
      obtain ⟨b', ws', eb, hw', hr2⟩ := Sm.seqH (r2.2 Bo3 σ3 H3 Of3 env3 b3 x3 S3 fun i hi => c3 i (List.mem_append_right _ hi)) hid_os ey
      cases eb
      unfold zipL at hx
      rw [List.getElem?_map] at hx
      obtain ⟨⟨y, z⟩, hy, rfl⟩ := Option.map_eq_some_iff.mp hx
      rw [List.getElem?_zip_eq_some] at hy
      obtain ⟨vy, hvy, ry⟩ := hr1.get hy.1
      obtain ⟨vz, hvz, rz⟩ := hr2.get hy.2
      have hi : i < vs'.length := (List.getElem?_eq_some_iff.mp hvy).1
      have hi' : i < ws'.length := (List.getElem?_eq_some_iff.mp hvz).1
      refine ⟨⟨vs', ws', hv', hw', by omega⟩, fun u H4 ⟨T, w1, w2, us1, us2, eu, hT, eH, g1, g2, ew1, ew2⟩ => ?_⟩
      subst eu eH
      cases hv'.fun g1
      cases hw'.fun g2
      rw [hvy] at ew1; cases ew1
      rw [hvz] at ew2; cases ew2
      exact ⟨fun c o ec => by rw [upd_ne (ne_of_none ec hT)]; exact ec, pair_rp hT (own_no S3 hT) ry rz⟩
    · obtain ⟨a', vs', ea, hv', hr1⟩ := Sm.seqH (r1.2 Bo3 σ3 H3 Of3 env3 (b3.up x2) (x2.trans x3) S3 fun i hi => ⟨(c3 i (List.mem_append_left _ hi)).1.trans (kp i hi _ _ _ eq2), (c3 i (List.mem_append_left _ hi)).2⟩) hid_os ex
      cases ea
      obtain ⟨b', ws', eb, hw', hr2⟩ := Sm.seqH (r2.2 Bo3 σ3 H3 Of3 env3 b3 x3 S3 fun i hi => c3 i (List.mem_append_right _ hi)) hid_os ey
      cases eb
      exact ⟨vs', ws', hv', hw', by unfold zipL; simp [hr1.1, hr2.1]⟩
  · cases e1⟩⟩
theorem itr_ok {Bo : Addr → Prop} {H1 : Hp} {O1 : Addr → Prop} {σ1 : L2.St} {env1 : Env} (lo : Int) (n : Nat) : ItOk C [] Bo (Itr lo n) (rngL lo n) H1 O1 σ1 env1 := by
  refine ⟨fun Bo2 σ2 H2 Of2 env2 _ x2 S2 _ i x hx => ?_, fun Bo2 σ2 H2 Of2 env2 _ x2 S2 _ => ?_⟩
  · unfold rngL at hx
    rw [List.getElem?_map] at hx
    obtain ⟨j, hj, rfl⟩ := Option.map_eq_some_iff.mp hx
    obtain ⟨hj1, hj2⟩ := List.getElem?_eq_some_iff.mp hj
    rw [List.getElem_range] at hj2
    subst hj2
    rw [List.length_range] at hj1
    exact ⟨hj1, fun v H3 ⟨e3, e4⟩ => by subst e3 e4; exact ⟨fun _ _ z => z, .int _⟩⟩
  · show n ≤ _
    unfold rngL
    simp
theorem it_rng1 (hm : X.mg "range" = none) (he : PRd X C I e f) (hg : Gl X "range" := by rfl) (hs : starEach [e] X.env = [(false, eval e X.env)] := by rfl) : PIt X C [] tg (.Call (.Name "range" p) [e] [] pos) (itR1 f) :=
  pi_imp (pi_range1 hg hm (pa_cons he pa_nil hs) hs) fun σ H R h => rd_one (T := tRd) h fun v H1 d Bo Of1 env1 S1 r1 h1 => by
    obtain ⟨xs, e1, q⟩ := h1.lift_ok S1
    unfold rng1D at e1
    split at e1
    · split at e1
      · rename_i hb
        cases e1
        obtain rfl := r1.int'
        exact ⟨_, rfl, hb.1, hb.2, q _ H1 Of1 (fun _ => False) Ext.refl S1.bo (fun _ z => z.elim) ⟨fun _ z => z, itr_ok 0 _⟩⟩
      · cases e1
    · cases e1
theorem it_rng2 (hm : X.mg "range" = none) (he : PRd X C I e f) (he2 : PRd X C J e2 f2) (kp : Kps I f2 := by exact kps_nil) (hg : Gl X "range" := by rfl) (hs : starEach [e, e2] X.env = [(false, eval e X.env), (false, eval e2 X.env)] := by rfl) (hs2 : starEach [e2] X.env = [(false, eval e2 X.env)] := by rfl) :
    PIt X C [] tg (.Call (.Name "range" p) [e, e2] [] pos) (itR2 f f2) :=
  pi_imp (pi_range2 hg hm (pa_cons he (pa_cons he2 pa_nil hs2) (by rw [hs, hs2])) hs hs2) fun σ H R h => rd_two (Ta := tRd) (Tb := tRd) kp h fun v w H1 d d2 Bo Of1 env1 S1 r1 r2 h1 => by
    obtain ⟨xs, e1, q⟩ := h1.lift_ok S1
    unfold rng2D at e1
    split at e1
    · split at e1
      · rename_i hb
        cases e1
        obtain rfl := r1.int'
        obtain rfl := r2.int'
        exact ⟨_, _, rfl, hb, q _ H1 Of1 (fun _ => False) Ext.refl S1.bo (fun _ z => z.elim) ⟨fun _ z => z, itr_ok _ _⟩⟩
      · cases e1
    · cases e1
end
end Pf
/-! F10: targets, for. -/
namespace Pf
open PySem PySem.Spec PyProof.Rows L2

/-! ### targets -/
abbrev Tg := D → Env → Option Env
abbrev Tgs := List D → Env → Option Env
def tgN (i : Nat) : Tg := fun d e => some (e.set i (some d))
def tgT (n : Nat) (f : Tgs) : Tg := fun d e => match d with
  | .tup xs => if xs.length = n then f xs e else none
  | _ => none
def tgL (n : Nat) (f : Tgs) : Tg := fun d e => match d with
  | .lst xs => if xs.length = n then f xs e else none
  | _ => none
def tNil : Tgs := fun ds e => match ds with
  | [] => some e
  | _ => none
def tCons (f : Tg) (g : Tgs) : Tgs := fun ds e => match ds with
  | x :: r => (f x e).bind (g r)
  | [] => none
def gF (C : Cf) (vs : List Nat) (f : Tg) : TG := fun v σ H Q => ∃ Bo Of env d env', St C Bo H σ env Of ∧ Rp (hid H fun a => Os Of a ∨ Bo a) v d ∧ f d env = some env' ∧
  ∀ σ' H' Of', Ext H (Os Of) H' (Os Of') → St C Bo H' σ' env' Of' → wipe σ' vs = wipe σ vs → Q σ' H'
def gFs (C : Cf) (vs : List Nat) (f : Tgs) : TGs := fun xs σ H Q => ∃ Bo Of env ds env', St C Bo H σ env Of ∧ Rps (Rp (hid H fun a => Os Of a ∨ Bo a)) xs ds ∧ f ds env = some env' ∧
  ∀ σ' H' Of', Ext H (Os Of) H' (Os Of') → St C Bo H' σ' env' Of' → wipe σ' vs = wipe σ vs → Q σ' H'
abbrev PGx (X : Cx) (C : Cf) (vs : List Nat) (tg : Expr) (f : Tg) : Prop := PG X tg (gF C vs f)
abbrev PGsx (X : Cx) (C : Cf) (vs : List Nat) (tg : List Expr) (f : Tgs) : Prop := PGs X tg (gFs C vs f)
theorem pg_imp {X : Cx} {tg : Expr} {t t' : TG} (h : PG X tg t) (i : ∀ v σ H Q, t' v σ H Q → t v σ H Q) : PG X tg t' := ⟨fun pins s σ H v u Q I r q => h.run pins s σ H v u Q I r (i v σ H Q q)⟩
theorem pgs_imp {X : Cx} {tg : List Expr} {t t' : TGs} (h : PGs X tg t) (i : ∀ v σ H Q, t' v σ H Q → t v σ H Q) : PGs X tg t' := ⟨fun pins s σ H v u Q I r q => h.run pins s σ H v u Q I r (i v σ H Q q)⟩
theorem wipe_set {σ : L2.St} {i : Nat} {x : Option V} : ∀ {vs : List Nat}, i ∈ vs → wipe (σ.set i x) vs = wipe σ vs
  | v :: vs, h => by
    unfold wipe
    by_cases e : i = v
    · subst e
      by_cases h' : i ∈ vs
      · rw [wipe_set h']
      · have : wipe (σ.set i x) vs = (wipe σ vs).set i x := by
          clear h
          induction vs with
          | nil => rfl
          | cons w ws ih =>
            unfold wipe
            rw [ih (fun z => h' (List.mem_cons_of_mem _ z)), List.set_comm _ _ (fun e => h' (by simp [e]))]
        rw [this, List.set_set]
    · have h' : i ∈ vs := by
        rcases List.mem_cons.mp h with z | z
        · exact absurd z e
        · exact z
      rw [wipe_set h']
theorem Ext.os {H H' : Hp} {O O' O2 : Addr → Prop} (x : Ext H O H' O') (h : ∀ a, O2 a → O' a) : Ext H O H' O2 := ⟨x.keep, fun a z => x.own a (h a z)⟩
section
variable {X : Cx} {C : Cf} {vs : List Nat} {i : Nat} {x : Str} {pos : Pos} {tg : Expr} {f : Tg} {g : Tgs} {es : List Expr}
theorem gx_name (hp : PG X (.Name x pos) (gName i)) (hm : C.Ms[i]? = some .sh := by rfl) (hv : i ∈ vs := by decide) : PGx X C vs (.Name x pos) (tgN i) := pg_imp hp fun v σ H Q ⟨Bo, Of, env, d, env', S, r, e, q⟩ => by
  cases e
  refine q _ _ (upO Of i fun _ => False) (Ext.assign (P := fun _ => False) (fun _ z => z.elim) Ext.refl) (S.bo.assign (fun a b => ⟨S.boIn a b, fun z => z⟩) hm S.b0 fun O' o1 _ => ?_) (wipe_set hv)
  exact slot_sh ⟨fun _ z => z, r⟩ O' o1
theorem gxs_nil : PGsx X C vs [] tNil := pgs_imp pgs_nil fun xs σ H Q ⟨Bo, Of, env, ds, env', S, r, e, q⟩ => by
  cases ds with
  | nil =>
    cases e
    cases xs with
    | nil => exact ⟨rfl, q _ _ Of Ext.refl S rfl⟩
    | cons _ _ => exact nomatch r.1
  | cons _ _ => cases e
theorem gxs_cons (h1 : PGx X C vs tg f) (h2 : PGsx X C vs es g) (hs : (assignEach (tg :: es) X.env).map (·.2) = assign tg X.env :: (assignEach es X.env).map (·.2) := by rfl) : PGsx X C vs (tg :: es) (tCons f g) := pgs_imp (pgs_cons h1 h2 hs) fun xs σ H Q ⟨Bo, Of, env, ds, env', S, r, e, q⟩ => by
  cases ds with
  | nil => cases e
  | cons d ds =>
    cases xs with
    | nil => exact nomatch r.1
    | cons y ys =>
      obtain ⟨env1, e1, e2⟩ := Option.bind_eq_some_iff.mp e
      refine ⟨y, ys, rfl, Bo, Of, env, d, env1, S, r.head, e1, fun σ1 H1 Of1 x1 S1 w1 => ?_⟩
      refine ⟨Bo, Of1, env1, ds, env', S1, r.tail.mono fun _ _ z => z.mono (x1.hid _), e2, fun σ2 H2 Of2 x2 S2 w2 => ?_⟩
      exact q σ2 H2 Of2 (x1.trans x2) S2 (w2.trans w1)
theorem gx_tup {k n : Nat} (hc : X.calm = true) (h : PGsx X C vs es g) (hn : (assignEach es X.env).length = n := by rfl) (hst : (assignEach es X.env).findIdx? (·.1) = none := by rfl) : PGx X C vs (.Tuple es k pos) (tgT n g) :=
  pg_imp (pg_tup hc h hn hst) fun v σ H Q ⟨Bo, Of, env, d, env', S, r, e, q⟩ => by
    unfold tgT at e
    split at e
    · rename_i xs
      split at e
      · rename_i hl
        cases r with
        | @tup a ws _ h1 h2 h3 => exact ⟨a, ws, rfl, .inl (.inl (hid_some h1).1), h2.trans hl, Bo, Of, env, xs, env', S, ⟨h2, h3⟩, e, q⟩
      · cases e
    · cases e
theorem gx_lst {k n : Nat} (hc : X.calm = true) (h : PGsx X C vs es g) (hn : (assignEach es X.env).length = n := by rfl) (hst : (assignEach es X.env).findIdx? (·.1) = none := by rfl) : PGx X C vs (.Tuple es k pos) (tgL n g) :=
  pg_imp (pg_lst hc h hn hst) fun v σ H Q ⟨Bo, Of, env, d, env', S, r, e, q⟩ => by
    unfold tgL at e
    split at e
    · rename_i xs
      split at e
      · rename_i hl
        cases r with
        | @lst a ws _ h1 h2 h3 => exact ⟨a, ws, rfl, .inl (.inl (hid_some h1).1), h2.trans hl, Bo, Of, env, xs, env', S, ⟨h2, h3⟩, e, q⟩
      · cases e
    · cases e
end

/-! ### for -/
open Classical in
noncomputable def forJ (I : List Nat) (e0 : Env) (tg : Tg) (b : M Fl) : List D → M Fl
  | [] => fun e => if chk I e0 e then .ok .nx e else .bad
  | x :: r => fun e => if chk I e0 e then (match tg x e with
      | some e1 => bnd b (fun k => match k with
        | .nx => forJ I e0 tg b r
        | .cnt => forJ I e0 tg b r
        | .brk => ret .nx
        | .ret d => ret (.ret d)) e1
      | none => .bad) else .bad
noncomputable def forI (I : List Nat) (it : M (List D)) (tg : Tg) (b : M Fl) : M Fl := bnd it fun xs e => forJ I e tg b xs e
def forM (tg : Tg) (b : M Fl) : List D → M Fl
  | [] => ret .nx
  | x :: r => fun e => match tg x e with
      | some e1 => bnd b (fun k => match k with
        | .nx => forM tg b r
        | .cnt => forM tg b r
        | .brk => ret .nx
        | .ret d => ret (.ret d)) e1
      | none => .bad
def forX (it : M (List D)) (tg : Tg) (b : M Fl) : M Fl := bnd it fun xs => forM tg b xs
theorem chk_nil {e0 e : Env} : chk [] e0 e := fun i h => by cases h
theorem forJ_nil (e0 : Env) (tg : Tg) (b : M Fl) : ∀ xs, forJ [] e0 tg b xs = forM tg b xs
  | [] => by funext e; unfold forJ forM; rw [if_pos chk_nil]; rfl
  | x :: r => by
    funext e
    unfold forJ forM
    rw [if_pos chk_nil, forJ_nil e0 tg b r]
theorem forI_nil (it : M (List D)) (tg : Tg) (b : M Fl) : forI [] it tg b = forX it tg b := by
  unfold forI forX
  congr 1
  funext xs e
  rw [forJ_nil]
theorem chk_ok {C : Cf} {I : List Nat} (hI : fixable C.Ms I = true) {σ0 σ : L2.St} {Bo Bo' : Addr → Prop} {H H' : Hp} {env env' : Env} {Of Of' : Nat → Addr → Prop} (S : St (C.fix I σ0) Bo H σ env Of) (S0 : St C Bo' H' σ0 env' Of')
    (c : chk I env' env) : ∀ i ∈ I, env[i]? = env'[i]? ∧ σ[i]? = σ0[i]? := fun i hi => by
  obtain ⟨d, e1, e2⟩ := c i hi
  exact ⟨e2.trans e1.symm, S.fixed hI S0 hi e2 e1⟩
section
variable {X : Cx} {C : Cf} {R : Rl D V} {I vs : List Nat} {tg iter : Expr} {it : M (List D)} {f : Tg} {body : List Stmt} {b : M Fl} {pos : Pos}
theorem sx_forI (hp : PassesOwn (model X.prog X.w) X.A X.env X.xe) (hc : X.calm = true) (hi : PIt X C I tg iter it) (hg : ∀ σ0, PGx X (C.fix I σ0) vs tg f) (hb : ∀ σ0, PSsx X (C.fix I σ0) R body b) (hI : fixable C.Ms I = true := by rfl)
    (hs : ∀ x, foldedSetIterable iter X.env x = pure x := by intro _; rfl) : PSx X C R (.For tg iter body [] pos) (forI I it f b) := by
  refine ⟨fun pins s σ H De Iv h => ?_⟩
  obtain ⟨Bo, Of, env, S, h⟩ := h
  have hi' : PI X tg iter (fun σ' H' Rr => σ' = σ ∧ rdG X.mg C (rIt C I) it σ' H' Rr) := pi_imp hi fun _ _ _ q => q.2
  -- the state behind the iterable fixes what the body may lean on
  have key : ∀ (σ0 : L2.St), PS X (.For tg iter body [] pos) (tFor (fun σ' H' Rr => σ' = σ ∧ rdG X.mg C (rIt C I) it σ' H' Rr) (gF (C.fix I σ0) vs f) (rdS X.mg (C.fix I σ0) R b)) := fun σ0 => ps_for hp hc hi' (hg σ0) (hb σ0) hs
  refine (key σ).run pins s σ H De Iv ⟨rfl, Bo, Of, env, S, ?_⟩
  refine AtS.bnd0 h it_noP fun xs J H1 Of1 env1 _ x1 S1 r1 h1 => ?_
  have h1 : AtS X.mg C R (forJ I env1 f b xs) Bo Of1 H1 σ env1 De := h1
  refine ⟨fun i m σ2 H2 => ∃ Of2 env2, m = xs.length - i ∧ i ≤ xs.length ∧ Ext H1 (Os Of1) H2 (Os Of2) ∧ St (C.fix I σ) Bo H2 σ2 env2 Of2 ∧ AtS X.mg (C.fix I σ) R (forJ I env1 f b (xs.drop i)) Bo Of2 H2 σ2 env2 De,
    ⟨xs.length, Of1, env1, rfl, Nat.zero_le _, Ext.refl, S1.fix fun _ _ _ _ => rfl, h1.tofix⟩, ?_⟩
  rintro i m σ2 H2 ⟨Of2, env2, em, hle, x2, S2, h2⟩
  by_cases hl : i = xs.length
  · left
    subst hl
    rw [List.drop_length] at h2
    unfold AtS forJ at h2
    split at h2
    · rename_i c
      exact ⟨r1.2.stop Bo σ2 H2 Of2 env2 BoX.refl x2 S2.unfix (chk_ok hI S2 S1 c), h2 σ2 H2 Of2 Ext.refl S2⟩
    · exact h2.elim
  · right
    have hlt : i < xs.length := by omega
    rw [List.drop_eq_getElem_cons hlt] at h2
    unfold AtS forJ at h2
    split at h2
    · rename_i c
      split at h2
      · rename_i e1 et
        have st := r1.2.step Bo σ2 H2 Of2 env2 BoX.refl x2 S2.unfix (chk_ok hI S2 S1 c) i xs[i] (by simp [hlt])
        refine ⟨st.1, fun σ' H' => ∃ Of2 env2, xs.length - (i + 1) = xs.length - (i + 1) ∧ i + 1 ≤ xs.length ∧ Ext H1 (Os Of1) H' (Os Of2) ∧ St (C.fix I σ) Bo H' σ' env2 Of2 ∧ AtS X.mg (C.fix I σ) R (forJ I env1 f b (xs.drop (i + 1))) Bo Of2 H' σ' env2 De,
          fun σ' H' q => ⟨xs.length - (i + 1), by omega, q⟩, fun v H3 hy => ?_⟩
        obtain ⟨k3, r3⟩ := st.2 v H3 hy
        have x3 : Ext H2 (Os Of2) H3 (Os Of2) := ⟨fun a o e _ => k3 a o e, fun _ h => .inl h⟩
        have S3 : St (C.fix I σ) Bo H3 σ2 env2 Of2 := S2.grow k3 (fun _ h => h) (fun _ _ _ h => h) fun a h => by
          obtain ⟨o, e⟩ := S2.boIn a h
          exact ⟨o, k3 a o e⟩
        refine ⟨Bo, Of2, env2, xs[i], e1, S3, r3, et, fun σ4 H4 Of4 x4 S4 _ => ?_⟩
        have h4 : AtS X.mg (C.fix I σ) R (bnd b (fun k => match k with
          | .nx => forJ I env1 f b (xs.drop (i + 1))
          | .cnt => forJ I env1 f b (xs.drop (i + 1))
          | .brk => ret .nx
          | .ret d => ret (.ret d))) Bo Of4 H4 σ4 e1 De := AtS.from (x3.trans x4) rfl h2
        refine ⟨Bo, Of4, e1, S4, AtS.seq h4 (fun σ5 H5 Of5 env5 _ x5 S5 q => ⟨Of5, env5, rfl, hlt, x2.trans (x3.trans (x4.trans x5)), S5, q⟩) (fun σ5 H5 Of5 env5 _ x5 S5 q => AtS.ret_nx S5 q)
          (fun σ5 H5 Of5 env5 _ x5 S5 q => ⟨Of5, env5, rfl, hlt, x2.trans (x3.trans (x4.trans x5)), S5, q⟩) (fun _ => rfl) fun _ _ q => q⟩
      · exact h2.elim
    · exact h2.elim
theorem sx_for (hp : PassesOwn (model X.prog X.w) X.A X.env X.xe) (hc : X.calm = true) (hi : PIt X C [] tg iter it) (hg : PGx X C vs tg f) (hb : PSsx X C R body b)
    (hs : ∀ x, foldedSetIterable iter X.env x = pure x := by intro _; rfl) : PSx X C R (.For tg iter body [] pos) (forX it f b) := by
  rw [← forI_nil]
  exact sx_forI (vs := vs) hp hc hi (fun σ0 => hg) (fun σ0 => hb) rfl hs
end
end Pf
/-! F11: comprehensions. -/
namespace Pf
open PySem PySem.Spec PyProof.Rows L2

def wipeE (e : Env) : List Nat → Env
  | [] => e
  | v :: vs => (wipeE e vs).set v none
def backE (e0 e : Env) : List Nat → Env
  | [] => e
  | v :: vs => (backE e0 e vs).set v (e0[v]?).join
theorem wipeE_len (e : Env) : ∀ vs, (wipeE e vs).length = e.length
  | [] => rfl
  | v :: vs => by unfold wipeE; rw [List.length_set, wipeE_len e vs]
theorem wipeE_in {e : Env} {i : Nat} {d : D} : ∀ {vs : List Nat}, (wipeE e vs)[i]? = some (some d) → i ∉ vs ∧ e[i]? = some (some d)
  | [], h => ⟨by simp, h⟩
  | v :: vs, h => by
    unfold wipeE at h
    by_cases e1 : v = i
    · subst e1
      rw [List.getElem?_set] at h
      simp only [if_true] at h
      split at h <;> cases h
    · rw [List.getElem?_set_ne e1] at h
      obtain ⟨h1, h2⟩ := wipeE_in h
      exact ⟨fun z => (List.mem_cons.mp z).elim (fun z => e1 z.symm) h1, h2⟩
theorem wipeE_out {e : Env} {i : Nat} : ∀ {vs : List Nat}, i ∉ vs → (wipeE e vs)[i]? = e[i]?
  | [], _ => rfl
  | v :: vs, h => by
    unfold wipeE
    rw [List.getElem?_set_ne (fun z => h (by simp [z])), wipeE_out fun z => h (List.mem_cons_of_mem _ z)]
theorem backE_len (e0 e : Env) : ∀ vs, (backE e0 e vs).length = e.length
  | [] => rfl
  | v :: vs => by unfold backE; rw [List.length_set, backE_len e0 e vs]
theorem backE_out {e0 e : Env} {i : Nat} : ∀ {vs : List Nat}, i ∉ vs → (backE e0 e vs)[i]? = e[i]?
  | [], _ => rfl
  | v :: vs, h => by
    unfold backE
    rw [List.getElem?_set_ne (fun z => h (by simp [z])), backE_out fun z => h (List.mem_cons_of_mem _ z)]
theorem backE_in {e0 e : Env} (hl : e0.length = e.length) {i : Nat} : ∀ {vs : List Nat}, i ∈ vs → (backE e0 e vs)[i]? = e0[i]?
  | v :: vs, h => by
    unfold backE
    by_cases e1 : v = i
    · subst e1
      by_cases hv : v < e0.length
      · rw [List.getElem?_set_self (by rw [backE_len, ← hl]; exact hv)]
        simp [hv]
      · rw [List.getElem?_eq_none (by rw [List.length_set, backE_len, ← hl]; omega), List.getElem?_eq_none (by omega)]
    · rw [List.getElem?_set_ne e1]
      rcases List.mem_cons.mp h with z | z
      · exact absurd z.symm e1
      · exact backE_in hl z
/-- code that may not raise -/
def nox {α : Type} (m : M α) : M α := fun e => match m e with
  | .exc _ _ => .bad
  | r => r
open Classical in
/-- the turns of a comprehension -/
noncomputable def lcJ {α : Type} (I : List Nat) (e0 : Env) (vs : List Nat) (tg : Tg) (t : M Bool) (f : M α) : List D → M (List α)
  | [] => fun e => if chk I e0 e then .ok [] e else .bad
  | x :: r => fun e => if chk I e0 e then (match tg x (wipeE e vs) with
      | some e1 => bnd t (fun b => if b = true then bnd f fun y => bnd (lcJ I e0 vs tg t f r) fun ys => ret (y :: ys) else lcJ I e0 vs tg t f r) e1
      | none => .bad) else .bad
noncomputable def lcA {α : Type} (I : List Nat) (vs : List Nat) (it : M (List D)) (tg : Tg) (t : M Bool) (f : M α) : M (List α) := bnd it fun xs e => if xs.length ≤ sizeLine then
  (match lcJ I e vs tg t f xs e with
   | .ok ys e' => .ok ys (backE e e' vs)
   | _ => .bad) else .bad
noncomputable def lcM (I : List Nat) (vs : List Nat) (it : M (List D)) (tg : Tg) (t : M Bool) (f : M D) : M D := bnd (lcA I vs it tg t f) fun ys => ret (.lst ys)
/-- the frame of a comprehension's block: nothing is raised -/
def Cf.blk (C : Cf) : Cf := { C with W := fun _ _ _ _ => False }
theorem St.blk {C : Cf} {Bo : Addr → Prop} {H : Hp} {σ : L2.St} {env : Env} {Of : Nat → Addr → Prop} (S : St C Bo H σ env Of) : St C.blk Bo H σ env Of := ⟨S.len, S.slen, S.b0, S.boIn, S.disB, S.sep, S.slot, S.empt, S.xd⟩
theorem St.unblk {C : Cf} {Bo : Addr → Prop} {H : Hp} {σ : L2.St} {env : Env} {Of : Nat → Addr → Prop} (S : St C.blk Bo H σ env Of) : St C Bo H σ env Of := ⟨S.len, S.slen, S.b0, S.boIn, S.disB, S.sep, S.slot, S.empt, S.xd⟩
/-- the block's own names are shared slots -/
def shAll (Ms : List Md) (vs : List Nat) : Bool := vs.all fun v => match Ms[v]? with
  | some .sh => true
  | _ => false
theorem shAll_at {Ms : List Md} {vs : List Nat} (h : shAll Ms vs = true) {v : Nat} (hv : v ∈ vs) : Ms[v]? = some .sh := by
  have := List.all_eq_true.mp h v hv
  split at this
  · assumption
  · cases this
section
variable {C : Cf} {Bo Bo' : Addr → Prop} {H H' : Hp} {σ σ' : L2.St} {env env' : Env} {Of Of' : Nat → Addr → Prop} {vs : List Nat}
theorem St.noP (hv : shAll C.Ms vs = true) (S : St C Bo H σ env Of) {i : Nat} (hi : i ∈ vs) (a : Addr) : ¬ Of i a := fun z => by
  obtain ⟨d, e⟩ := S.empt i a z
  obtain ⟨v, m, h1, h2, r⟩ := S.slot i d e
  rw [shAll_at hv hi] at h2; cases h2
  exact r.2 a z
theorem St.wipe (hv : shAll C.Ms vs = true) (S : St C Bo H σ env Of) : St C Bo H (L2.wipe σ vs) (wipeE env vs) Of := by
  refine ⟨by rw [wipeE_len]; exact S.len, by rw [L2.wipe_length, wipeE_len]; exact S.slen, S.b0, S.boIn, S.disB, S.sep, fun i d h => ?_, fun i a h => ?_, S.xd⟩
  · obtain ⟨n, e⟩ := wipeE_in h
    obtain ⟨v, m, h1, h2, r⟩ := S.slot i d e
    exact ⟨v, m, by rw [L2.wipe_out n]; exact h1, h2, r⟩
  · obtain ⟨d, e⟩ := S.empt i a h
    by_cases hi : i ∈ vs
    · exact (S.noP hv hi a h).elim
    · exact ⟨d, by rw [wipeE_out hi]; exact e⟩
theorem St.back (hv : shAll C.Ms vs = true) (S0 : St C Bo H σ env Of) (S : St C Bo' H' σ' env' Of') (x : Ext H (Os Of) H' (Os Of')) (b : BoX H (Os Of) Bo Bo') (w : L2.wipe σ' vs = L2.wipe σ vs) : St C Bo' H' σ (backE env env' vs) Of' := by
  have hl : env.length = env'.length := S0.len.trans S.len.symm
  refine ⟨by rw [backE_len]; exact S.len, by rw [backE_len]; rw [← hl]; exact S0.slen, S.b0, S.boIn, S.disB, S.sep, fun i d h => ?_, fun i a h => ?_, S.xd⟩
  · by_cases hi : i ∈ vs
    · rw [backE_in hl hi] at h
      obtain ⟨v, m, h1, h2, r⟩ := S0.slot i d h
      rw [shAll_at hv hi] at h2; cases h2
      exact ⟨v, .sh, h1, shAll_at hv hi, r.1.mono (x.hidX b), S.noP hv hi⟩
    · rw [backE_out hi] at h
      obtain ⟨v, m, h1, h2, r⟩ := S.slot i d h
      refine ⟨v, m, ?_, h2, r⟩
      rw [← L2.wipe_out hi, ← w, L2.wipe_out hi]; exact h1
  · by_cases hi : i ∈ vs
    · exact (S.noP hv hi a h).elim
    · obtain ⟨d, e⟩ := S.empt i a h
      exact ⟨d, by rw [backE_out hi]; exact e⟩
theorem wipe_wipe {σ : L2.St} : ∀ {vs : List Nat}, L2.wipe (L2.wipe σ vs) vs = L2.wipe σ vs := by
  intro vs
  apply List.ext_getElem?
  intro i
  by_cases hi : i ∈ vs
  · have key : ∀ (τ : L2.St) (ws : List Nat), i ∈ ws → τ.length = σ.length → (L2.wipe τ ws)[i]? = if i < σ.length then some none else none := by
      intro τ ws
      induction ws with
      | nil => intro h; cases h
      | cons w ws ih =>
        intro h hl
        unfold L2.wipe
        by_cases e : w = i
        · subst e
          by_cases hw : w < σ.length
          · rw [List.getElem?_set_self (by rw [L2.wipe_length, hl]; exact hw), if_pos hw]
          · rw [List.getElem?_eq_none (by rw [List.length_set, L2.wipe_length, hl]; omega), if_neg hw]
        · rw [List.getElem?_set_ne e]
          rcases List.mem_cons.mp h with z | z
          · exact absurd z.symm e
          · exact ih z hl
    rw [key _ vs hi (L2.wipe_length σ vs), key σ vs hi rfl]
  · rw [L2.wipe_out hi]
theorem wipeE_wipe {e : Env} {vs : List Nat} (i : Nat) (h : i ∉ vs) : (wipeE e vs)[i]? = e[i]? := wipeE_out h
end
/-! ### an own list grows -/
theorem Ow.mono' {F F' H H' : Hp} {k : Nat} {v : V} {d : D} {P : Addr → Prop} (h : Ow F H k v d P) (e : Sub F F') (k' : ∀ a, P a → H' a = H a) : Ow F' H' k v d P := h.mono e fun a o p q => (k' a p).trans q
theorem Ow.snoc {F F' H H' : Hp} {k : Nat} {l : Addr} {vs : List V} {ds : List D} {P Py : Addr → Prop} {v : V} {d : D} (h : Ow F H (k + 1) (.ref l) (.lst ds) P) (hl : H l = some (.lst vs)) (hy : Ow F' H' k v d Py) (e : Sub F F') (kp : ∀ a o, P a → a ≠ l → H a = some o → H' a = some o)
    (hl' : H' l = some (.lst (vs ++ [v]))) (dis : ∀ a, P a → ¬ Py a) : Ow F' H' (k + 1) (.ref l) (.lst (ds ++ [d])) (fun a => P a ∨ Py a) := by
  cases h with
  | «at» r t n => cases t
  | @lst _ _ ws _ _ Ps ha hln r n1 n2 n3 hP =>
    rw [hl] at ha; cases ha
    have hll : P l := (hP l).2 (.inl rfl)
    refine .lst (fun i a => (i < ds.length ∧ Ps i a) ∨ (i = ds.length ∧ Py a)) hl' (by simp [hln]) (fun i v' d' h1 h2 => ?_) (fun i z => ?_) (fun i j x z w => ?_) (fun i x z => ?_) fun x => ?_
    · by_cases hi : i < vs.length
      · rw [List.getElem?_append_left hi] at h1
        rw [List.getElem?_append_left (by rw [← hln]; exact hi)] at h2
        have := r i v' d' h1 h2
        have e1 : (fun a => (i < ds.length ∧ Ps i a) ∨ (i = ds.length ∧ Py a)) = Ps i := funext fun a => propext ⟨fun z => z.elim (fun z => z.2) fun z => by omega, fun z => .inl ⟨by omega, z⟩⟩
        rw [e1]
        exact this.mono e fun a o p q => kp a o ((hP a).2 (.inr ⟨i, p⟩)) (fun z => n1 i (z ▸ p)) q
      · rw [List.getElem?_append_right (by omega)] at h1
        rw [List.getElem?_append_right (by omega)] at h2
        have hi' : i - vs.length = 0 := by
          cases q : i - vs.length with
          | zero => rfl
          | succ j => rw [q] at h1; simp at h1
        have hi2 : i - ds.length = 0 := by omega
        rw [hi'] at h1
        rw [hi2] at h2
        simp at h1 h2
        subst h1 h2
        have ie : i = ds.length := by omega
        have e1 : (fun a => (i < ds.length ∧ Ps i a) ∨ (i = ds.length ∧ Py a)) = Py := funext fun a => propext ⟨fun z => z.elim (fun z => by omega) fun z => z.2, fun z => .inr ⟨ie, z⟩⟩
        rw [e1]
        exact hy
    · rcases z with z | z
      · exact n1 i z.2
      · exact dis l hll z.2
    · rcases z with z | z
      · rcases w with w | w
        · exact n2 i j x z.2 w.2
        · exact (dis x ((hP x).2 (.inr ⟨i, z.2⟩)) w.2).elim
      · rcases w with w | w
        · exact (dis x ((hP x).2 (.inr ⟨j, w.2⟩)) z.2).elim
        · omega
    · rcases z with z | z <;> simp <;> omega
    · constructor
      · intro z
        rcases z with z | z
        · rcases (hP x).1 z with q | ⟨i, q⟩
          · exact .inl q
          · exact .inr ⟨i, .inl ⟨n3 i x q, q⟩⟩
        · exact .inr ⟨ds.length, .inr ⟨rfl, z⟩⟩
      · intro z
        rcases z with z | ⟨i, z | z⟩
        · exact .inl ((hP x).2 (.inl z))
        · exact .inl ((hP x).2 (.inr ⟨i, z.2⟩))
        · exact .inr z.2

section
variable {C : Cf} {Bo : Addr → Prop} {H : Hp} {σ : L2.St} {env : Env} {Of : Nat → Addr → Prop}
/-- a hidden object changes -/
theorem St.updBo {p : Addr} {o : HO} (S : St C Bo H σ env Of) (hp : Bo p) (hb : ¬ C.B0 p) : St C Bo (upd H p o) σ env Of := by
  refine ⟨S.len, S.slen, S.b0, fun a h => ?_, S.disB, S.sep, fun i d h => ?_, S.empt, fun q hq => (S.xd q hq).mono (hid_mono fun a u e z => ⟨by rw [upd_ne (fun y : a = p => z (.inr (by rw [y]; exact hp)))]; exact e, z⟩)⟩
  · by_cases e : a = p
    · subst e; exact ⟨o, upd_same⟩
    · obtain ⟨u, e'⟩ := S.boIn a h
      exact ⟨u, by rw [upd_ne e]; exact e'⟩
  · obtain ⟨v, m, h1, h2, r⟩ := S.slot i d h
    refine ⟨v, m, h1, h2, r.mono (hid_mono fun a u e z => ⟨?_, z⟩) (hid_mono fun a u e z => ⟨?_, z⟩) fun a u q e => ?_⟩
    · rw [upd_ne (fun y : a = p => z (.inr (by rw [y]; exact hp)))]; exact e
    · rw [upd_ne (fun y : a = p => z (.inr (by rw [y]; exact ⟨hp, hb⟩)))]; exact e
    · rw [upd_ne (fun y : a = p => S.disB i a q (by rw [y]; exact hp))]; exact e
theorem St.boEq {Bo' : Addr → Prop} (S : St C Bo H σ env Of) (h : ∀ a, Bo a ↔ Bo' a) : St C Bo' H σ env Of := by
  have : Bo = Bo' := funext fun a => propext (h a)
  rw [← this]; exact S
end
theorem backE_wipeE {e0 e : Env} (hl : e0.length = e.length) {vs : List Nat} : backE e0 (wipeE e vs) vs = backE e0 e vs := by
  apply List.ext_getElem?
  intro i
  by_cases hi : i ∈ vs
  · rw [backE_in (by rw [wipeE_len]; exact hl) hi, backE_in hl hi]
  · rw [backE_out hi, backE_out hi, wipeE_out hi]
theorem fix_out {C : Cf} {I vs : List Nat} (hI : fixable C.Ms I = true) (hv : shAll C.Ms vs = true) {i : Nat} (hi : i ∈ I) : i ∉ vs := fun z => by
  have := List.all_eq_true.mp hI i hi
  rw [shAll_at hv z] at this
  cases this
theorem bnd_eq_ok {α β : Type} {m : M α} {k : α → M β} {e : Env} {b : β} {e2 : Env} (h : bnd m k e = .ok b e2) : ∃ a e1, m e = .ok a e1 ∧ k a e1 = .ok b e2 := by
  rw [bnd_at] at h
  cases q : m e with
  | ok a e1 => rw [q, bnd_ok] at h; exact ⟨a, e1, rfl, h⟩
  | exc x e1 => rw [q, bnd_exc] at h; cases h
  | bad => rw [q, bnd_bad] at h; cases h
theorem Ow.list {F H : Hp} {k : Nat} {v : V} {ds : List D} {P : Addr → Prop} (h : Ow F H (k + 1) v (.lst ds) P) : ∃ a vs, v = .ref a ∧ P a ∧ H a = some (.lst vs) ∧ vs.length = ds.length := by
  cases h with
  | «at» r t n => cases t
  | @lst _ a vs _ _ Ps ha hl r n1 n2 n3 hP => exact ⟨a, vs, rfl, (hP a).2 (.inl rfl), ha, hl⟩
section
variable {X : Cx} {C : Cf} {I vs : List Nat} {tg iter elt : Expr} {ifs : List Expr} {it : M (List D)} {tf : Tg} {t : M Bool} {f : M D} {pos : Pos} {k : Nat}
abbrev PTsx (X : Cx) (C : Cf) (ifs : List Expr) (t : M Bool) : Prop := PTs X ifs (rdG X.mg C rBl t)
theorem ts_nil : PTsx X C [] (ret true) := ⟨fun pins s σ H Q I ⟨Bo, Of, env, S, h⟩ => (pts_nil (X := X)).run pins s σ H Q I (h.ret_ok S ⟨fun _ z => z, rfl⟩)⟩
theorem ts_one {c : Expr} (h : PBl X C c t) : PTsx X C [c] t := pts_one h
theorem lc_key {mg : Str → Option Value} {σ : L2.St} {H : Hp} {Q : VK} (hI : fixable C.Ms I = true) (hv : shAll C.Ms vs = true) (h : rdG mg C (rOw (k + 1)) (lcM I vs it tf t f) σ H Q) :
    tLc (fun σ' H' Rr => σ' = σ ∧ rdG mg C (rIt C I) it σ' H' Rr) (gF (C.fix I σ).blk vs tf) (rdG mg (C.fix I σ).blk rBl t) (rdG mg (C.fix I σ).blk (rOw k) f) vs σ H Q := by
  obtain ⟨Bo, Of, env, S, h⟩ := h
  have h' : At mg C (rOw (k + 1)) (bnd it fun xs e => if xs.length ≤ sizeLine then (match lcJ I e vs tf t f xs e with
   | .ok ys e' => .ok (.lst ys) (backE e e' vs)
   | _ => .bad) else .bad) Bo Of H σ env Q := by
    have e : lcM I vs it tf t f = bnd it fun xs e => if xs.length ≤ sizeLine then (match lcJ I e vs tf t f xs e with
      | .ok ys e' => .ok (.lst ys) (backE e e' vs)
      | _ => .bad) else .bad := by
      funext e
      unfold lcM lcA
      rw [bnd_at, bnd_at, bnd_at]
      cases it e with
      | ok xs e1 =>
        rw [bnd_ok, bnd_ok]
        split
        · cases lcJ I e1 vs tf t f xs e1 <;> rfl
        · rfl
      | exc x e1 => rfl
      | bad => rfl
    rw [← e]; exact h
  refine ⟨rfl, Bo, Of, env, S, At.bnd0 h' it_noP fun xs J H1 Of1 env1 _ x1 S1 r1 h1 => ?_⟩
  clear h h'
  unfold At at h1
  split at h1
  case h_2 x env' e =>
    split at e
    · dsimp only at e
      split at e <;> cases e
    · cases e
  case h_3 => exact h1.elim
  rename_i dd env' e
  split at e
  case isFalse => cases e
  rename_i hsz
  dsimp only at e
  split at e
  case h_2 => cases e
  rename_i zs0 envF eJ
  cases e
  intro D hD
  have hB0 : ¬ C.B0 D := fun z => by
    obtain ⟨o, e⟩ := S1.boIn D (S1.b0 D z)
    rw [hD] at e; cases e
  refine ⟨fun i m H2 => ∃ Of2 env2 ys zs P, m = xs.length - i ∧ i ≤ xs.length ∧ ys.length ≤ i ∧ Ext H1 (Os Of1) H2 (Os Of2) ∧ St (C.fix I σ).blk (fun a => Bo a ∨ P a) H2 (L2.wipe σ vs) (wipeE env2 vs) Of2 ∧
      (∀ a, P a → Os Of1 a ∨ H1 a = none) ∧ Ow (hid H2 fun a => Os Of2 a ∨ (Bo a ∨ P a)) H2 (k + 1) (.ref D) (.lst ys) P ∧ lcJ I env1 vs tf t f (xs.drop i) env2 = .ok zs envF ∧ ys ++ zs = zs0,
    ⟨xs.length, Of1, env1, [], zs0, (fun x => x = D), rfl, Nat.zero_le _, Nat.le_refl _, Ext.new hD, (((S1.fix (I := I) fun _ _ _ _ => rfl).newOw hD).wipe (C := C.fix I σ) ?_).blk, fun a z => .inr (by rw [z]; exact hD),
      .lst (fun _ _ => False) upd_same rfl (fun i v d e => by simp at e) (fun _ z => z) (fun _ _ _ z => z.elim) (fun _ _ z => z.elim) fun x => ⟨.inl, fun z => z.elim id fun ⟨_, z⟩ => z.elim⟩, eJ, rfl⟩, ?_⟩
  · refine List.all_eq_true.mpr fun v hm => ?_
    have : (fixMs I C.Ms)[v]? = some .sh := by
      rw [fixMs_get, shAll_at hv hm, Option.map_some]
      by_cases q : v ∈ I
      · rw [if_pos q]; rfl
      · rw [if_neg q]
    show (match (fixMs I C.Ms)[v]? with | some .sh => true | _ => false) = true
    rw [this]
  have hvF : shAll (C.fix I σ).Ms vs = true := by
    refine List.all_eq_true.mpr fun v hm => ?_
    have : (fixMs I C.Ms)[v]? = some .sh := by
      rw [fixMs_get, shAll_at hv hm, Option.map_some]
      by_cases q : v ∈ I
      · rw [if_pos q]; rfl
      · rw [if_neg q]
    show (match (fixMs I C.Ms)[v]? with | some .sh => true | _ => false) = true
    rw [this]
  rintro i m H2 ⟨Of2, env2, ys, zs, P, em, hle, hyl, x2, S2, hP, ow, eJ2, eys⟩
  have bx : BoX H1 (Os Of1) Bo (fun a => Bo a ∨ P a) := ⟨fun a z => .inl z, fun a z => z.imp id (hP a)⟩
  have stay : chk I env1 env2 → ∀ i ∈ I, (wipeE env2 vs)[i]? = env1[i]? ∧ (L2.wipe σ vs)[i]? = σ[i]? := fun c i hi => by
    have n := fix_out hI hv hi
    obtain ⟨d, q1, q2⟩ := c i hi
    exact ⟨(wipeE_out n).trans (q2.trans q1.symm), L2.wipe_out n⟩
  have S2' : St C (fun a => Bo a ∨ P a) H2 (L2.wipe σ vs) (wipeE env2 vs) Of2 := S2.unblk.unfix
  by_cases hl : i = xs.length
  · left
    subst hl
    rw [List.drop_length] at eJ2
    unfold lcJ at eJ2
    split at eJ2
    case isFalse => cases eJ2
    rename_i c
    cases eJ2
    rw [List.append_nil] at eys
    subst eys
    refine ⟨r1.2.stop _ _ H2 Of2 _ bx x2 S2' (stay c), h1 (.ref D) H2 Of2 P x2 ?_ hP ow⟩
    have hlen : env1.length = envF.length := by
      have a := S1.len
      have b := S2'.len
      rw [wipeE_len] at b
      omega
    have := St.back (vs := vs) hv S1 S2' x2 bx wipe_wipe
    rw [backE_wipeE hlen] at this
    exact this
  · right
    have hlt : i < xs.length := by omega
    rw [List.drop_eq_getElem_cons hlt] at eJ2
    unfold lcJ at eJ2
    split at eJ2
    case isFalse => cases eJ2
    rename_i c
    split at eJ2
    case h_2 => cases eJ2
    rename_i e1 et
    obtain ⟨b, e5, et5, eJ5⟩ := bnd_eq_ok eJ2
    have st := r1.2.step _ _ H2 Of2 _ bx x2 S2' (stay c) i xs[i] (by simp [hlt])
    refine ⟨st.1, fun H2 => ∃ Of2 env2 ys zs P, xs.length - (i + 1) = xs.length - (i + 1) ∧ i + 1 ≤ xs.length ∧ ys.length ≤ i + 1 ∧ Ext H1 (Os Of1) H2 (Os Of2) ∧ St (C.fix I σ).blk (fun a => Bo a ∨ P a) H2 (L2.wipe σ vs) (wipeE env2 vs) Of2 ∧
      (∀ a, P a → Os Of1 a ∨ H1 a = none) ∧ Ow (hid H2 fun a => Os Of2 a ∨ (Bo a ∨ P a)) H2 (k + 1) (.ref D) (.lst ys) P ∧ lcJ I env1 vs tf t f (xs.drop (i + 1)) env2 = .ok zs envF ∧ ys ++ zs = zs0,
      fun H' q => ⟨xs.length - (i + 1), by omega, q⟩, fun v H3 hy => ?_⟩
    obtain ⟨k3, r3⟩ := st.2 v H3 hy
    have x3 : Ext H2 (Os Of2) H3 (Os Of2) := ⟨fun a o e _ => k3 a o e, fun _ h => .inl h⟩
    have S3 : St (C.fix I σ).blk (fun a => Bo a ∨ P a) H3 (L2.wipe σ vs) (wipeE env2 vs) Of2 := S2.grow k3 (fun _ h => h) (fun _ _ _ h => h) fun a h => by
      obtain ⟨o, e⟩ := S2.boIn a h
      exact ⟨o, k3 a o e⟩
    refine ⟨_, Of2, _, xs[i], e1, S3, r3, et, fun σ4 H4 Of4 x4 S4 w4 => ?_⟩
    have w4 : L2.wipe σ4 vs = L2.wipe σ vs := w4.trans wipe_wipe
    refine ⟨w4, fun a => Bo a ∨ P a, Of4, e1, S4, ?_⟩
    unfold At
    rw [et5]
    intro b' H5 Of5 P5 x5 S5 n5 r5
    obtain ⟨p5, rfl⟩ := r5
    have S5 : St (C.fix I σ).blk (fun a => Bo a ∨ P a) H5 σ4 e5 Of5 := S5.boEq fun a => ⟨fun z => z.elim id fun z => (p5 a z).elim, .inl⟩
    have x25 : Ext H2 (Os Of2) H5 (Os Of5) := x3.trans (x4.trans x5)
    have kP : ∀ a o, P a → H2 a = some o → H5 a = some o := fun a o p e => x25.keep a o e fun ⟨j, z⟩ => S2.disB j a z (.inr p)
    have ow5 : Ow (hid H5 fun a => Os Of5 a ∨ (Bo a ∨ P a)) H5 (k + 1) (.ref D) (.lst ys) P := ow.mono (x25.hid _) kP
    cases b' with
    | false =>
      rw [if_neg Bool.false_ne_true] at eJ5 ⊢
      refine ⟨Of5, e5, ys, zs, P, rfl, hlt, Nat.le_succ_of_le hyl, x2.trans x25, ?_, hP, ow5, eJ5, eys⟩
      have := S5.wipe (C := (C.fix I σ).blk) hvF
      rw [w4] at this
      exact this
    | true =>
      rw [if_pos rfl] at eJ5 ⊢
      obtain ⟨y, e6, ef6, eJ6⟩ := bnd_eq_ok eJ5
      obtain ⟨zs', e7, eJ7, er⟩ := bnd_eq_ok eJ6
      cases er
      refine ⟨fun a => Bo a ∨ P a, Of5, e5, S5, ?_⟩
      unfold At
      rw [ef6]
      intro yv H6 Of6 Py x6 S6 n6 r6
      have r6 : Ow (hid H6 fun a => Os Of6 a ∨ ((Bo a ∨ P a) ∨ Py a)) H6 k yv y Py := r6
      obtain ⟨_, acc, eD, hPD, hacc, hal⟩ := ow5.list
      cases eD
      have dis : ∀ a, P a → ¬ Py a := fun a p q => by
        rcases n6 a q with ⟨j, z⟩ | z
        · exact S5.disB j a z (.inr p)
        · obtain ⟨o, e⟩ := S5.boIn a (.inr p)
          rw [z] at e; cases e
      have k6 : ∀ a o, P a → H5 a = some o → H6 a = some o := fun a o p e => x6.keep a o e fun ⟨j, z⟩ => S5.disB j a z (.inr p)
      refine ⟨acc, k6 D _ hPD hacc, by omega, Of6, e6, ys ++ [y], zs', fun a => P a ∨ Py a, rfl, hlt, by simp; omega, ?_, ?_, ?_, ?_, eJ7, by simpa using eys⟩
      · have x16 := x2.trans (x25.trans x6)
        exact ⟨fun a o e n => by
          rw [upd_ne (ne_of_none e hD)]
          exact x16.keep a o e n, x16.own⟩
      · have q := ((S6.boEq (Bo' := fun a => Bo a ∨ (P a ∨ Py a)) fun a => or_assoc).updBo (p := D) (o := .lst (acc ++ [yv])) (.inr (.inl hPD)) hB0).wipe (C := (C.fix I σ).blk) hvF
        rw [w4] at q
        exact q
      · intro a z
        rcases z with z | z
        · exact hP a z
        · exact ext_new (x2.trans x25) (n6 a z)
      · refine Ow.snoc (F := hid H5 fun a => Os Of5 a ∨ (Bo a ∨ P a)) ow5 hacc (r6.mono (hid_mono fun a o e n => ⟨?_, fun z => n (z.imp id fun z => or_assoc.mpr z)⟩) fun a o p e => ?_) ?_ (fun a o p ne e => ?_) upd_same dis
        · rw [upd_ne (fun q : a = D => n (.inr (.inl (.inr (by rw [q]; exact hPD)))))]; exact e
        · rw [upd_ne (fun q : a = D => dis D hPD (by rw [← q]; exact p))]; exact e
        · exact hid_mono fun a o e n => ⟨by
            rw [upd_ne (fun q : a = D => n (.inr (.inr (by rw [q]; exact hPD))))]
            exact x6.keep a o e fun z => n (.inl z), fun z => by
            rcases z with z | z | z | z
            · rcases x6.own a z with q | q
              · exact n (.inl q)
              · rw [e] at q; cases q
            · exact n (.inr (.inl z))
            · exact n (.inr (.inr z))
            · rcases n6 a z with q | q
              · exact n (.inl q)
              · rw [e] at q; cases q⟩
        · rw [upd_ne ne]
          exact k6 a o p e
theorem PSh.ow0 {X : Cx} {C : Cf} {e : Expr} {f : M D} (h : PSh X C e f) : POw X C 0 e f := pe_imp h fun σ H Q ⟨Bo, Of, env, S, q⟩ => ⟨Bo, Of, env, S, q.imp fun a c H' Of' env' P _ x1 x2 x3 x4 k => by
  refine k c H' Of' P x1 x2 x3 (.sh (x4.2.mono (hid_mono fun a o e n => ⟨e, fun z => ?_⟩)) x4.1)
  rcases z with z | z | z
  · exact n (.inl z)
  · exact n (.inr z)
  · exact x4.1 a z⟩
section
variable {own : List (Str × Nat)} {scope : Scope}
theorem ow_lc (hc : X.calm = true) (hN : X.N.Nodup) (hi : PIt X C I tg iter it) (ok : BlkOk X.N X.env.scope scope own)
    (hg : ∀ σ0 s H Ca cl fp, PGx (X.blk s H scope (compEnvC scope cl Ca X.env) fp) (C.fix I σ0).blk (own.map (·.2)) tg tf)
    (ht : ∀ σ0 s H Ca cl fp, PTsx (X.blk s H scope (compEnvC scope cl Ca X.env) fp) (C.fix I σ0).blk ifs t)
    (he : ∀ σ0 s H Ca cl fp, POw (X.blk s H scope (compEnvC scope cl Ca X.env) fp) (C.fix I σ0).blk k elt f)
    (hI : fixable C.Ms I = true := by rfl) (hv : shAll C.Ms (own.map (·.2)) = true := by rfl) (hs : ∀ x, foldedSetIterable iter X.env x = pure x := by intro _; rfl) :
    POw X C (k + 1) (.ListComp elt [⟨tg, iter, ifs, 0⟩] scope pos) (lcM I (own.map (·.2)) it tf t f) := by
  refine ⟨fun pins s σ H Q Iv h => ?_⟩
  exact (pe_lc (wi := fun σ' H' Rr => σ' = σ ∧ rdG X.mg C (rIt C I) it σ' H' Rr) hc hN (pi_imp hi fun _ _ _ q => q.2) ok (hg σ) (ht σ) (he σ) hs).run pins s σ H Q Iv (lc_key hI hv h)
/-- name = [..] on one line -/
theorem asg_lc {i : Nat} {y : Str} {py spos : Pos} (hc : X.calm = true) (hN : X.N.Nodup) (hy : X.N[i]? = some y) (hyl : X.env.scope.names.lookup y = some .local)
    (hsw : swapsWith (.ListComp elt [⟨tg, iter, ifs, 0⟩] scope pos) (some (.Name y py)) spos.line X.env = pure true) (hi : PIt X C I tg iter it) (ok : BlkOk X.N X.env.scope scope own)
    (hg : ∀ σ0 s H Ca cl fp, PGx (X.blk s H scope (compEnvC scope cl Ca X.env) fp) (C.fix I σ0).blk (own.map (·.2)) tg tf)
    (ht : ∀ σ0 s H Ca cl fp, PTsx (X.blk s H scope (compEnvC scope cl Ca X.env) fp) (C.fix I σ0).blk ifs t)
    (he : ∀ σ0 s H Ca cl fp, POw (X.blk s H scope (compEnvC scope cl Ca X.env) fp) (C.fix I σ0).blk k elt f)
    (hI : fixable C.Ms I = true := by rfl) (hv : shAll C.Ms (own.map (·.2)) = true := by rfl) (hs : ∀ x, foldedSetIterable iter X.env x = pure x := by intro _; rfl) :
    PS X (.Assign [.Name y py] (.ListComp elt [⟨tg, iter, ifs, 0⟩] scope pos) spos) (tAsg (rdG X.mg C (rOw (k + 1)) (lcM I (own.map (·.2)) it tf t f)) (gName i)) := by
  refine ⟨fun pins s σ H De Iv h => ?_⟩
  exact (ps_setLc (wi := fun σ' H' Rr => σ' = σ ∧ rdG X.mg C (rIt C I) it σ' H' Rr) hc hN hy hyl hsw (pi_imp hi fun _ _ _ q => q.2) ok (hg σ) (ht σ) (he σ) hs).run pins s σ H De Iv (lc_key hI hv h)
end
end
end Pf
/-! F12: own lists change. -/
namespace Pf
open PySem PySem.Spec PyProof.Rows L2

section
variable {C : Cf} {Bo Py P' : Addr → Prop} {H H' : Hp} {σ : L2.St} {env : Env} {Of : Nat → Addr → Prop} {i : Nat} {v : V} {d d' : D} {m : Md}
/-- the tree of an own slot changes, where it stands -/
theorem St.put (S : St C (fun x => Bo x ∨ Py x) H σ env Of) (hm : C.Ms[i]? = some m) (hv : σ[i]? = some (some v)) (he : env[i]? = some (some d)) (b0 : ∀ a, C.B0 a → Bo a) (nb : ∀ a, Py a → ¬ Bo a)
    (keep : ∀ a o, H a = some o → ¬ Of i a → ¬ Py a → H' a = some o) (hP : ∀ a, P' a → Of i a ∨ Py a) (r : SlotR C.B0 H' (Os (upO Of i P')) Bo (C.v0 i) v d' P' m) (kp : ∀ a o, Of i a → ¬ P' a → H a = some o → H' a = some o) :
    St C Bo H' σ (env.set i (some d')) (upO Of i P') := by
  have hi : i < env.length := (List.getElem?_eq_some_iff.mp he).1
  have os : ∀ a, Os (upO Of i P') a → Os Of a ∨ Py a := fun a ⟨j, z⟩ => by
    rcases z with ⟨_, z⟩ | ⟨_, z⟩
    · rcases hP a z with q | q
      · exact .inl ⟨i, q⟩
      · exact .inr q
    · exact .inl ⟨j, z⟩
  refine ⟨by simpa using S.len, by simpa using S.slen, b0, fun a h => ?_, fun j a h z => ?_, fun j l a h z => ?_, fun j e h => ?_, fun j a h => ?_, fun q hq => (S.xd q hq).mono (hid_mono fun a o e n => ⟨keep a o e (fun z => n (.inl ⟨i, z⟩)) (fun z => n (.inr (.inr z))), fun z => z.elim (fun z => (os a z).elim (fun z => n (.inl z)) fun z => n (.inr (.inr z))) fun z => n (.inr (.inl z))⟩)⟩
  · obtain ⟨o, e⟩ := S.boIn a (.inl h)
    exact ⟨o, keep a o e (fun z => S.disB i a z (.inl h)) fun z => nb a z h⟩
  · rcases h with ⟨_, h⟩ | ⟨_, h⟩
    · rcases hP a h with q | q
      · exact S.disB i a q (.inl z)
      · exact nb a q z
    · exact S.disB j a h (.inl z)
  · rcases h with ⟨e1, h⟩ | ⟨n1, h⟩
    · rcases z with ⟨e2, z⟩ | ⟨n2, z⟩
      · omega
      · rcases hP a h with q | q
        · exact (n2 (S.sep l i a z q)).elim
        · exact (S.disB l a z (.inr q)).elim
    · rcases z with ⟨e2, z⟩ | ⟨n2, z⟩
      · rcases hP a z with q | q
        · exact (n1 (S.sep j i a h q)).elim
        · exact (S.disB j a h (.inr q)).elim
      · exact S.sep j l a h z
  · by_cases hj : j = i
    · subst hj
      rw [List.getElem?_set_self hi] at h
      cases h
      refine ⟨v, m, hv, hm, ?_⟩
      have e1 : upO Of j P' j = P' := funext fun a => propext ⟨fun z => z.elim (fun z => z.2) fun z => (z.1 rfl).elim, fun z => .inl ⟨rfl, z⟩⟩
      rw [e1]
      exact r
    · rw [List.getElem?_set_ne (Ne.symm hj)] at h
      obtain ⟨w, m', g1, g2, q⟩ := S.slot j e h
      refine ⟨w, m', g1, g2, ?_⟩
      have e1 : upO Of i P' j = Of j := funext fun a => propext ⟨fun z => z.elim (fun z => (hj z.1).elim) fun z => z.2, fun z => .inr ⟨hj, z⟩⟩
      rw [e1]
      refine q.mono (hid_mono fun a o e n => ⟨keep a o e (fun z => n (.inl ⟨i, z⟩)) (fun z => n (.inr (.inr z))), fun z => ?_⟩) (hid_mono fun a o e n => ⟨keep a o e (fun z => n (.inl ⟨i, z⟩)) (fun z => n (.inr ⟨.inr z, fun b => nb a z (b0 a b)⟩)), fun z => ?_⟩) fun a o p e => keep a o e (fun z => hj (S.sep j i a p z)) fun z => S.disB j a p (.inr z)
      · rcases z with z | z
        · rcases os a z with z | z
          · exact n (.inl z)
          · exact n (.inr (.inr z))
        · exact n (.inr (.inl z))
      · rcases z with z | z
        · rcases os a z with z | z
          · exact n (.inl z)
          · exact n (.inr ⟨.inr z, fun b => nb a z (b0 a b)⟩)
        · exact n (.inr ⟨.inl z.1, z.2⟩)
  · rcases h with ⟨hj, h⟩ | ⟨hj, h⟩
    · subst hj
      exact ⟨d', by rw [List.getElem?_set_self hi]⟩
    · obtain ⟨e, q⟩ := S.empt j a h
      exact ⟨e, by rw [List.getElem?_set_ne (Ne.symm hj)]; exact q⟩
theorem upO_self : upO Of i (Of i) = Of := funext fun j => funext fun a => propext ⟨fun z => z.elim (fun z => z.1 ▸ z.2) fun z => z.2, fun z => by
  by_cases h : j = i
  · exact .inl ⟨h, h ▸ z⟩
  · exact .inr ⟨h, z⟩⟩
def lstAt (i : Nat) (e : Env) : Option (List D) := match e[i]? with
  | some (some (.lst ds)) => some ds
  | _ => none
theorem lstAt_eq {e : Env} {ds : List D} (h : lstAt i e = some ds) : e[i]? = some (some (.lst ds)) := by
  unfold lstAt at h
  split at h
  · rename_i q; cases h; exact q
  · cases h
def own1 (Ms : List Md) (i : Nat) : Bool := match Ms[i]? with
  | some (.own 1) => true
  | some (.io 1) => true
  | _ => false
theorem own1_of {Ms : List Md} (h : own1 Ms i = true) : Ms[i]? = some (.own 1) ∨ Ms[i]? = some (.io 1) := by
  unfold own1 at h
  split at h
  · exact .inl (by assumption)
  · exact .inr (by assumption)
  · cases h
theorem ow1_lst {F : Hp} {ds : List D} {P : Addr → Prop} (h : Ow F H 1 v (.lst ds) P) : ∃ a vs, v = .ref a ∧ H a = some (.lst vs) ∧ Rps (Rp F) vs ds ∧ ∀ x, P x ↔ x = a := by
  cases h with
  | «at» r t n => cases t
  | @lst _ a vs _ _ Ps ha hl r n1 n2 n3 hP =>
    have np : ∀ i x, ¬ Ps i x := fun i x z => by
      have hi := n3 i x z
      have := r i vs[i] ds[i] (by simp [show i < vs.length by omega]) (by simp [hi])
      cases this with
      | sh _ n => exact n x z
    refine ⟨a, vs, rfl, ha, ⟨hl, fun i v d e1 e2 => ?_⟩, fun x => (hP x).trans ⟨fun z => z.elim id fun ⟨i, z⟩ => (np i x z).elim, .inl⟩⟩
    cases r i v d e1 e2 with
    | sh q _ => exact q
theorem ow1_mk {F : Hp} {a : Addr} {vs : List V} {ds : List D} {P : Addr → Prop} (ha : H a = some (.lst vs)) (r : Rps (Rp F) vs ds) (hP : ∀ x, P x ↔ x = a) : Ow F H 1 (.ref a) (.lst ds) P :=
  .lst (fun _ _ => False) ha r.1 (fun i v d e1 e2 => .sh (r.2 i v d e1 e2) fun _ z => z) (fun _ z => z) (fun _ _ _ z => z.elim) (fun _ _ z => z.elim) fun x => (hP x).trans ⟨.inl, fun z => z.elim id fun ⟨_, z⟩ => z.elim⟩
theorem own1_at {ds : List D} (S : St C Bo H σ env Of) (hm : own1 C.Ms i = true) (h : lstAt i env = some ds) : ∃ a vs, σ[i]? = some (some (.ref a)) ∧ H a = some (.lst vs) ∧ Rps (Rp (hid H fun x => Os Of x ∨ Bo x)) vs ds ∧ ∀ x, Of i x ↔ x = a := by
  obtain ⟨v, m, h1, h2, r⟩ := S.slot i _ (lstAt_eq h)
  rcases own1_of hm with q | q
  · rw [q] at h2; cases h2
    obtain ⟨a, vs, rfl, q'⟩ := ow1_lst r
    exact ⟨a, vs, h1, q'⟩
  · rw [q] at h2; cases h2
    obtain ⟨a, vs, rfl, q'⟩ := ow1_lst r.1
    exact ⟨a, vs, h1, q'⟩
theorem own1_put {ds ds' : List D} {a : Addr} {vs' : List V} (S : St C Bo H σ env Of) (hm : own1 C.Ms i = true) (h : lstAt i env = some ds) (hv : σ[i]? = some (some (.ref a))) (hP : ∀ x, Of i x ↔ x = a)
    (r : Rps (Rp (hid H fun x => Os Of x ∨ Bo x)) vs' ds') : St C Bo (upd H a (.lst vs')) σ (env.set i (some (.lst ds'))) Of ∧ Ext H (Os Of) (upd H a (.lst vs')) (Os Of) := by
  have hOa : Os Of a := ⟨i, (hP a).2 rfl⟩
  have x1 : Ext H (Os Of) (upd H a (.lst vs')) (Os Of) := ⟨fun b o e n => by rw [upd_ne (fun z : b = a => n (by rw [z]; exact hOa))]; exact e, fun _ z => .inl z⟩
  refine ⟨?_, x1⟩
  obtain ⟨v, m, h1, h2, q⟩ := S.slot i _ (lstAt_eq h)
  rw [hv] at h1; cases h1
  have ow : Ow (hid (upd H a (.lst vs')) fun x => Os (upO Of i (Of i)) x ∨ Bo x) (upd H a (.lst vs')) 1 (.ref a) (.lst ds') (Of i) := by
    rw [upO_self]
    exact ow1_mk upd_same (r.mono fun _ _ z => z.mono (x1.hid _)) hP
  have := St.put (Py := fun _ => False) (P' := Of i) (H' := upd H a (.lst vs')) (d' := .lst ds') S.bo h2 hv (lstAt_eq h) S.b0 (fun _ z => z.elim) (fun b o e n _ => by rw [upd_ne (fun z => n ((hP b).2 z))]; exact e) (fun _ z => .inl z) ?_ (fun b o p n => (n p).elim)
  · rw [upO_self] at this
    exact this
  · rcases own1_of hm with z | z
    · rw [z] at h2; cases h2
      exact ow
    · rw [z] at h2; cases h2
      exact ⟨ow, q.2⟩
end
/-! ### methods of an own list -/
def mutM (i : Nat) (g : List D → List D → Option (List D × D)) (fr : M (List D)) : M D := fun e0 => match lstAt i e0 with
  | none => .bad
  | some _ => bnd fr (fun ys e => match lstAt i e with
    | none => .bad
    | some ds => match g ds ys with
      | none => .bad
      | some p => .ok p.2 (e.set i (some (.lst p.1)))) e0
def MutOk (r : V → List V → Hp → VK → Prop) (g : List D → List D → Option (List D × D)) : Prop := ∀ (F H : Hp) (l : Addr) (vs us : List V) (ds ys : List D) (p : List D × D) (Q : VK), Sub F H → H l = some (.lst vs) → Rps (Rp F) vs ds → Rps (Rp F) us ys → g ds ys = some p →
  ∃ vs' rv, Rps (Rp F) vs' p.1 ∧ Rp F rv p.2 ∧ (Q rv (upd H l (.lst vs')) → r (.ref l) us H Q)
section
variable {X : Cx} {C : Cf} {i : Nat} {e : Expr} {es : List Expr} {fr : M (List D)} {x name : Str} {id : String} {r : V → List V → Hp → VK → Prop} {g : List D → List D → Option (List D × D)} {px apos cpos : Pos}
theorem mut_key {K : PySem.W.Frag} {mg : Str → Option Value} {σ : L2.St} {H : Hp} {Q : VK} {ta : TA} (hm : own1 C.Ms i = true) (ok : MutOk r g) (h : rdG mg C rSh (mutM i g fr) σ H Q) (ht : ∀ Q', rdG mg C rShs fr σ H Q' → ta σ H Q') :
    tVar i σ H fun x H1 => tyV K "list" x H1 ∧ ta σ H1 fun xs H2 => r x xs H2 Q := by
  obtain ⟨Bo, Of, env, S, h⟩ := h
  unfold At mutM at h
  cases q0 : lstAt i env with
  | none => rw [q0] at h; exact h.elim
  | some ds0 =>
    rw [q0] at h
    dsimp only at h
    obtain ⟨a, vs0, hv, ha, _, _⟩ := own1_at S hm q0
    refine ⟨.ref a, hv, ?_, ht _ ⟨Bo, Of, env, S, ?_⟩⟩
    · exact .inl ⟨rfl, _, .inl (.inl ha)⟩
    have h : At mg C rSh (bnd fr (fun ys e => match lstAt i e with
      | none => .bad
      | some ds => match g ds ys with
        | none => .bad
        | some p => .ok p.2 (e.set i (some (.lst p.1))))) Bo Of H σ env Q := h
    refine h.bnd0 shs_noP fun ys us H1 Of1 env1 _ x1 S1 r1 h1 => ?_
    unfold At at h1
    dsimp only at h1
    cases q1 : lstAt i env1 with
    | none => rw [q1] at h1; exact h1.elim
    | some ds =>
      rw [q1] at h1
      dsimp only at h1
      cases q2 : g ds ys with
      | none => rw [q2] at h1; exact h1.elim
      | some p =>
        rw [q2] at h1
        dsimp only at h1
        obtain ⟨a', vs, hv', ha', rv, hP⟩ := own1_at S1 hm q1
        rw [hv] at hv'; cases hv'
        obtain ⟨vs', w, g1, g2, g3⟩ := ok _ H1 a vs us ds ys p Q (hid_sub _ _) ha' rv r1.2 q2
        obtain ⟨S2, x2⟩ := own1_put (vs' := vs') S1 hm q1 hv hP g1
        exact g3 (h1 w _ Of1 (fun _ => False) x2 S2.bo (fun _ z => z.elim) ⟨fun _ z => z, g2.mono (x2.hid _)⟩)
/-- xs.m(..) -/
theorem sh_mut (pa : PlainAttrs "list") (slot : Slot "list" name id) (hty : typeOf (.builtin id) = pure (.type "method_descriptor")) (hr : MtR X id r) (ok : MutOk r g) (hx : PE X (.Name x px) (tVar i)) (ha : PShs X C (e :: es) fr) (hm : own1 C.Ms i = true := by rfl)
    (hbase : attributeBase (.Name x px) name X.env (eval (.Name x px) X.env) = eval (.Name x px) X.env := by rfl)
    (hfew : ((backTo cpos (starEach (e :: es) X.env)).all (fun x => !x.1) && (backToKw cpos (keywordEach [] X.env)).all (fun x => x.1.isSome)
      && decide ((e :: es).length + ([] : List Keyword).length + (if ([] : List Keyword).isEmpty then 0 else 1) < 30)) = true := by rfl)
    (hline : (apos.endLine == cpos.line) = true := by rfl) (hs : starEach (e :: es) X.env = (false, eval e X.env) :: starEach es X.env := by rfl) (hplain : (backTo cpos (starEach es X.env)).any (·.1) = false := by rfl) :
    PSh X C (.Call (.Attribute (.Name x px) name apos) (e :: es) [] cpos) (mutM i g fr) :=
  pe_imp (pe_bm pa slot hty hr hx ha hbase hfew hline hs hplain) fun σ H Q h => mut_key hm ok h fun _ q => q
/-- xs.m() -/
theorem sh_mut0 (pa : PlainAttrs "list") (slot : Slot "list" name id) (hty : typeOf (.builtin id) = pure (.type "method_descriptor")) (hr : MtR X id r) (ok : MutOk r g) (hx : PE X (.Name x px) (tVar i)) (hm : own1 C.Ms i = true := by rfl)
    (hbase : attributeBase (.Name x px) name X.env (eval (.Name x px) X.env) = eval (.Name x px) X.env := by rfl) (hline : (apos.endLine == cpos.line) = true := by rfl) :
    PSh X C (.Call (.Attribute (.Name x px) name apos) [] [] cpos) (mutM i g nilM) :=
  pe_imp (pe_bm0 pa slot hty hr hx hbase hline) fun σ H Q h => by
    obtain ⟨v, hv, q1, q2⟩ := mut_key (K := X.K) (ta := fun σ H Q => rdG X.mg C rShs nilM σ H Q) hm ok h fun _ q => q
    obtain ⟨Bo, Of, env, S, q3⟩ := q2
    exact ⟨v, hv, q1, q3.ret_ok S ⟨fun _ z => z, Rps.nil⟩⟩
end
def appG : List D → List D → Option (List D × D) := fun ds ys => match ys with
  | [y] => if ds.length < sizeLine then some (ds ++ [y], .non) else none
  | _ => none
def popG : List D → List D → Option (List D × D) := fun ds ys => match ys with
  | [] => (ds[ds.length - 1]?).map fun d => (ds.dropLast, d)
  | _ => none
def popAtG : List D → List D → Option (List D × D) := fun ds ys => match ys with
  | [.int i] => if -(2 ^ 63) ≤ i ∧ i < 2 ^ 63 then (ixN ds.length i).bind fun k => (ds[k]?).map fun d => (ds.eraseIdx k, d) else none
  | _ => none
def revG : List D → List D → Option (List D × D) := fun ds ys => match ys with
  | [] => some (ds.reverse, .non)
  | _ => none
def insG : List D → List D → Option (List D × D) := fun ds ys => match ys with
  | [.int i, y] => if ds.length < sizeLine ∧ 0 ≤ i ∧ i < 2 ^ 63 then some (ds.take i.toNat ++ [y] ++ ds.drop i.toNat, .non) else none
  | _ => none
def extG : List D → List D → Option (List D × D) := fun ds ys => match ys with
  | [.lst zs] => if ds.length + zs.length ≤ sizeLine then some (ds ++ zs, .non) else none
  | _ => none
theorem Rps.one {R : V → D → Prop} {us : List V} {y : D} (h : Rps R us [y]) : ∃ u, us = [u] ∧ R u y := by
  match us, h with
  | [], h => exact nomatch h.1
  | [u], h => exact ⟨u, rfl, h.head⟩
  | _ :: _ :: _, h => exact nomatch h.1
theorem Rps.zero {R : V → D → Prop} {us : List V} (h : Rps R us []) : us = [] := by
  match us, h with
  | [], h => rfl
  | _ :: _, h => exact nomatch h.1
theorem Rps.two {R : V → D → Prop} {us : List V} {y z : D} (h : Rps R us [y, z]) : ∃ u v, us = [u, v] ∧ R u y ∧ R v z := by
  match us, h with
  | [], h => exact nomatch h.1
  | u :: us, h =>
    obtain ⟨v, rfl, r⟩ := h.tail.one
    exact ⟨u, v, rfl, h.head, r⟩
theorem Rps.eraseIdx {R : V → D → Prop} {vs : List V} {ds : List D} (k : Nat) (t : Rps R vs ds) : Rps R (vs.eraseIdx k) (ds.eraseIdx k) := by
  refine ⟨by rw [List.length_eraseIdx, List.length_eraseIdx, t.1], fun i v d h1 h2 => ?_⟩
  rw [List.getElem?_eraseIdx] at h1 h2
  split at h1
  · rename_i q
    rw [if_pos q] at h2
    exact t.2 i v d h1 h2
  · rename_i q
    rw [if_neg q] at h2
    exact t.2 _ v d h1 h2
theorem Rps.dropLast {R : V → D → Prop} {vs : List V} {ds : List D} (t : Rps R vs ds) : Rps R vs.dropLast ds.dropLast := by
  rw [List.dropLast_eq_take, List.dropLast_eq_take, t.1]
  exact t.take _
theorem mok_app : MutOk rAppend appG := fun F H l vs us ds ys p Q sb hl rv ru e => by
  unfold appG at e
  split at e
  · split at e
    · cases e
      obtain ⟨u, rfl, r⟩ := ru.one
      exact ⟨vs ++ [u], .non, rv.snoc r, .non, fun q => ⟨l, vs, u, rfl, rfl, hl, by rw [rv.1]; assumption, q⟩⟩
    · cases e
  · cases e
theorem mok_pop : MutOk rPop popG := fun F H l vs us ds ys p Q sb hl rv ru e => by
  unfold popG at e
  split at e
  · obtain ⟨d, e1, rfl⟩ := Option.map_eq_some_iff.mp e
    cases ru.zero
    obtain ⟨v, hv, r⟩ := rv.get e1
    exact ⟨vs.dropLast, v, rv.dropLast, r, fun q => ⟨l, vs, v, rfl, rfl, hl, by rw [rv.1]; exact hv, q⟩⟩
  · cases e
theorem mok_popAt : MutOk rPopAt popAtG := fun F H l vs us ds ys p Q sb hl rv ru e => by
  unfold popAtG at e
  split at e
  · split at e
    · rename_i hb
      obtain ⟨k, e1, e2⟩ := Option.bind_eq_some_iff.mp e
      obtain ⟨d, e3, rfl⟩ := Option.map_eq_some_iff.mp e2
      obtain ⟨u, rfl, r⟩ := ru.one
      cases r.int'
      obtain ⟨v, hv, r⟩ := rv.get e3
      exact ⟨vs.eraseIdx k, v, rv.eraseIdx k, r, fun q => ⟨l, vs, _, k, v, rfl, rfl, hl, hb.1, hb.2, by rw [rv.1]; exact (ixN_seq e1).1, hv, q⟩⟩
    · cases e
  · cases e
theorem mok_rev : MutOk rReverse revG := fun F H l vs us ds ys p Q sb hl rv ru e => by
  unfold revG at e
  split at e
  · cases e
    cases ru.zero
    exact ⟨vs.reverse, .non, rv.reverse, .non, fun q => ⟨l, vs, rfl, rfl, hl, q⟩⟩
  · cases e
theorem mok_ins : MutOk (fun x vs H Q => ∃ (l : Addr) (xs : List V) (i : Int) (y : V), x = .ref l ∧ vs = [.int i, y] ∧ H l = some (.lst xs) ∧ xs.length < sizeLine ∧ 0 ≤ i ∧ i < 2 ^ 63 ∧
    Q .non (upd H l (.lst (xs.take i.toNat ++ [y] ++ xs.drop i.toNat)))) insG := fun F H l vs us ds ys p Q sb hl rv ru e => by
  unfold insG at e
  split at e
  · split at e
    · rename_i hb
      cases e
      obtain ⟨u, w, rfl, r1, r2⟩ := ru.two
      cases r1.int'
      exact ⟨_, .non, ((rv.take _).snoc r2).append (rv.drop _), .non, fun q => ⟨l, vs, _, w, rfl, rfl, hl, by rw [rv.1]; exact hb.1, hb.2.1, hb.2.2, q⟩⟩
    · cases e
  · cases e
theorem mok_ext : MutOk rExtend extG := fun F H l vs us ds ys p Q sb hl rv ru e => by
  unfold extG at e
  split at e
  · split at e
    · rename_i hb
      cases e
      obtain ⟨u, rfl, r⟩ := ru.one
      cases r with
      | @lst b ws _ h1 h2 h3 => exact ⟨vs ++ ws, .non, rv.append ⟨h2, h3⟩, .non, fun q => ⟨l, b, vs, ws, rfl, rfl, hl, sb _ _ h1, by rw [rv.1, h2]; exact hb, q⟩⟩
    · cases e
  · cases e
section
variable {X : Cx} {C : Cf} {i : Nat} {e : Expr} {fr : M (List D)} {x : Str} {px apos cpos : Pos}
theorem sh_app (hx : PE X (.Name x px) (tVar i)) (ha : PShs X C [e] fr) (hm : own1 C.Ms i = true := by rfl) (hbase : attributeBase (.Name x px) "append" X.env (eval (.Name x px) X.env) = eval (.Name x px) X.env := by rfl) (hline : (apos.endLine == cpos.line) = true := by rfl) (hs : starEach [e] X.env = (false, eval e X.env) :: starEach [] X.env := by rfl)
    (hfew : ((backTo cpos (starEach [e] X.env)).all (fun x => !x.1) && (backToKw cpos (keywordEach [] X.env)).all (fun x => x.1.isSome)
      && decide ([e].length + ([] : List Keyword).length + (if ([] : List Keyword).isEmpty then 0 else 1) < 30)) = true := by rfl) (hplain : (backTo cpos (starEach [] X.env)).any (·.1) = false := by rfl) : PSh X C (.Call (.Attribute (.Name x px) "append" apos) [e] [] cpos) (mutM i appG fr) :=
  sh_mut PySem.F.plainAttrs_list PySem.F.slot_list_append PySem.F.type_list_append mt_append mok_app hx ha hm hbase hfew hline hs hplain
theorem sh_popAt (hx : PE X (.Name x px) (tVar i)) (ha : PShs X C [e] fr) (hm : own1 C.Ms i = true := by rfl) (hbase : attributeBase (.Name x px) "pop" X.env (eval (.Name x px) X.env) = eval (.Name x px) X.env := by rfl) (hline : (apos.endLine == cpos.line) = true := by rfl) (hs : starEach [e] X.env = (false, eval e X.env) :: starEach [] X.env := by rfl)
    (hfew : ((backTo cpos (starEach [e] X.env)).all (fun x => !x.1) && (backToKw cpos (keywordEach [] X.env)).all (fun x => x.1.isSome)
      && decide ([e].length + ([] : List Keyword).length + (if ([] : List Keyword).isEmpty then 0 else 1) < 30)) = true := by rfl) (hplain : (backTo cpos (starEach [] X.env)).any (·.1) = false := by rfl) : PSh X C (.Call (.Attribute (.Name x px) "pop" apos) [e] [] cpos) (mutM i popAtG fr) :=
  sh_mut PySem.F.plainAttrs_list PySem.F.slot_list_pop PySem.F.type_list_pop mt_popAt mok_popAt hx ha hm hbase hfew hline hs hplain
theorem sh_ext (hx : PE X (.Name x px) (tVar i)) (ha : PShs X C [e] fr) (hm : own1 C.Ms i = true := by rfl) (hbase : attributeBase (.Name x px) "extend" X.env (eval (.Name x px) X.env) = eval (.Name x px) X.env := by rfl) (hline : (apos.endLine == cpos.line) = true := by rfl) (hs : starEach [e] X.env = (false, eval e X.env) :: starEach [] X.env := by rfl)
    (hfew : ((backTo cpos (starEach [e] X.env)).all (fun x => !x.1) && (backToKw cpos (keywordEach [] X.env)).all (fun x => x.1.isSome)
      && decide ([e].length + ([] : List Keyword).length + (if ([] : List Keyword).isEmpty then 0 else 1) < 30)) = true := by rfl) (hplain : (backTo cpos (starEach [] X.env)).any (·.1) = false := by rfl) : PSh X C (.Call (.Attribute (.Name x px) "extend" apos) [e] [] cpos) (mutM i extG fr) :=
  sh_mut PySem.F.plainAttrs_list PySem.F.slot_list_extend PySem.F.type_list_extend mt_extend mok_ext hx ha hm hbase hfew hline hs hplain
theorem sh_pop (hx : PE X (.Name x px) (tVar i)) (hm : own1 C.Ms i = true := by rfl) (hbase : attributeBase (.Name x px) "pop" X.env (eval (.Name x px) X.env) = eval (.Name x px) X.env := by rfl) (hline : (apos.endLine == cpos.line) = true := by rfl) : PSh X C (.Call (.Attribute (.Name x px) "pop" apos) [] [] cpos) (mutM i popG nilM) :=
  sh_mut0 PySem.F.plainAttrs_list PySem.F.slot_list_pop PySem.F.type_list_pop mt_pop mok_pop hx hm hbase hline
theorem sh_rev (hx : PE X (.Name x px) (tVar i)) (hm : own1 C.Ms i = true := by rfl) (hbase : attributeBase (.Name x px) "reverse" X.env (eval (.Name x px) X.env) = eval (.Name x px) X.env := by rfl) (hline : (apos.endLine == cpos.line) = true := by rfl) : PSh X C (.Call (.Attribute (.Name x px) "reverse" apos) [] [] cpos) (mutM i revG nilM) :=
  sh_mut0 PySem.F.plainAttrs_list PySem.F.slot_list_reverse PySem.F.type_list_reverse mt_reverse mok_rev hx hm hbase hline
end

/-! ### items set -/
def setM (i : Nat) (fe fj : M D) : M Fl := bnd fe fun y => fun e0 => match lstAt i e0 with
  | none => .bad
  | some _ => bnd fj (fun j e => match lstAt i e, j with
    | some ds, .int k => match ixN ds.length k with
      | some n => .ok .nx (e.set i (some (.lst (ds.set n y))))
      | none => .bad
    | _, _ => .bad) e0
section
variable {X : Cx} {C : Cf} {R : Rl D V} {i : Nat} {e j : Expr} {fe fj : M D} {x : Str} {px tpos pos : Pos} {J : List Nat}
/-- an item set, at the end of a statement -/
theorem set_end {mg : Str → Option Value} {Bo : Addr → Prop} {Of : Nat → Addr → Prop} {H : Hp} {σ : L2.St} {env : Env} {De : Ends} {dj : D} {y : D} {v w : V} {o : V} (S : St C Bo H σ env Of) (hm : own1 C.Ms i = true) (hv : σ[i]? = some (some o))
    (h : RS mg C R Bo Of H De (match lstAt i env, dj with
      | some ds, .int k => match ixN ds.length k with
        | some n => .ok .nx (env.set i (some (.lst (ds.set n y))))
        | none => .bad
      | _, _ => .bad)) (rv : Rp (hid H fun a => Os Of a ∨ Bo a) v y) (rw' : Rp H w dj) : rSetL o w v H fun H' => De.nx σ H' := by
  cases q : lstAt i env with
  | none => rw [q] at h; exact h.elim
  | some ds =>
    rw [q] at h
    cases dj with
    | int k =>
      dsimp only at h
      obtain ⟨a, vs, hv', ha, r, hP⟩ := own1_at S hm q
      rw [hv] at hv'; cases hv'
      cases qn : ixN ds.length k with
      | none => rw [qn] at h; exact h.elim
      | some n =>
        rw [qn] at h
        cases rw'.int'
        obtain ⟨S2, x2⟩ := own1_put (vs' := vs.set n v) S hm q hv hP (r.set rv)
        exact ⟨a, vs, k, n, rfl, rfl, ha, by rw [r.1]; exact qn, h σ _ Of x2 S2⟩
    | _ => exact h.elim
theorem sx_set (he : PSh X C e fe) (hx : PE X (.Name x px) (tVar i)) (hj : PRd X C J j fj) (hm : own1 C.Ms i = true := by rfl) (hs : swapsWithSole [.Subscript (.Name x px) j tpos] e pos.line X.env = pure false := by rfl)
    (hw : swappedStores [.Subscript (.Name x px) j tpos] e X.env = pure none := by rfl) (h1 : (assignEach [.Subscript (.Name x px) j tpos] X.env).map (·.2) = [assign (.Subscript (.Name x px) j tpos) X.env] := by rfl)
    (ha : ∀ v, assign (.Subscript (.Name x px) j tpos) X.env v = (do
      let ov ← holding [v] (eval (.Name x px) X.env)
      let iv ← holding [v, ov] (eval j X.env)
      standAt tpos
      holding [v, ov, iv] (setItem ov iv v)
      release [v, ov, iv] []) := by intro _; rfl) : PSx X C R (.Assign [.Subscript (.Name x px) j tpos] e pos) (setM i fe fj) :=
  ps_imp (ps_asg he (pg_sub hx hj set_list ha) hs hw h1) fun De σ H ⟨Bo, Of, env, S, h⟩ => ⟨Bo, Of, env, S, AtS.bnd0 h sh_noP fun y v H1 Of1 env1 _ x1 S1 r1 h1 => by
    unfold AtS at h1
    dsimp only at h1
    cases q : lstAt i env1 with
    | none => rw [q] at h1; exact h1.elim
    | some ds0 =>
      rw [q] at h1
      obtain ⟨a, vs0, hv, _⟩ := own1_at S1 hm q
      refine ⟨.ref a, hv, Bo, Of1, env1, S1, AtS.bnd0 (f := fj) (show AtS X.mg C R (bnd fj _) Bo Of1 H1 σ env1 De from h1) rd_noP fun dj w H2 Of2 env2 _ x2 S2 r2 h2 => ?_⟩
      exact set_end S2 hm hv h2 (r1.2.mono (x2.hid _)) (r2.2 Bo σ H2 Of2 env2 BoX.refl Ext.refl S2 fun _ _ => ⟨rfl, rfl⟩)⟩
end
end Pf
/-! F13: calls and functions. -/
namespace Pf
open PySem PySem.Spec PyProof.Rows L2

/-! ### arguments of a call -/
/-- shared; lent (its slots I); handed on (the slot j) -/
inductive Ak where
  | sh | ln (I : List Nat) | io (j : Nat)
def depsA : List Ak → List Nat
  | [] => []
  | .ln I :: r => I ++ depsA r
  | _ :: r => depsA r
def iosA : List Ak → List Nat
  | [] => []
  | .io j :: r => j :: iosA r
  | _ :: r => iosA r
def ArOk (Bo : Addr → Prop) (σ : L2.St) (H : Hp) (Of : Nat → Addr → Prop) : List Ak → List D → List V → Prop
  | [], [], [] => True
  | .sh :: ks, d :: ds, v :: vs => Rp (hid H fun a => Os Of a ∨ Bo a) v d ∧ ArOk Bo σ H Of ks ds vs
  | .ln I :: ks, d :: ds, v :: vs => Sm (hid H fun a => Os Of a ∨ Bo a) (hid H fun a => ∃ j, j ∉ I ∧ Of j a) v d ∧ ArOk Bo σ H Of ks ds vs
  | .io j :: ks, _ :: ds, v :: vs => σ[j]? = some (some v) ∧ ArOk Bo σ H Of ks ds vs
  | _, _, _ => False
def rArs (C : Cf) (ks : List Ak) : Rl (List D) (List V) := fun σ H' Of' env' Bo P ds vs => (∀ x, ¬ P x) ∧ ∀ Bo2 H2 Of2 env2, BoX H' (Os Of') Bo Bo2 → Ext H' (Os Of') H2 (Os Of2) → St C Bo2 H2 σ env2 Of2 → (∀ i ∈ depsA ks, env2[i]? = env'[i]?) → ArOk Bo2 σ H2 Of2 ks ds vs
abbrev PArs (X : Cx) (C : Cf) (ks : List Ak) (es : List Expr) (f : M (List D)) : Prop := PA X es (rdG X.mg C (rArs C ks) f)
theorem ars_noP {C : Cf} {ks : List Ak} : ∀ (σ : L2.St) (H' : Hp) (Of' : Nat → Addr → Prop) (env' : Env) (Bo P : Addr → Prop) (a : List D) (b : List V), rArs C ks σ H' Of' env' Bo P a b → ∀ x, ¬ P x := fun _ _ _ _ _ _ _ _ h => h.1
def herM (j : Nat) : M D := fun e => match e[j]? with
  | some (some _) => .ok .non e
  | _ => .bad
section
variable {X : Cx} {C : Cf} {ks : List Ak} {e : Expr} {es : List Expr} {f : M D} {fr : M (List D)} {I : List Nat} {j : Nat} {x : Str} {px : Pos}
theorem ars_nil : PArs X C [] [] nilM := pa_imp pa_nil fun σ H Q ⟨Bo, Of, env, S, h⟩ => h.ret_ok S ⟨fun _ z => z, fun _ _ _ _ _ _ _ _ => trivial⟩
theorem ars_cons {R1 : Rl D V} {k : Ak} (hn : ∀ σ H' Of' env' Bo P a b, R1 σ H' Of' env' Bo P a b → ∀ x, ¬ P x) (he : PE X e (rdG X.mg C R1 f)) (hr : PArs X C ks es fr) (hs : starEach (e :: es) X.env = (false, eval e X.env) :: starEach es X.env)
    (hk : ∀ σ H1 Of1 env1 Bo d v env2 ds, R1 σ H1 Of1 env1 Bo (fun _ => False) d v → fr env1 = .ok ds env2 → ∀ H2 Of2 vs, Ext H1 (Os Of1) H2 (Os Of2) → rArs C ks σ H2 Of2 env2 Bo (fun _ => False) ds vs → rArs C (k :: ks) σ H2 Of2 env2 Bo (fun _ => False) (d :: ds) (v :: vs)) :
    PArs X C (k :: ks) (e :: es) (consM f fr) := pa_imp (pa_cons he hr hs) fun σ H Q ⟨Bo, Of, env, S, h⟩ => ⟨Bo, Of, env, S, At.bnd0 h hn fun d v H1 Of1 env1 _ x1 S1 r1 h1 => ⟨Bo, Of1, env1, S1, At.bnd0 h1 ars_noP fun ds vs H2 Of2 env2 e2 x2 S2 r2 h2 => by
  exact h2.ret_ok S2 (hk σ H1 Of1 env1 Bo d v env2 ds r1 e2 H2 Of2 vs x2 r2)⟩⟩
theorem ars_sh (he : PSh X C e f) (hr : PArs X C ks es fr) (hs : starEach (e :: es) X.env = (false, eval e X.env) :: starEach es X.env := by rfl) : PArs X C (.sh :: ks) (e :: es) (consM f fr) :=
  ars_cons sh_noP he hr hs fun σ H1 Of1 env1 Bo d v env2 ds r1 e2 H2 Of2 vs x2 r2 => ⟨fun _ z => z, fun Bo2 H3 Of3 env3 b x S c => ⟨r1.2.mono ((x2.hid _).trans (x.hidX b)), r2.2 Bo2 H3 Of3 env3 b x S c⟩⟩
theorem ars_ln (he : PSm X C I e f) (hr : PArs X C ks es fr) (kp : Kps I fr := by exact kps_nil) (hs : starEach (e :: es) X.env = (false, eval e X.env) :: starEach es X.env := by rfl) : PArs X C (.ln I :: ks) (e :: es) (consM f fr) :=
  ars_cons sm_noP he hr hs fun σ H1 Of1 env1 Bo d v env2 ds r1 e2 H2 Of2 vs x2 r2 => ⟨fun _ z => z, fun Bo2 H3 Of3 env3 b x S c =>
    ⟨r1.2 Bo2 σ H3 Of3 env3 (b.up x2) (x2.trans x) S fun i hi => ⟨(c i (List.mem_append_left _ hi)).trans (kp i hi _ _ _ e2), rfl⟩, r2.2 Bo2 H3 Of3 env3 b x S fun i hi => c i (List.mem_append_right _ hi)⟩⟩
def rHer (j : Nat) : Rl D V := fun σ _ _ _ _ P _ v => (∀ x, ¬ P x) ∧ σ[j]? = some (some v)
theorem her_var (hp : PE X (.Name x px) (tVar j)) : PE X (.Name x px) (rdG X.mg C (rHer j) (herM j)) := pe_imp hp fun σ H Q ⟨Bo, Of, env, S, h⟩ => by
  unfold At herM at h
  split at h
  · rename_i a env' q
    split at q
    · rename_i d he
      cases q
      obtain ⟨v, m, h1, h2, r⟩ := S.slot j _ he
      exact ⟨v, h1, h v H Of (fun _ => False) Ext.refl S.bo (fun _ z => z.elim) ⟨fun _ z => z, h1⟩⟩
    · cases q
  · rename_i a env' q
    split at q <;> cases q
  · exact h.elim
theorem ars_io (hp : PE X (.Name x px) (tVar j)) (hr : PArs X C ks es fr) (hs : starEach (.Name x px :: es) X.env = (false, eval (.Name x px) X.env) :: starEach es X.env := by rfl) : PArs X C (.io j :: ks) (.Name x px :: es) (consM (herM j) fr) :=
  ars_cons (fun _ _ _ _ _ _ _ _ h => h.1) (her_var hp) hr hs fun σ H1 Of1 env1 Bo d v env2 ds r1 e2 H2 Of2 vs x2 r2 => ⟨fun _ z => z, fun Bo2 H3 Of3 env3 b x S c => ⟨r1.2, r2.2 Bo2 H3 Of3 env3 b x S c⟩⟩
end

/-! ### the promise of a function -/
def keepIo : List Md → Env → Env
  | [], _ => []
  | .io _ :: r, o :: e => o :: keepIo r e
  | _ :: r, _ :: e => none :: keepIo r e
  | _ :: r, [] => none :: keepIo r []
abbrev FnM := List D → Rx D
def fnOf (pm : List Md) (n : Nat) (b : M Fl) : FnM := fun ds => match b (ds.map some ++ List.replicate (n - ds.length) none) with
  | .ok (.ret d) e => .ok d (keepIo pm e)
  | .ok .nx e => .ok .non (keepIo pm e)
  | .exc x e => .exc x (keepIo pm e)
  | _ => .bad
def Cf.call (pm : List Md) (vs : List V) (Bo : Addr → Prop) (E : XK) : Cf := ⟨pm, fun i => vs.getD i .non, fun c dd _ H => E c dd H, Bo, []⟩
def spOf (mg : Str → Option Value) (pm : List Md) (R : Rl D V) (fn : FnM) : Sp := fun vs H Q E => ∃ Bo Of ds, St (Cf.call pm vs Bo E) Bo H (vs.map some) (ds.map some) Of ∧ At mg (Cf.call pm vs Bo E) R (fun _ => fn ds) Bo Of H (vs.map some) (ds.map some) Q
/-- what a result tells leans on nothing but what is to be seen -/
structure RGood (R : Rl D V) : Prop where
  mono : ∀ {σ σ' H Of Of' env env' Bo Bo' P d v}, (∀ a, Os Of' a ∨ Bo' a → Os Of a ∨ Bo a) → R σ H Of env Bo P d v → R σ' H Of' env' Bo' P d v
  non : ∀ {σ H Of env Bo}, R σ H Of env Bo (fun _ => False) .non .non
theorem rg_sh : RGood rSh := ⟨fun h r => ⟨r.1, r.2.mono (hid_mono fun a o e n => ⟨e, fun z => n (h a z)⟩)⟩, ⟨fun _ z => z, .non⟩⟩
theorem rg_ow (k : Nat) : RGood (rOw k) := ⟨fun {σ σ' H Of Of' env env' Bo Bo' P d v} h r => Ow.mono r (hid_mono fun a o e n => ⟨e, fun z => n (by
    rcases z with z | z | z
    · exact (h a (.inl z)).imp id .inl
    · exact (h a (.inr z)).imp id .inl
    · exact .inr (.inr z))⟩) fun _ _ _ q => q, by
  intro σ H Of env Bo
  cases k with
  | zero => exact .sh .non fun _ z => z
  | succ k => exact .at .non rfl fun _ z => z⟩
theorem keepIo_get : ∀ {pm : List Md} {e : Env} {i : Nat} {d : D}, (keepIo pm e)[i]? = some (some d) → e[i]? = some (some d) ∧ ∃ k, pm[i]? = some (.io k)
  | [], e, i, d, h => by simp [keepIo] at h
  | m :: r, [], i, d, h => by
    have h' : (none :: keepIo r [])[i]? = some (some d) := by cases m <;> exact h
    cases i with
    | zero => simp at h'
    | succ i => obtain ⟨z, _⟩ := keepIo_get (e := []) (by simpa using h'); simp at z
  | m :: r, o :: e, i, d, h => by
    cases m with
    | io k =>
      cases i with
      | zero => exact ⟨by simpa [keepIo] using h, k, rfl⟩
      | succ i =>
        obtain ⟨a, k', b⟩ := keepIo_get (pm := r) (e := e) (i := i) (d := d) (by simpa [keepIo] using h)
        exact ⟨by simpa using a, k', by simpa using b⟩
    | sh | bor | own k | exn b =>
      cases i with
      | zero => simp [keepIo] at h
      | succ i =>
        obtain ⟨a, k', b⟩ := keepIo_get (pm := r) (e := e) (i := i) (d := d) (by simpa [keepIo] using h)
        exact ⟨by simpa using a, k', by simpa using b⟩
theorem keepIo_io : ∀ {pm : List Md} {e : Env} {i k : Nat}, pm[i]? = some (.io k) → (keepIo pm e)[i]? = some ((e[i]?).join)
  | m :: r, [], i, k, h => by
    have h' : keepIo (m :: r) [] = none :: keepIo r [] := by cases m <;> rfl
    rw [h']
    cases i with
    | zero => rfl
    | succ i => simpa using keepIo_io (e := []) (by simpa using h)
  | m :: r, o :: e, i, k, h => by
    cases i with
    | zero =>
      have : m = .io k := by simpa using h
      subst this
      simp [keepIo]
    | succ i =>
      have h' : ∃ o', keepIo (m :: r) (o :: e) = o' :: keepIo r e := by cases m <;> exact ⟨_, rfl⟩
      obtain ⟨o', h'⟩ := h'
      rw [h']
      simpa using keepIo_io (e := e) (by simpa using h)
theorem keepIo_len : ∀ (pm : List Md) (e : Env), (keepIo pm e).length = pm.length
  | [], _ => rfl
  | m :: r, [] => by
    have h' : keepIo (m :: r) [] = none :: keepIo r [] := by cases m <;> rfl
    rw [h']; simp [keepIo_len r []]
  | m :: r, o :: e => by
    have h' : ∃ o', keepIo (m :: r) (o :: e) = o' :: keepIo r e := by cases m <;> exact ⟨_, rfl⟩
    obtain ⟨o', h'⟩ := h'
    rw [h']; simp [keepIo_len r e]
def isIo : Option Md → Prop
  | some (.io _) => True
  | _ => False
def keepOf (pm : List Md) (Of : Nat → Addr → Prop) : Nat → Addr → Prop := fun i a => isIo pm[i]? ∧ Of i a
section
variable {mg : Str → Option Value} {pm loc : List Md} {R : Rl D V} {b : M Fl} {vs : List V} {H : Hp} {Q : VK} {E : XK} {N : List Str}
theorem getElem_append_rep {α : Type} {xs : List α} {n i : Nat} {x : α} (h : (xs.map some ++ List.replicate n none)[i]? = some (some x)) : xs[i]? = some x := by
  by_cases hi : i < xs.length
  · rw [List.getElem?_append_left (by simpa using hi), List.getElem?_map] at h
    obtain ⟨y, h1, h2⟩ := Option.map_eq_some_iff.mp h
    cases h2; exact h1
  · rw [List.getElem?_append_right (by simpa using hi), List.getElem?_replicate] at h
    split at h <;> cases h
theorem map_some_get {α : Type} {xs : List α} {i : Nat} {x : α} (h : (xs.map some)[i]? = some (some x)) : xs[i]? = some x := by
  rw [List.getElem?_map] at h
  obtain ⟨y, h1, h2⟩ := Option.map_eq_some_iff.mp h
  cases h2; exact h1
theorem enter {n : Nat} (hR : RGood R) (hn : N.length = (pm ++ loc).length) (hl : n = (pm ++ loc).length) (h : spOf mg pm R (fnOf pm n b) vs H Q E) :
    ∃ Bo, rdS mg ⟨pm ++ loc, fun i => vs.getD i .non, fun c dd _ H => E c dd H, Bo, []⟩ R b { nx := fun _ H' => Q .non H', rt := Q } (L2.start N vs) H := by
  subst hl
  obtain ⟨Bo, Of, ds, S, h⟩ := h
  have hdl : ds.length = pm.length := by simpa [Cf.call] using S.len
  have hvl : vs.length = pm.length := by
    have a := S.slen
    have b := S.len
    simp [Cf.call] at a b
    omega
  have S0 : St ⟨pm ++ loc, fun i => vs.getD i .non, fun c dd _ H => E c dd H, Bo, []⟩ Bo H (L2.start N vs) (ds.map some ++ List.replicate ((pm ++ loc).length - ds.length) none) Of := by
    refine ⟨by simp; omega, by unfold L2.start; simp; simp at hn; omega, fun _ h => h, S.boIn, S.disB, S.sep, fun i d hd => ?_, fun i a ha => ?_, fun q hq => (List.not_mem_nil hq).elim⟩
    · have hd' := getElem_append_rep hd
      obtain ⟨v, m, h1, h2, r⟩ := S.slot i d (by simp [hd'])
      have hi : i < ds.length := (List.getElem?_eq_some_iff.mp hd').1
      refine ⟨v, m, ?_, ?_, r⟩
      · unfold L2.start
        rw [List.getElem?_append_left (by simp; omega)]
        exact h1
      · show (pm ++ loc)[i]? = some m
        rw [List.getElem?_append_left (by omega)]
        exact h2
    · obtain ⟨d, e⟩ := S.empt i a ha
      exact ⟨d, by rw [List.getElem?_append_left (by have := (List.getElem?_eq_some_iff.mp e).1; exact this)]; exact e⟩
  refine ⟨Bo, Bo, Of, _, S0, ?_⟩
  -- what the caller sees at the end
  have back : ∀ {σ' : L2.St} {H' : Hp} {env' : Env} {Of' : Nat → Addr → Prop} {Bo' : Addr → Prop}, (∀ a, Bo a → Bo' a) → St ⟨pm ++ loc, fun i => vs.getD i .non, fun c dd _ H => E c dd H, Bo, []⟩ Bo' H' σ' env' Of' → St (Cf.call pm vs Bo E) Bo' H' (vs.map some) (keepIo pm env') (keepOf pm Of') := by
    intro σ' H' env' Of' Bo' hb S'
    have oi : ∀ a, Os (keepOf pm Of') a → Os Of' a := fun a ⟨i, z⟩ => ⟨i, z.2⟩
    refine ⟨keepIo_len _ _, by rw [keepIo_len]; simpa using hvl, hb, S'.boIn, fun i a z => S'.disB i a z.2, fun i j a z w => S'.sep i j a z.2 w.2, fun i d hd => ?_, fun i a z => ?_, fun q hq => (List.not_mem_nil hq).elim⟩
    · obtain ⟨h1, k, h2⟩ := keepIo_get hd
      obtain ⟨v, m, g1, g2, r⟩ := S'.slot i d h1
      have hi : i < pm.length := (List.getElem?_eq_some_iff.mp h2).1
      have g2' : (pm ++ loc)[i]? = some m := g2
      rw [List.getElem?_append_left hi, h2] at g2'
      cases g2'
      have r' : Ow _ H' k v d (Of' i) ∧ v = vs.getD i .non := r
      have hv : (vs.map some)[i]? = some (some v) := by
        rw [r'.2]
        simp [show i < vs.length by omega]
      refine ⟨v, .io k, hv, h2, ?_, r'.2⟩
      have eO : keepOf pm Of' i = Of' i := funext fun a => propext ⟨fun z => z.2, fun z => ⟨by rw [h2]; trivial, z⟩⟩
      rw [eO]
      exact r'.1.mono (hid_mono fun a o e n => ⟨e, fun z => n (z.imp (oi a) id)⟩) fun _ _ _ q => q
    · obtain ⟨d, e⟩ := S'.empt i a z.2
      have z1 := z.1
      unfold isIo at z1
      split at z1
      · rename_i k q
        exact ⟨d, by rw [keepIo_io q, e]; rfl⟩
      · exact z1.elim
  have xb : ∀ {H' : Hp} {Of' : Nat → Addr → Prop}, Ext H (Os Of) H' (Os Of') → Ext H (Os Of) H' (Os (keepOf pm Of')) := fun {H' Of'} x => x.os fun a ⟨i, z⟩ => ⟨i, z.2⟩
  unfold At fnOf at h
  unfold AtS
  cases e : b (ds.map some ++ List.replicate ((pm ++ loc).length - ds.length) none) with
  | bad => rw [e] at h; exact h
  | exc x env' =>
    rw [e] at h
    exact fun σ' H' Of' c dd x1 S1 r1 => h H' _ c dd (xb x1) (back (fun _ z => z) S1) (by
      exact r1.mono (hid_mono fun a o e n => ⟨e, fun z => n (z.imp (fun ⟨i, z⟩ => ⟨i, z.2⟩) id)⟩))
  | ok r env' =>
    rw [e] at h
    cases r with
    | brk => exact h.elim
    | cnt => exact h.elim
    | nx => exact fun σ' H' Of' x1 S1 => h .non H' _ (fun _ => False) (xb x1) (back (fun a z => z) S1).bo (fun _ z => z.elim) hR.non
    | ret d => exact fun σ' v H' Of' P x1 S1 n1 r1 => h v H' _ P (xb x1) (back (fun a z => .inl z) S1) n1 (hR.mono (fun a z => z.imp (fun ⟨i, z⟩ => ⟨i, z.2⟩) id) r1)
end
/-- a def keeps its promise -/
theorem fn_ok {P : Program} {w : World} {K : PySem.W.Frag} {mg : Str → Option Value} {base : Heap} {x qual : Str} {params : Arguments} {body : List Stmt} {scope : Scope} {dvs : List V} {kws : List (Str × V)} {f : Addr} {fd : FuncData} {N ps : List Str} {k n : Nat} {pm loc : List Md} {R : Rl D V} {b : M Fl}
    (F : FunD K x qual params body scope dvs kws f fd) (S : FnScope N ps scope) (hR : RGood R) (hp : pm.length = ps.length) (hn : N.length = (pm ++ loc).length) (hl : n = (pm ++ loc).length)
    (hb : ∀ (cdv : Value) (A : Around) (outer : List PySem.Env) (s : Shared) (H : Hp) (E : XK) (v0 : Nat → V) (B0 : Addr → Prop), Room k (A.deeper (envOfC qual scope s.heap.objs.size f cdv)) →
      PSsx (cxOf (L2.CX P w) P w K mg base N qual scope f cdv A outer s H E) ⟨pm ++ loc, v0, fun c dd _ H => E c dd H, B0, []⟩ R body b) :
    FnOk P w K mg base (L2.CX P w) (k + 1) f fd ps (spOf mg pm R (fnOf pm n b)) := by
  refine FunD.ok F S (fun vs H Q E h => ?_) fun cdv A outer s H vs Q E hr h => ?_
  · obtain ⟨Bo, Of, ds, S, _⟩ := h
    have a := S.slen
    have b := S.len
    simp [Cf.call] at a b
    omega
  · obtain ⟨Bo, q⟩ := enter (N := N) hR hn hl h
    exact ⟨_, hb cdv A outer s H E _ _ hr, q⟩

/-! ### a call -/
def argsAt : List Ak → List D → Env → Option (List D)
  | [], [], _ => some []
  | .io j :: ks, _ :: ds, e => match e[j]? with
    | some (some d) => (argsAt ks ds e).map (d :: ·)
    | _ => none
  | .sh :: ks, d :: ds, e => (argsAt ks ds e).map (d :: ·)
  | .ln _ :: ks, d :: ds, e => (argsAt ks ds e).map (d :: ·)
  | _, _, _ => none
def backA : List Ak → Env → Env → Env
  | .io j :: ks, o :: es, e => (backA ks es e).set j o
  | _ :: ks, _ :: es, e => backA ks es e
  | _, _, e => e
def callM (fn : FnM) (ks : List Ak) (fr : M (List D)) : M D := bnd fr fun ds e => match argsAt ks ds e with
  | none => .bad
  | some as => match fn as with
    | .ok d es => .ok d (backA ks es e)
    | .exc x es => .exc x (backA ks es e)
    | .bad => .bad
def idxA : List Ak → Nat → Option Nat
  | [], _ => none
  | .io i :: ks, j => if i = j then some 0 else (idxA ks j).map (· + 1)
  | _ :: ks, j => (idxA ks j).map (· + 1)
theorem idxA_get : ∀ {ks : List Ak} {j i : Nat}, idxA ks j = some i → ks[i]? = some (.io j)
  | k :: ks, j, i, h => by
    have rec' : ∀ {i}, (idxA ks j).map (· + 1) = some i → (k :: ks)[i]? = some (.io j) := fun {i} h => by
      obtain ⟨i', h1, rfl⟩ := Option.map_eq_some_iff.mp h
      simpa using idxA_get h1
    cases k with
    | io l =>
      unfold idxA at h
      split at h
      · rename_i e
        cases h
        subst e
        rfl
      · exact rec' h
    | sh => exact rec' h
    | ln I => exact rec' h
/-- the argument kinds fit the caller's slots and the callee's parameters; no slot is handed on twice, or lent beside -/
def ksOk (Ms : List Md) : List Ak → List Md → Bool
  | [], [] => true
  | .sh :: ks, .sh :: pm => ksOk Ms ks pm
  | .ln _ :: ks, .bor :: pm => ksOk Ms ks pm
  | .io j :: ks, .io k :: pm => (match Ms[j]? with
    | some (.own k') => k' == k
    | some (.io k') => k' == k
    | _ => false) && ksOk Ms ks pm
  | _, _ => false
def ksSep (ks : List Ak) : Bool := (iosA ks).all (fun j => !(depsA ks).elem j) && decide (iosA ks).Nodup
theorem idxA_mem : ∀ {ks : List Ak} {i j : Nat}, ks[i]? = some (.io j) → j ∈ iosA ks
  | k :: ks, 0, j, h => by
    have : k = .io j := by simpa using h
    subst this
    exact List.mem_cons_self
  | k :: ks, i + 1, j, h => by
    have := idxA_mem (ks := ks) (i := i) (j := j) (by simpa using h)
    cases k with
    | io l => exact List.mem_cons_of_mem _ this
    | sh => exact this
    | ln I => exact this
theorem idxA_nd : ∀ {ks : List Ak} {i j : Nat}, (iosA ks).Nodup → ks[i]? = some (.io j) → idxA ks j = some i
  | k :: ks, 0, j, _, h => by
    have : k = .io j := by simpa using h
    subst this
    unfold idxA
    rw [if_pos rfl]
  | k :: ks, i + 1, j, hn, h => by
    have h' : ks[i]? = some (.io j) := by simpa using h
    cases k with
    | io l =>
      have hn' : (l :: iosA ks).Nodup := hn
      unfold idxA
      rw [if_neg (fun e : l = j => (List.nodup_cons.mp hn').1 (by rw [e]; exact idxA_mem h')), idxA_nd (ks := ks) (List.nodup_cons.mp hn').2 h']
      rfl
    | sh => unfold idxA; rw [idxA_nd (ks := ks) hn h']; rfl
    | ln I => unfold idxA; rw [idxA_nd (ks := ks) hn h']; rfl
theorem backA_len : ∀ (ks : List Ak) (es e : Env), (backA ks es e).length = e.length
  | [], es, e => by cases es <;> rfl
  | k :: ks, [], e => by cases k <;> rfl
  | k :: ks, o :: es, e => by
    cases k with
    | io l => unfold backA; rw [List.length_set, backA_len ks es e]
    | sh => exact backA_len ks es e
    | ln I => exact backA_len ks es e
theorem backA_get : ∀ {ks : List Ak} {es e : Env} {j : Nat}, es.length = ks.length → j < e.length → (backA ks es e)[j]? = match idxA ks j with
    | some i => es[i]?
    | none => e[j]?
  | [], [], e, j, _, _ => rfl
  | k :: ks, o :: es, e, j, hl, hj => by
    have ih := backA_get (ks := ks) (es := es) (e := e) (j := j) (by simpa using hl) hj
    have rec' : (backA ks es e)[j]? = match (idxA ks j).map (· + 1) with
      | some i => (o :: es)[i]?
      | none => e[j]? := by
      rw [ih]
      cases idxA ks j <;> simp
    cases k with
    | io l =>
      unfold backA idxA
      by_cases e' : l = j
      · subst e'
        rw [if_pos rfl, List.getElem?_set_self (by rw [backA_len]; exact hj)]
        rfl
      · rw [if_neg e', List.getElem?_set_ne e']
        exact rec'
    | sh => exact rec'
    | ln I => exact rec'
/-- what a callee is told of its arguments -/
theorem args_get {C : Cf} {Bo : Addr → Prop} {σ : L2.St} {H : Hp} {Of : Nat → Addr → Prop} {e : Env} : ∀ {ks : List Ak} {pm : List Md} {ds as : List D} {vs : List V}, ksOk C.Ms ks pm = true → ArOk Bo σ H Of ks ds vs → argsAt ks ds e = some as →
    as.length = pm.length ∧ vs.length = pm.length ∧ ks.length = pm.length ∧ ∀ (i : Nat) (d : D), as[i]? = some d → ∃ v m, vs[i]? = some v ∧ pm[i]? = some m ∧
      ((ks[i]? = some .sh ∧ m = .sh ∧ Rp (hid H fun a => Os Of a ∨ Bo a) v d) ∨ (∃ I, ks[i]? = some (.ln I) ∧ (∀ j ∈ I, j ∈ depsA ks) ∧ m = .bor ∧ Sm (hid H fun a => Os Of a ∨ Bo a) (hid H fun a => ∃ j, j ∉ I ∧ Of j a) v d) ∨
        ∃ j k, ks[i]? = some (.io j) ∧ m = .io k ∧ (C.Ms[j]? = some (.own k) ∨ C.Ms[j]? = some (.io k)) ∧ σ[j]? = some (some v) ∧ e[j]? = some (some d))
  | [], [], [], as, [], _, _, h3 => by
    cases h3
    exact ⟨rfl, rfl, rfl, fun i d h => by simp at h⟩
  | .sh :: ks, .sh :: pm, d :: ds, as, v :: vs, h1, h2, h3 => by
    obtain ⟨as', h4, rfl⟩ := Option.map_eq_some_iff.mp (show (argsAt ks ds e).map (d :: ·) = some as from h3)
    obtain ⟨q1, q2, q3, q4⟩ := args_get (ks := ks) (pm := pm) h1 h2.2 h4
    refine ⟨by simp [q1], by simp [q2], by simp [q3], fun i d' hd => ?_⟩
    cases i with
    | zero => cases hd; exact ⟨v, .sh, rfl, rfl, .inl ⟨rfl, rfl, h2.1⟩⟩
    | succ i => exact q4 i d' (by simpa using hd)
  | .ln I :: ks, .bor :: pm, d :: ds, as, v :: vs, h1, h2, h3 => by
    obtain ⟨as', h4, rfl⟩ := Option.map_eq_some_iff.mp (show (argsAt ks ds e).map (d :: ·) = some as from h3)
    obtain ⟨q1, q2, q3, q4⟩ := args_get (ks := ks) (pm := pm) h1 h2.2 h4
    refine ⟨by simp [q1], by simp [q2], by simp [q3], fun i d' hd => ?_⟩
    cases i with
    | zero => cases hd; exact ⟨v, .bor, rfl, rfl, .inr (.inl ⟨I, rfl, fun j hj => List.mem_append_left _ hj, rfl, h2.1⟩)⟩
    | succ i =>
      obtain ⟨v', m, g1, g2, g3⟩ := q4 i d' (by simpa using hd)
      refine ⟨v', m, by simpa using g1, by simpa using g2, ?_⟩
      rcases g3 with g | ⟨I', a1, a2, a3⟩ | g
      · exact .inl g
      · exact .inr (.inl ⟨I', by simpa using a1, fun j hj => List.mem_append_right _ (a2 j hj), a3⟩)
      · exact .inr (.inr g)
  | .io j :: ks, .io k :: pm, d :: ds, as, v :: vs, h1, h2, h3 => by
    have h3' : (match e[j]? with
      | some (some d) => (argsAt ks ds e).map (d :: ·)
      | _ => none) = some as := h3
    split at h3'
    · rename_i d0 hd0
      obtain ⟨as', h4, rfl⟩ := Option.map_eq_some_iff.mp h3'
      have h1' : ((match C.Ms[j]? with
        | some (.own k') => k' == k
        | some (.io k') => k' == k
        | _ => false) && ksOk C.Ms ks pm) = true := h1
      rw [Bool.and_eq_true] at h1'
      obtain ⟨q1, q2, q3, q4⟩ := args_get (ks := ks) (pm := pm) h1'.2 h2.2 h4
      refine ⟨by simp [q1], by simp [q2], by simp [q3], fun i d' hd => ?_⟩
      cases i with
      | zero =>
        cases hd
        refine ⟨v, .io k, rfl, rfl, .inr (.inr ⟨j, k, rfl, rfl, ?_, h2.1, hd0⟩)⟩
        have hm := h1'.1
        split at hm
        · rename_i k' q
          have : k' = k := by simpa using hm
          subst this; exact .inl q
        · rename_i k' q
          have : k' = k := by simpa using hm
          subst this; exact .inr q
        · cases hm
      | succ i => exact q4 i d' (by simpa using hd)
    · cases h3'

/-- the callee's part of the frame's own slots -/
def inOf (ks : List Ak) (Of : Nat → Addr → Prop) : Nat → Addr → Prop := fun i a => match ks[i]? with
  | some (.io j) => Of j a
  | _ => False
def outOf (ks : List Ak) (Oc Of : Nat → Addr → Prop) : Nat → Addr → Prop := fun j a => match idxA ks j with
  | some i => Oc i a
  | none => Of j a
theorem inOf_at {ks : List Ak} {Of : Nat → Addr → Prop} {i : Nat} {a : Addr} (h : inOf ks Of i a) : ∃ j, ks[i]? = some (.io j) ∧ Of j a := by
  unfold inOf at h
  split at h
  · exact ⟨_, by assumption, h⟩
  · exact h.elim
theorem inOf_io {ks : List Ak} {Of : Nat → Addr → Prop} {i j : Nat} (h : ks[i]? = some (.io j)) : inOf ks Of i = Of j := by
  funext a
  unfold inOf
  rw [h]
section
variable {mg : Str → Option Value} {C : Cf} {Bo P : Addr → Prop} {H H' : Hp} {σ : L2.St} {env es : Env} {Of Oc : Nat → Addr → Prop} {ks : List Ak} {pm : List Md} {ds as : List D} {vs : List V} {E : XK}
abbrev boC (Bo : Addr → Prop) (ks : List Ak) (Of : Nat → Addr → Prop) : Addr → Prop := fun a => (Bo a ∨ Os Of a) ∧ ¬ Os (inOf ks Of) a
theorem in_os {a : Addr} (h : Os (inOf ks Of) a) : Os Of a := let ⟨_, z⟩ := h; let ⟨j, _, q⟩ := inOf_at z; ⟨j, q⟩
theorem call_in (S : St C Bo H σ env Of) (hks : ksOk C.Ms ks pm = true) (hse : ksSep ks = true) (ha : ArOk Bo σ H Of ks ds vs) (hg : argsAt ks ds env = some as) : St (Cf.call pm vs (boC Bo ks Of) E) (boC Bo ks Of) H (vs.map some) (as.map some) (inOf ks Of) := by
  obtain ⟨q1, q2, q3, q4⟩ := args_get (C := C) hks ha hg
  rw [ksSep, Bool.and_eq_true] at hse
  have nd : (iosA ks).Nodup := by simpa using hse.2
  have eqF : ∀ a, (Os (inOf ks Of) a ∨ boC Bo ks Of a) ↔ (Os Of a ∨ Bo a) := fun a => ⟨fun z => by
    rcases z with z | z
    · exact .inl (in_os z)
    · exact z.1.elim .inr .inl, fun z => by
    by_cases n : Os (inOf ks Of) a
    · exact .inl n
    · exact .inr ⟨z.elim .inr .inl, n⟩⟩
  have sF : Sub (hid H fun a => Os Of a ∨ Bo a) (hid H fun a => Os (inOf ks Of) a ∨ boC Bo ks Of a) := hid_mono fun a o e n => ⟨e, fun z => n ((eqF a).1 z)⟩
  refine ⟨by simp [Cf.call, q1], by simp [q1, q2], fun _ h => h, fun a h => ?_, fun i a h z => z.2 ⟨i, h⟩, fun i j a h z => ?_, fun i d hd => ?_, fun i a h => ?_, fun q hq => (List.not_mem_nil hq).elim⟩
  · rcases h.1 with z | ⟨i, z⟩
    · exact S.boIn a z
    · exact S.there z
  · obtain ⟨l, e1, z1⟩ := inOf_at h
    obtain ⟨l', e2, z2⟩ := inOf_at z
    have := S.sep l l' a z1 z2
    subst this
    have a1 := idxA_nd nd e1
    rw [idxA_nd nd e2] at a1
    cases a1; rfl
  · have hd' := map_some_get hd
    obtain ⟨v, m, g1, g2, g3⟩ := q4 i d hd'
    refine ⟨v, m, by simp [g1], g2, ?_⟩
    rcases g3 with ⟨a1, rfl, r⟩ | ⟨I, a1, a2, rfl, r⟩ | ⟨j, k, a1, rfl, hm, hs, he⟩
    · refine ⟨r.mono sF, fun x z => ?_⟩
      obtain ⟨l, e1, _⟩ := inOf_at z
      rw [a1] at e1; cases e1
    · refine ⟨r.mono sF (hid_mono fun a o e n => ⟨e, fun z => ?_⟩), fun x z => ?_⟩
      · rcases z with ⟨l, z⟩ | z
        · obtain ⟨l', e1, z1⟩ := inOf_at z
          refine n ⟨l', fun hl => ?_, z1⟩
          have := List.all_eq_true.mp hse.1 l' (idxA_mem e1)
          simp at this
          exact this (a2 l' hl)
        · exact z.2 z.1
      · obtain ⟨l, e1, _⟩ := inOf_at z
        rw [a1] at e1; cases e1
    · obtain ⟨v', m', h1, h2, r⟩ := S.slot j d he
      rw [hs] at h1; cases h1
      have hv : v = vs.getD i .non := by simp [List.getD, g1]
      rw [inOf_io a1]
      rcases hm with hm | hm
      · rw [hm] at h2; cases h2
        exact ⟨Ow.mono r sF fun _ _ _ q => q, hv⟩
      · rw [hm] at h2; cases h2
        exact ⟨Ow.mono r.1 sF fun _ _ _ q => q, hv⟩
  · obtain ⟨l, e1, z⟩ := inOf_at h
    have hi : i < as.length := by
      rw [q1, ← q3]
      exact (List.getElem?_eq_some_iff.mp e1).1
    exact ⟨as[i], by simp [hi]⟩
theorem call_out (S : St C Bo H σ env Of) (hks : ksOk C.Ms ks pm = true) (hse : ksSep ks = true) (ha : ArOk Bo σ H Of ks ds vs) (hg : argsAt ks ds env = some as) (x : Ext H (Os (inOf ks Of)) H' (Os Oc)) (hP : ∀ a, P a → Os (inOf ks Of) a ∨ H a = none)
    (S2 : St (Cf.call pm vs (boC Bo ks Of) E) (fun a => boC Bo ks Of a ∨ P a) H' (vs.map some) es Oc) : St C (fun a => Bo a ∨ P a) H' σ (backA ks es env) (outOf ks Oc Of) ∧ Ext H (Os Of) H' (Os (outOf ks Oc Of)) ∧
      (∀ a, P a → Os Of a ∨ H a = none) ∧ (∀ a, Os (outOf ks Oc Of) a ∨ Bo a → Os Oc a ∨ boC Bo ks Of a) := by
  obtain ⟨q1, q2, q3, q4⟩ := args_get (C := C) hks ha hg
  rw [ksSep, Bool.and_eq_true] at hse
  have nd : (iosA ks).Nodup := by simpa using hse.2
  have el : es.length = ks.length := by have := S2.len; simp [Cf.call] at this; omega
  have nIn : ∀ {j a}, idxA ks j = none → Of j a → ¬ Os (inOf ks Of) a := fun {j a} hj h ⟨i, z⟩ => by
    obtain ⟨l, e1, z1⟩ := inOf_at z
    have := S.sep l j a z1 h
    subst this
    rw [idxA_nd nd e1] at hj
    cases hj
  have bIn : ∀ {a}, Bo a → ¬ Os (inOf ks Of) a := fun {a} h z => let ⟨j, q⟩ := in_os z; S.disB j a q h
  have there : ∀ {a}, Os Of a → ∃ o, H a = some o := fun {a} ⟨j, z⟩ => S.there z
  have oc : ∀ {a}, Os Oc a → Os (inOf ks Of) a ∨ H a = none := fun {a} z => x.own a z
  have os : ∀ {a}, Os (outOf ks Oc Of) a → Os Oc a ∨ (Os Of a ∧ ¬ Os (inOf ks Of) a) := fun {a} ⟨j, z⟩ => by
    unfold outOf at z
    split at z
    · exact .inl ⟨_, z⟩
    · exact .inr ⟨⟨j, z⟩, nIn (by assumption) z⟩
  have sub1 : ∀ a, Os (outOf ks Oc Of) a ∨ Bo a → Os Oc a ∨ boC Bo ks Of a := fun a z => by
    rcases z with z | z
    · rcases os z with z | z
      · exact .inl z
      · exact .inr ⟨.inr z.1, z.2⟩
    · exact .inr ⟨.inl z, bIn z⟩
  have pOf : ∀ {a}, P a → Os Of a ∨ H a = none := fun {a} p => (hP a p).imp in_os id
  have subX : Sub (hid H fun a => Os Of a ∨ Bo a) (hid H' fun a => Os (outOf ks Oc Of) a ∨ (Bo a ∨ P a)) := hid_mono fun a o e n => ⟨x.keep a o e fun z => n (.inl (in_os z)), fun z => by
    rcases z with z | z | z
    · rcases os z with z | z
      · rcases oc z with q | q
        · exact n (.inl (in_os q))
        · rw [q] at e; cases e
      · exact n (.inl z.1)
    · exact n (.inr z)
    · rcases pOf z with q | q
      · exact n (.inl q)
      · rw [q] at e; cases e⟩
  refine ⟨⟨?_, ?_, fun a h => .inl (S.b0 a h), fun a h => ?_, fun j a h z => ?_, fun j l a h z => ?_, fun j d h => ?_, fun j a h => ?_, fun q hq => (S.xd q hq).mono subX⟩, ⟨fun a o e n => x.keep a o e fun z => n (in_os z), fun a z => ?_⟩, fun a p => pOf p, sub1⟩
  · rw [backA_len]; exact S.len
  · rw [backA_len]; exact S.slen
  · rcases h with h | h
    · exact S2.boIn a (.inl ⟨.inl h, bIn h⟩)
    · exact S2.boIn a (.inr h)
  · unfold outOf at h
    split at h
    · refine S2.disB _ a h ?_
      rcases z with z | z
      · exact .inl ⟨.inl z, bIn z⟩
      · exact .inr z
    · rename_i hj
      rcases z with z | z
      · exact S.disB j a h z
      · rcases hP a z with q | q
        · exact nIn hj h q
        · obtain ⟨o, e⟩ := S.there h
          rw [q] at e; cases e
  · have mix : ∀ {j l i a}, idxA ks j = some i → idxA ks l = none → Oc i a → Of l a → False := fun {j l i a} h1 h2 h3 h4 => by
      rcases oc ⟨i, h3⟩ with q | q
      · exact nIn h2 h4 q
      · obtain ⟨o, e⟩ := S.there h4
        rw [q] at e; cases e
    unfold outOf at h z
    split at h
    · rename_i i hi
      split at z
      · rename_i i' hi'
        have := S2.sep i i' a h z
        subst this
        have a1 := idxA_get hi
        rw [idxA_get hi'] at a1
        cases a1; rfl
      · rename_i hl
        exact (mix hi hl h z).elim
    · rename_i hj
      split at z
      · rename_i i' hi'
        exact (mix hi' hj z h).elim
      · exact S.sep j l a h z
  · have hj : j < env.length := by
      have := (List.getElem?_eq_some_iff.mp h).1
      rw [backA_len] at this; exact this
    rw [backA_get el hj] at h
    split at h
    · rename_i i hi
      have hk := idxA_get hi
      have hil : i < as.length := by
        rw [q1, ← q3]
        exact (List.getElem?_eq_some_iff.mp hk).1
      obtain ⟨v, m, g1, g2, g3⟩ := q4 i as[i] (by simp [hil])
      rcases g3 with ⟨a1, _⟩ | ⟨I, a1, _⟩ | ⟨j', k, a1, rfl, hm, hs, he⟩
      · rw [hk] at a1; cases a1
      · rw [hk] at a1; cases a1
      · rw [hk] at a1; cases a1
        obtain ⟨w, m', h1, h2, r⟩ := S2.slot i d h
        have h2' : pm[i]? = some m' := h2
        rw [g2] at h2'; cases h2'
        have r' : Ow (hid H' fun a => Os Oc a ∨ (boC Bo ks Of a ∨ P a)) H' k w d (Oc i) ∧ w = vs.getD i .non := r
        have hw : w = v := by rw [r'.2]; simp [List.getD, g1]
        subst hw
        have eO : outOf ks Oc Of j = Oc i := by funext a; unfold outOf; rw [hi]
        have ow : Ow (hid H' fun a => Os (outOf ks Oc Of) a ∨ (Bo a ∨ P a)) H' k w d (Oc i) := r'.1.mono (hid_mono fun a o e n => ⟨e, fun z => n (by
          rcases z with z | z | z
          · rcases sub1 a (.inl z) with q | q
            · exact .inl q
            · exact .inr (.inl q)
          · exact .inr (.inl ⟨.inl z, bIn z⟩)
          · exact .inr (.inr z))⟩) fun _ _ _ q => q
        rw [eO]
        obtain ⟨v0, m0, z1, z2, r0⟩ := S.slot j _ he
        rw [hs] at z1; cases z1
        rcases hm with hm | hm
        · exact ⟨w, .own k, hs, hm, ow⟩
        · rw [hm] at z2; cases z2
          exact ⟨w, .io k, hs, hm, ow, r0.2⟩
    · rename_i hi
      obtain ⟨v, m, h1, h2, r⟩ := S.slot j d h
      have eO : outOf ks Oc Of j = Of j := by funext a; unfold outOf; rw [hi]
      refine ⟨v, m, h1, h2, ?_⟩
      rw [eO]
      have kp : ∀ a o, H a = some o → ¬ Os Of a → H' a = some o := fun a o e n => x.keep a o e fun z => n (in_os z)
      have no : ∀ a o, H a = some o → ¬ Os Of a → ¬ Os (outOf ks Oc Of) a ∧ ¬ P a := fun a o e n => ⟨fun z => by
        rcases os z with z | z
        · rcases oc z with q | q
          · exact n (in_os q)
          · rw [q] at e; cases e
        · exact n z.1, fun z => by
        rcases pOf z with q | q
        · exact n q
        · rw [q] at e; cases e⟩
      refine r.mono (hid_mono fun a o e n => ⟨kp a o e fun z => n (.inl z), fun z => ?_⟩) (hid_mono fun a o e n => ⟨kp a o e fun z => n (.inl z), fun z => ?_⟩) fun a o p e => x.keep a o e (nIn hi p)
      · have := no a o e fun z => n (.inl z)
        rcases z with z | z | z
        · exact this.1 z
        · exact n (.inr z)
        · exact this.2 z
      · have := no a o e fun z => n (.inl z)
        rcases z with z | ⟨z | z, w⟩
        · exact this.1 z
        · exact n (.inr ⟨z, w⟩)
        · exact this.2 z
  · have key : ∀ {i}, idxA ks j = some i → Oc i a → ∃ d, (backA ks es env)[j]? = some (some d) := fun {i} hi h => by
      obtain ⟨d, e⟩ := S2.empt i a h
      have hk := idxA_get hi
      have hil : i < as.length := by
        rw [q1, ← q3]
        exact (List.getElem?_eq_some_iff.mp hk).1
      obtain ⟨v, m, g1, g2, g3⟩ := q4 i as[i] (by simp [hil])
      rcases g3 with ⟨a1, _⟩ | ⟨I, a1, _⟩ | ⟨j', k, a1, rfl, hm, hs, he⟩
      · rw [hk] at a1; cases a1
      · rw [hk] at a1; cases a1
      · rw [hk] at a1; cases a1
        refine ⟨d, ?_⟩
        rw [backA_get el (List.getElem?_eq_some_iff.mp he).1, hi]
        exact e
    unfold outOf at h
    split at h
    · rename_i i hi
      exact key hi h
    · rename_i hi
      obtain ⟨d, e⟩ := S.empt j a h
      exact ⟨d, by rw [backA_get el (List.getElem?_eq_some_iff.mp e).1, hi]; exact e⟩
  · rcases os z with z | z
    · exact (oc z).imp in_os id
    · exact .inl z.1
end
section
variable {X : Cx} {C : Cf} {R : Rl D V} {k : Nat} {f : Addr} {fd : FuncData} {ps : List Str} {fn : FnM} {pm : List Md} {ks : List Ak} {e : Expr} {es : List Expr} {fr : M (List D)} {x : Str} {p pos : Pos}
theorem call_key (hR : RGood R) (hks : ksOk C.Ms ks pm = true) (hse : ksSep ks = true) {σ : L2.St} {H : Hp} {Q : VK} (h : rdG X.mg C R (callM fn ks fr) σ H Q) : rdG X.mg C (rArs C ks) fr σ H fun vs H1 => spOf X.mg pm R fn vs H1 Q (WE C.W σ) := by
  obtain ⟨Bo, Of, env, S, h⟩ := h
  refine ⟨Bo, Of, env, S, At.bnd0 h ars_noP fun ds vs H1 Of1 env1 _ x1 S1 r1 h1 => ?_⟩
  have ha := r1.2 Bo H1 Of1 env1 BoX.refl Ext.refl S1 fun _ _ => rfl
  unfold At at h1
  dsimp only at h1
  cases hg : argsAt ks ds env1 with
  | none => rw [hg] at h1; exact h1.elim
  | some as =>
    rw [hg] at h1
    dsimp only at h1
    refine ⟨boC Bo ks Of1, inOf ks Of1, as, call_in S1 hks hse ha hg, ?_⟩
    unfold At
    cases hf : fn as with
    | bad => rw [hf] at h1; exact h1
    | ok d es =>
      rw [hf] at h1
      intro v H2 Oc P x2 S2 n2 r2
      obtain ⟨S3, x3, n3, sb⟩ := call_out S1 hks hse ha hg x2 n2 S2
      exact h1 v H2 _ P x3 S3 n3 (hR.mono sb r2)
    | exc xx es =>
      rw [hf] at h1
      intro H2 Oc c dd x2 S2 r2
      obtain ⟨S3, x3, n3, sb⟩ := call_out S1 hks hse ha hg (P := fun _ => False) x2 (fun _ z => z.elim) S2.bo
      exact h1 H2 _ c dd x3 (S3.boEq fun a => ⟨fun z => z.elim id False.elim, .inl⟩) (r2.mono (hid_mono fun a o e n => ⟨e, fun z => n (sb a z)⟩))
theorem pe_fn (hR : RGood R) (F : FnOk X.prog X.w X.K X.mg X.base (L2.CX X.prog X.w) k f fd ps (spOf X.mg pm R fn)) (hr : Room k X.A) (hm : X.mg x = some (.ref f)) (hk : PySem.W.keepIn X.K (.ref f) = true) (hb : Binds X.K fd ps []) (tk : Takes X C.W)
    (ha : PArs X C ks (e :: es) fr) (hg : Gl X x := by rfl) (hks : ksOk C.Ms ks pm = true := by rfl) (hse : ksSep ks = true := by rfl) (hdb : (x == ("__debug__" : Str)) = false := by decide) (he : starEach (e :: es) X.env = (false, eval e X.env) :: starEach es X.env := by rfl) (hpl : (backTo pos (starEach es X.env)).any (·.1) = false := by rfl) :
    PE X (.Call (.Name x p) (e :: es) [] pos) (rdG X.mg C R (callM fn ks fr)) :=
  pe_imp (pe_callS (E := fun σ => WE C.W σ) F hr hg hm hk hb (fun σ => passAt tk σ) ha hdb he hpl) fun σ H Q h => call_key hR hks hse h
end
end Pf
/-! F14: chains, membership, slices, displays with stars, joined lists; further statements. -/
namespace Pf
open PySem PySem.Spec PyProof.Rows L2

/-! ### comparisons in a row -/
section
variable {X : Cx} {C : Cf} {Ta Tb Tc : Tk} {I J L : List Nat} {a b c : Expr} {fa fb fc : M D} {pos : Pos} {g g' : D → D → Option D} {op op' : CmpOp} {r r' : R2}
theorem chain_key {mg : Str → Option Value} {ta tb tc : TE} {σ : L2.St} {H : Hp} {Q : VK} (hd : OpD mg C Ta Tb r g) (hd' : OpD mg C Tb Tc r' g') (kp : Kps I fb) (kp2 : Kps J fc) (ea : ∀ σ H Q, rdG mg C (rT C Ta I) fa σ H Q → ta σ H Q) (eb : ∀ σ H Q, rdG mg C (rT C Tb J) fb σ H Q → tb σ H Q)
    (ec : ∀ σ H Q, rdG mg C (rT C Tc L) fc σ H Q → tc σ H Q) (h : rdG mg C rSh (chM fa fb fc g g') σ H Q) : tChain r r' ta tb tc σ H Q := by
  obtain ⟨Bo, Of, env, S, h⟩ := h
  refine ea _ _ _ ⟨Bo, Of, env, S, At.bnd0 h rT_noP fun dx x H1 Of1 env1 e x1 S1 r1 h1 => ?_⟩
  refine eb _ _ _ ⟨Bo, Of1, env1, S1, At.bnd0 h1 rT_noP fun dy y H2 Of2 env2 e2 x2 S2 r2 h2 => ?_⟩
  have q1 := r1.2 Bo σ H2 Of2 env2 BoX.refl x2 S2 fun i hi => ⟨kp i hi _ _ _ e2, rfl⟩
  have q2 := r2.2 Bo σ H2 Of2 env2 BoX.refl Ext.refl S2 fun _ _ => ⟨rfl, rfl⟩
  refine hd Bo Of2 H2 σ env2 x y dx dy _ S2 q1 q2 (At.bnd0 h2 sh_noP fun dz z H3 Of3 env3 e3 x3 S3 r3 h3 => ?_)
  cases dz with
  | bl k =>
    obtain rfl := r3.2.bl'
    refine ⟨k, rfl, ?_⟩
    have e3' : env3 = env2 := by
      cases hg : g dx dy with
      | none => rw [hg, lift_none] at e3; cases e3
      | some d => rw [hg, lift_some] at e3; cases e3; rfl
    subst e3'
    cases k with
    | true =>
      rw [if_pos rfl]
      refine ec _ _ _ ⟨Bo, Of3, env3, S3, At.bnd0 h3 rT_noP fun dw w H4 Of4 env4 e4 x4 S4 r4 h4 => ?_⟩
      have q2' := r2.2 Bo σ H4 Of4 env4 BoX.refl (x3.trans x4) S4 fun i hi => ⟨kp2 i hi _ _ _ e4, rfl⟩
      exact hd' Bo Of4 H4 σ env4 y w dy dw Q S4 q2' (r4.2 Bo σ H4 Of4 env4 BoX.refl Ext.refl S4 fun _ _ => ⟨rfl, rfl⟩) h4
    | false =>
      rw [if_neg Bool.false_ne_true]
      exact h3.ret_ok S3 ⟨fun _ z => z, .bl _⟩
  | _ => exact (show False from h3).elim
theorem sh_chain (ho : OpR X (compareOp op) r) (ho' : OpR X (compareOp op') r') (hd : OpD X.mg C Ta Tb r g) (hd' : OpD X.mg C Tb Tc r' g') (ha : POp X C Ta I a fa) (hb : POp X C Tb J b fb) (hc : POp X C Tc L c fc) (kp : Kps I fb := by exact kps_nil) (kp2 : Kps J fc := by exact kps_nil)
    (hm : lastMarks [op, op'] [b, c] = false := by with_unfolding_all rfl) : PSh X C (.Compare a [op, op'] [b, c] pos) (chM fa fb fc g g') :=
  pe_imp (pe_chain ho ho' ha hb hc hm) fun σ H Q h => chain_key hd hd' kp kp2 (fun _ _ _ q => q) (fun _ _ _ q => q) (fun _ _ _ q => q) h
theorem bl_chain (ho : OpR X (compareOp op) r) (ho' : OpR X (compareOp op') r') (hd : OpD X.mg C Ta Tb r g) (hd' : OpD X.mg C Tb Tc r' g') (ha : POp X C Ta I a fa) (hb : POp X C Tb J b fb) (hc : POp X C Tc L c fc) (kp : Kps I fb := by exact kps_nil) (kp2 : Kps J fc := by exact kps_nil)
    (hm : lastMarks [op, op'] [b, c] = false := by with_unfolding_all rfl) : PBl X C (.Compare a [op, op'] [b, c] pos) (tb (chM fa fb fc g g')) :=
  pt_imp (pt_chain ho ho' ha hb hc hm) fun σ H Q ⟨Bo, Of, env, S, h⟩ => chain_key hd hd' kp kp2 (fun _ _ _ q => q) (fun _ _ _ q => q) (fun _ _ _ q => q) ⟨Bo, Of, env, S, h.tb⟩
end

/-! ### in, not in -/
def flatD : D → Bool
  | .non => true
  | .bl _ => true
  | .int _ => true
  | .str _ => true
  | _ => false
def eqfD : D → D → Bool
  | .non, .non => true
  | .bl a, .bl b => a == b
  | .bl a, .int b => (if a then 1 else 0) == b
  | .int a, .bl b => a == (if b then 1 else 0)
  | .int a, .int b => a == b
  | .str a, .str b => a == b
  | _, _ => false
theorem flat_v {F : Hp} {v : V} {d : D} (h : Rp F v d) (f : flatD d = true) : flatV v = true := by
  cases h <;> first | rfl | (cases f; done)
theorem eq_v {F F' : Hp} {v w : V} {d e : D} (h : Rp F v d) (h' : Rp F' w e) (f : flatD d = true) (f' : flatD e = true) : eqV v w = eqfD d e := by
  cases h <;> first | (cases f; done) | (cases h' <;> first | (cases f'; done) | rfl)
def inD (x y : D) : Option Bool := match y with
  | .lst ys => if okD x = true ∧ okD (.lst ys) = true then some (ys.any fun z => eqvD z x) else none
  | .scr ys => if okD x = true ∧ okD (.lst ys) = true then some (ys.any fun z => eqvD z x) else none
  | .tup ys => if flatD x = true ∧ ys.all flatD = true then some (ys.any fun z => eqfD z x) else none
  | _ => none
def memD (x y : D) : Option D := (inD x y).map .bl
def nmemD (x y : D) : Option D := (inD x y).map fun b => .bl (!b)
theorem any_toPys (x : D) : ∀ ys : List D, ((toPys ys).any fun z => PyData.eqv z (toPy x)) = ys.any fun z => eqvD z x
  | [] => rfl
  | y :: ys => by simp only [toPys, List.any_cons, any_toPys x ys]; rfl
theorem any_flat {F F' : Hp} {x : V} {dx : D} (hx : Rp F x dx) (fx : flatD dx = true) : ∀ {vs : List V} {ds : List D}, Rps (Rp F') vs ds → ds.all flatD = true → inV x vs = ds.any (fun z => eqfD z dx) ∧ vs.all flatV = true
  | [], [], _, _ => ⟨rfl, rfl⟩
  | [], _ :: _, h, _ => nomatch h.1
  | _ :: _, [], h, _ => nomatch h.1
  | v :: vs, d :: ds, h, f => by
    rw [List.all_cons, Bool.and_eq_true] at f
    obtain ⟨i1, i2⟩ := any_flat hx fx h.tail f.2
    refine ⟨?_, by rw [List.all_cons, i2, flat_v h.head f.1]; rfl⟩
    have : inV x (v :: vs) = (eqV v x || inV x vs) := rfl
    rw [this, List.any_cons, i1, eq_v h.head hx f.1 fx]
section
variable {X : Cx} {C : Cf} {I J : List Nat} {a b : Expr} {fa fb : M D} {pos : Pos}
theorem in_key {K : PySem.W.Frag} {neg : Bool} {x y : V} {dx dy : D} {H : Hp} {t : Bool} (hx : Rp H x dx) (hy : Rp H y dy) (e : inD dx dy = some t) :
    (∃ d ds, Dp K H x d ∧ Dp K H y (.list ds) ∧ SeqAt.shaped d = true ∧ SeqAt.shaped (.list ds) = true ∧ (ds.any fun z => PyData.eqv z d) = t) ∨ (∃ p xs, y = .ref p ∧ (SqL K H p xs ∨ SqT K H p xs) ∧ flatV x = true ∧ xs.all flatV = true ∧ inV x xs = t) := by
  have lay : ∀ {d : D}, okD d = true → PyData.canLay0 (toPy d) = true := fun {d} h => by
    exact SeqAt.canLay_of_shaped h
  unfold inD at e
  split at e
  · split at e
    · rename_i h
      cases e
      exact .inl ⟨_, _, hx.dp (lay h.1), hy.dp (lay h.2), h.1, h.2, any_toPys _ _⟩
    · cases e
  · split at e
    · rename_i h
      cases e
      exact .inl ⟨_, _, hx.dp (lay h.1), hy.dp (d := .scr _) (lay (d := .lst _) h.2), h.1, h.2, any_toPys _ _⟩
    · cases e
  · split at e
    · rename_i h
      cases e
      cases hy with
      | @tup p ws _ h1 h2 h3 =>
        obtain ⟨i1, i2⟩ := any_flat hx h.1 (show Rps (Rp H) ws _ from ⟨h2, h3⟩) h.2
        exact .inr ⟨p, ws, rfl, .inr (.inl (.inl h1)), flat_v hx h.1, i2, i1⟩
    · cases e
  · cases e
theorem opd_in {mg : Str → Option Value} {K : PySem.W.Frag} : OpD mg C tRd tRd (fun x y H Q => rInD K x y H Q ∨ rIn K false x y H Q) memD := opd_atom fun F G x y dx dy d s ha hb e => by
  obtain ⟨t, e1, rfl⟩ := Option.map_eq_some_iff.mp e
  rcases in_key (K := K) (neg := false) ha hb e1 with ⟨d1, ds, h1, h2, h3, h4, h5⟩ | ⟨p, xs, h1, h2, h3, h4, h5⟩
  · exact ⟨.bl t, fun _ => .bl _, fun Q q => .inl ⟨d1, ds, h1, h2, h3, h4, by rw [h5]; exact q⟩⟩
  · exact ⟨.bl t, fun _ => .bl _, fun Q q => .inr ⟨p, xs, h1, h2, h3, h4, by rw [h5]; exact q⟩⟩
theorem opd_notin {mg : Str → Option Value} {K : PySem.W.Frag} : OpD mg C tRd tRd (fun x y H Q => rNotInD K x y H Q ∨ rIn K true x y H Q) nmemD := opd_atom fun F G x y dx dy d s ha hb e => by
  obtain ⟨t, e1, rfl⟩ := Option.map_eq_some_iff.mp e
  rcases in_key (K := K) (neg := false) ha hb e1 with ⟨d1, ds, h1, h2, h3, h4, h5⟩ | ⟨p, xs, h1, h2, h3, h4, h5⟩
  · exact ⟨.bl (!t), fun _ => .bl _, fun Q q => .inl ⟨d1, ds, h1, h2, h3, h4, by rw [h5]; exact q⟩⟩
  · exact ⟨.bl (!t), fun _ => .bl _, fun Q q => .inr ⟨p, xs, h1, h2, h3, h4, by rw [h5]; exact q⟩⟩
theorem sh_in (hu : X.A.units + 65 < cLine) (ha : PRd X C I a fa) (hb : PRd X C J b fb) (kp : Kps I fb := by exact kps_nil) (hm : behindInMarks .In b = false := by rfl) : PSh X C (.Compare a [.In] [b] pos) (op2 memD fa fb) := sh_cmp ((op_inD hu).or op_in_seq) opd_in ha.op hb.op hm kp
theorem bl_in (hu : X.A.units + 65 < cLine) (ha : PRd X C I a fa) (hb : PRd X C J b fb) (kp : Kps I fb := by exact kps_nil) (hm : behindInMarks .In b = false := by rfl) : PBl X C (.Compare a [.In] [b] pos) (tb (op2 memD fa fb)) := bl_cmp ((op_inD hu).or op_in_seq) opd_in ha.op hb.op hm kp
theorem sh_nin (hu : X.A.units + 65 < cLine) (ha : PRd X C I a fa) (hb : PRd X C J b fb) (kp : Kps I fb := by exact kps_nil) (hm : behindInMarks .NotIn b = false := by rfl) : PSh X C (.Compare a [.NotIn] [b] pos) (op2 nmemD fa fb) := sh_cmp ((op_notInD hu).or op_notIn_seq) opd_notin ha.op hb.op hm kp
theorem bl_nin (hu : X.A.units + 65 < cLine) (ha : PRd X C I a fa) (hb : PRd X C J b fb) (kp : Kps I fb := by exact kps_nil) (hm : behindInMarks .NotIn b = false := by rfl) : PBl X C (.Compare a [.NotIn] [b] pos) (tb (op2 nmemD fa fb)) := bl_cmp ((op_notInD hu).or op_notIn_seq) opd_notin ha.op hb.op hm kp
end

/-! ### slices -/
def rOpt : Rl (Option Int) (Option Int) := fun _ _ _ _ _ P a b => (∀ x, ¬ P x) ∧ b = a
abbrev PBd (X : Cx) (C : Cf) (e : Option Expr) (f : M (Option Int)) : Prop := PO X e (rdG X.mg C rOpt f)
theorem opt_noP : ∀ (σ : L2.St) (H' : Hp) (Of' : Nat → Addr → Prop) (env' : Env) (Bo P : Addr → Prop) (a b : Option Int), rOpt σ H' Of' env' Bo P a b → ∀ x, ¬ P x := fun _ _ _ _ _ _ _ _ h => h.1
def oneI : D → Option (Option Int)
  | .int i => some (some i)
  | _ => none
def bdM (f : M D) : M (Option Int) := bnd f fun d => lift (oneI d)
def slM (g : D → Option Int → Option Int → Option D) (a : M D) (l u : M (Option Int)) : M D := bnd a fun x => bnd l fun i => bnd u fun j => lift (g x i j)
def cutD (xs : List D) (lo hi : Option Int) : List D := (xs.drop (HT.sIx xs.length 0 lo)).take (HT.sIx xs.length xs.length hi - HT.sIx xs.length 0 lo)
def slTD : D → Option Int → Option Int → Option D
  | .tup xs, lo, hi => some (.tup (cutD xs lo hi))
  | _, _, _ => none
def slLD : D → Option Int → Option Int → Option D
  | .lst xs, lo, hi => some (.lst (cutD xs lo hi))
  | .scr xs, lo, hi => some (.lst (cutD xs lo hi))
  | _, _, _ => none
theorem po_imp {X : Cx} {e : Option Expr} {t t' : TO} (h : PO X e t) (i : ∀ σ H Q, t' σ H Q → t σ H Q) : PO X e t' := ⟨fun pins s σ H Q I q => h.run pins s σ H Q I (i σ H Q q)⟩
theorem cut_rps {R : V → D → Prop} {vs : List V} {ds : List D} (h : Rps R vs ds) (lo hi : Option Int) : Rps R (cutV vs lo hi) (cutD ds lo hi) := by
  unfold cutV cutD
  rw [h.1]
  exact (h.drop _).take _
theorem cutD_whole {ds : List D} {lo hi : Option Int} (h : HT.sIx ds.length 0 lo = 0 ∧ HT.sIx ds.length ds.length hi = ds.length) : cutD ds lo hi = ds := by
  unfold cutD
  rw [h.1, h.2]
  simp
section
variable {X : Cx} {C : Cf} {I : List Nat} {a : Expr} {fa : M D} {lo hi : Option Expr} {fl fu : M (Option Int)} {e : Expr} {f : M D} {pos p2 : Pos}
theorem bd_none : PBd X C none (ret none) := po_imp po_none fun σ H Q ⟨Bo, Of, env, S, h⟩ => h.ret_ok S ⟨fun _ z => z, rfl⟩
theorem bd_some {J : List Nat} (h : PRd X C J e f) : PBd X C (some e) (bdM f) := po_imp (po_some h) fun σ H Q h => rd_one (T := tRd) h fun x H2 dx Bo Of2 env2 S2 r h2 => by
  obtain ⟨i, e1, q⟩ := h2.lift_ok S2
  cases dx with
  | int n =>
    cases e1
    cases r.int'
    exact ⟨n, rfl, q _ H2 Of2 (fun _ => False) Ext.refl S2.bo (fun _ z => z.elim) ⟨fun _ z => z, rfl⟩⟩
  | _ => cases e1
theorem sl_key {mg : Str → Option Value} {R : Rl D V} {g : D → Option Int → Option Int → Option D} {r : V → Option Int → Option Int → Hp → VK → Prop} {σ : L2.St} {H : Hp} {Q : VK} (kl : Kps I fl) (ku : Kps I fu) (h : rdG mg C R (slM g fa fl fu) σ H Q)
    (hk : ∀ Bo Of H env x d i j, St C Bo H σ env Of → Sm (hid H fun a => Os Of a ∨ Bo a) H x d → At mg C R (lift (g d i j)) Bo Of H σ env Q → r x i j H Q) : tSl r (rdG mg C (rSm C I) fa) (rdG mg C rOpt fl) (rdG mg C rOpt fu) σ H Q := by
  obtain ⟨Bo, Of, env, S, h⟩ := h
  refine ⟨Bo, Of, env, S, At.bnd0 h sm_noP fun d x H1 Of1 env1 _ x1 S1 r1 h1 => ?_⟩
  refine ⟨Bo, Of1, env1, S1, At.bnd0 h1 opt_noP fun i i' H2 Of2 env2 e2 x2 S2 r2 h2 => ?_⟩
  refine ⟨Bo, Of2, env2, S2, At.bnd0 h2 opt_noP fun j j' H3 Of3 env3 e3 x3 S3 r3 h3 => ?_⟩
  obtain rfl := r2.2
  obtain rfl := r3.2
  have q := r1.2 Bo σ H3 Of3 env3 BoX.refl (x2.trans x3) S3 fun l hl => ⟨(ku l hl _ _ _ e3).trans (kl l hl _ _ _ e2), rfl⟩
  exact hk Bo Of3 H3 env3 x d _ _ S3 (q.mono (Sub.refl _) (hid_sub _ _)) h3
theorem sh_slT (ha : PSm X C I a fa) (hl : PBd X C lo fl) (hh : PBd X C hi fu) (kl : Kps I fl := by exact kps_nil) (ku : Kps I fu := by exact kps_nil) : PSh X C (.Subscript a (.Slice lo hi none p2) pos) (slM slTD fa fl fu) :=
  pe_imp (pe_slice sl_tupA ha hl hh) fun σ H Q h => sl_key kl ku h fun Bo Of H env x d i j S r h => by
    obtain ⟨d', e, _⟩ := h.lift_ok S
    unfold slTD at e
    split at e
    · rename_i xs
      obtain ⟨p, vs, rfl, h1, h2⟩ := Sm.tup r (hid_sub _ _)
      refine ⟨p, vs, rfl, .inl (.inl h1), fun hw => ?_, fun hw => ?_⟩
      · refine h.lift_sh S fun d e => ?_
        have e' : d = .tup (cutD xs i j) := by cases e; rfl
        subst e'
        rw [h2.1] at hw
        rw [cutD_whole hw]
        rcases r with r | ⟨_, _, _, _, e, _⟩ | ⟨_, _, _, _, e, _⟩
        · exact r
        · cases e
        · cases e
      · exact h.newTup S rfl (cut_rps h2 i j)
    · cases e
theorem ow_slL (ha : PSm X C I a fa) (hl : PBd X C lo fl) (hh : PBd X C hi fu) (kl : Kps I fl := by exact kps_nil) (ku : Kps I fu := by exact kps_nil) : POw X C 1 (.Subscript a (.Slice lo hi none p2) pos) (slM slLD fa fl fu) :=
  pe_imp (pe_slice sl_list ha hl hh) fun σ H Q h => sl_key kl ku h fun Bo Of H env x d i j S r h => by
    obtain ⟨d', e, _⟩ := h.lift_ok S
    unfold slLD at e
    split at e
    · rename_i xs
      obtain ⟨p, vs, rfl, h1, h2⟩ := Sm.lst r (hid_sub _ _)
      exact ⟨p, vs, rfl, .inl (.inl h1), h.ownLst S rfl (cut_rps h2 i j)⟩
    · rename_i xs
      obtain ⟨p, o, vs, rfl, h1, h2⟩ := Sm.scr r (hid_sub _ _)
      exact ⟨p, vs, rfl, .inl (.inr ⟨o, h1⟩), h.ownLst S rfl (cut_rps h2 i j)⟩
    · cases e
end

/-! ### displays with stars -/
def starM (f : M D) (fr : M (List D)) : M (List D) := bnd f fun d => match seqD d with
  | some xs => bnd fr fun ys => ret (xs ++ ys)
  | none => fun _ => .bad
section
variable {X : Cx} {C : Cf} {I : List Nat} {e : Expr} {es : List Expr} {f : M D} {fr : M (List D)} {p : Pos}
theorem shs_star (he : PSm X C I e f) (hr : PShs X C es fr) (hs : starEach (.Starred e p :: es) X.env = (true, eval e X.env) :: starEach es X.env := by rfl) : PShs X C (.Starred e p :: es) (starM f fr) :=
  pa_imp (StX.pa_star he hr hs) fun σ H Q ⟨Bo, Of, env, S, h⟩ => ⟨Bo, Of, env, S, At.bnd0 h sm_noP fun d x H1 Of1 env1 _ x1 S1 r1 h1 => by
    have r := (r1.2 Bo σ H1 Of1 env1 BoX.refl Ext.refl S1 fun _ _ => ⟨rfl, rfl⟩).mono (Sub.refl _) (hid_sub _ _)
    cases q : seqD d with
    | none => rw [q] at h1; exact (show False from h1).elim
    | some xs =>
      obtain ⟨a, vs, rfl, hq, hv⟩ := Sm.seqK r (hid_sub _ _) q
      rw [q] at h1
      refine ⟨a, vs, rfl, ?_, ⟨Bo, Of1, env1, S1, At.bnd0 h1 shs_noP fun ys ws H2 Of2 env2 _ x2 S2 r2 h2 => ?_⟩⟩
      · cases hk : knd d with
        | l => rw [hk] at hq; exact .inr (sqk_l hq)
        | t => rw [hk] at hq; exact .inl (sqk_t hq)
      · exact h2.ret_ok S2 ⟨fun _ z => z, (hv.mono fun _ _ z => z.mono (x2.hid _)).append r2.2⟩⟩
end
end Pf
/-! F15: values in a row, own ones among them; parallel stores; further stores; keywords. -/
namespace Pf
open PySem PySem.Spec PyProof.Rows L2

section
variable {mg : Str → Option Value} {C : Cf} {Bo : Addr → Prop} {Of : Nat → Addr → Prop} {H : Hp} {σ : L2.St} {env : Env}
/-- less is hidden -/
theorem St.less {P : Addr → Prop} (S : St C (fun x => Bo x ∨ P x) H σ env Of) (b0 : ∀ a, C.B0 a → Bo a) : St C Bo H σ env Of := by
  refine ⟨S.len, S.slen, b0, fun a h => S.boIn a (.inl h), fun i a h z => S.disB i a h (.inl z), S.sep, fun i d h => ?_, S.empt, fun q hq => (S.xd q hq).mono (hid_mono fun a o h n => ⟨h, fun z => n (z.elim .inl fun z => .inr (.inl z))⟩)⟩
  obtain ⟨v, m, h1, h2, r⟩ := S.slot i d h
  exact ⟨v, m, h1, h2, r.mono (hid_mono fun a o h n => ⟨h, fun z => n (z.elim .inl fun z => .inr (.inl z))⟩) (hid_mono fun a o h n => ⟨h, fun z => n (z.imp id fun z => ⟨.inl z.1, z.2⟩)⟩) fun _ _ _ q => q⟩
/-- the first part of a sequence: its result's addresses are held meanwhile -/
theorem At.bnd1 {α β γ δ : Type} {R : Rl α β} {R2 : Rl γ δ} {f : M α} {k : α → M γ} {Q : δ → Hp → Prop} {G : β → Hp → Prop} (S : St C Bo H σ env Of) (h : At mg C R2 (bnd f k) Bo Of H σ env Q)
    (hk : ∀ a b H1 Of1 env1 P1, f env = .ok a env1 → Ext H (Os Of) H1 (Os Of1) → St C (fun x => Bo x ∨ P1 x) H1 σ env1 Of1 → (∀ x, P1 x → ¬ Bo x) → (∀ x, P1 x → Os Of x ∨ H x = none) → R σ H1 Of1 env1 Bo P1 a b →
      At mg C (fun σ H' Of' env' _ P a b => R2 σ H' Of' env' Bo (fun x => P1 x ∨ P x) a b) (k a) (fun x => Bo x ∨ P1 x) Of1 H1 σ env1 Q → G b H1) : At mg C R f Bo Of H σ env G := by
  unfold At at h ⊢
  rw [bnd_at] at h
  split
  · rename_i a env1 e
    rw [e, bnd_ok] at h
    intro b H1 Of1 P1 x1 x2 x3 x4
    have nb : ∀ x, P1 x → ¬ Bo x := fun x p z => by
      rcases x3 x p with ⟨j, q⟩ | q
      · exact S.disB j x q z
      · obtain ⟨o, e⟩ := S.boIn x z
        rw [q] at e; cases e
    refine hk a b H1 Of1 env1 P1 e x1 x2 nb x3 x4 ?_
    unfold At
    split
    · rename_i a2 env2 e2
      rw [e2] at h
      intro b2 H2 Of2 P2 y1 y2 y3 y4
      refine h b2 H2 Of2 (fun x => P1 x ∨ P2 x) (x1.trans y1) (y2.boEq fun a => or_assoc) (fun x p => ?_) y4
      rcases p with p | p
      · exact x3 x p
      · exact ext_new x1 (y3 x p)
    · rename_i x2' env2 e2
      rw [e2] at h
      intro H2 Of2 c dd y1 y2 y3
      exact h H2 Of2 c dd (x1.trans y1) (y2.less S.b0) (y3.mono (hid_mono fun a o e n => ⟨e, fun z => n (z.imp id .inl)⟩))
    · rename_i e2
      rw [e2] at h
      exact h
  · rename_i x env1 e
    rw [e, bnd_exc] at h
    exact h
  · rename_i e
    rw [e, bnd_bad] at h
    exact h
end
/-! ### values in a row, shared or own -/
/-- the value v, tree d, footprint P at strength m -/
def MxR (B : Addr → Prop) (H : Hp) (v : V) (d : D) (P : Addr → Prop) : Option Nat → Prop
  | none => Rp (hid H B) v d ∧ ∀ x, ¬ P x
  | some k => Ow (hid H B) H k v d P
inductive MxRs (B : Addr → Prop) (H : Hp) : List (Option Nat) → List D → List V → (Addr → Prop) → Prop where
  | nil {P : Addr → Prop} : (∀ x, ¬ P x) → MxRs B H [] [] [] P
  | cons {m : Option Nat} {ms : List (Option Nat)} {d : D} {ds : List D} {v : V} {vs : List V} {P P1 P2 : Addr → Prop} : MxR B H v d P1 m → MxRs B H ms ds vs P2 → (∀ x, P1 x → ¬ P2 x) → (∀ x, P x ↔ P1 x ∨ P2 x) → MxRs B H (m :: ms) (d :: ds) (v :: vs) P
theorem MxR.mono {B B' : Addr → Prop} {H H' : Hp} {v : V} {d : D} {P : Addr → Prop} {m : Option Nat} (h : MxR B H v d P m) (s : Sub (hid H B) (hid H' B')) (k : ∀ a o, P a → H a = some o → H' a = some o) : MxR B' H' v d P m := by
  cases m with
  | none => exact ⟨h.1.mono s, h.2⟩
  | some k' => exact Ow.mono h s k
theorem MxRs.mono {B B' : Addr → Prop} {H H' : Hp} {ms : List (Option Nat)} {ds : List D} {vs : List V} {P : Addr → Prop} (h : MxRs B H ms ds vs P) (s : Sub (hid H B) (hid H' B')) (k : ∀ a o, P a → H a = some o → H' a = some o) : MxRs B' H' ms ds vs P := by
  induction h with
  | nil n => exact .nil n
  | cons h1 h2 n e ih => exact .cons (h1.mono s fun a o p q => k a o ((e a).2 (.inl p)) q) (ih fun a o p q => k a o ((e a).2 (.inr p)) q) n e
theorem MxRs.len {B : Addr → Prop} {H : Hp} {ms : List (Option Nat)} {ds : List D} {vs : List V} {P : Addr → Prop} (h : MxRs B H ms ds vs P) : vs.length = ds.length := by
  induction h with
  | nil _ => rfl
  | cons _ _ _ _ ih => simp [ih]
def rMx (ms : List (Option Nat)) : Rl (List D) (List V) := fun _ H' Of' _ Bo P ds vs => MxRs (fun a => Os Of' a ∨ (Bo a ∨ P a)) H' ms ds vs P
abbrev PMx (X : Cx) (C : Cf) (ms : List (Option Nat)) (es : List Expr) (f : M (List D)) : Prop := PA X es (rdG X.mg C (rMx ms) f)
def rMx1 (m : Option Nat) : Rl D V := fun _ H' Of' _ Bo P d v => MxR (fun a => Os Of' a ∨ (Bo a ∨ P a)) H' v d P m
section
variable {X : Cx} {C : Cf} {ms : List (Option Nat)} {m : Option Nat} {e : Expr} {es : List Expr} {f : M D} {fr : M (List D)} {k : Nat}
theorem mx_nil : PMx X C [] [] nilM := pa_imp pa_nil fun σ H Q ⟨Bo, Of, env, S, h⟩ => h.ret_ok S (.nil fun _ z => z)
theorem mx_cons (he : PE X e (rdG X.mg C (rMx1 m) f)) (hr : PMx X C ms es fr) (hs : starEach (e :: es) X.env = (false, eval e X.env) :: starEach es X.env := by rfl) : PMx X C (m :: ms) (e :: es) (consM f fr) :=
  pa_imp (pa_cons he hr hs) fun σ H Q ⟨Bo, Of, env, S, h⟩ => ⟨Bo, Of, env, S, At.bnd1 S h fun d v H1 Of1 env1 P1 _ x1 S1 n1 w1 r1 h1 => ⟨_, Of1, env1, S1, At.bnd1 S1 h1 fun ds vs H2 Of2 env2 P2 _ x2 S2 n2 w2 r2 h2 => by
  have dis : ∀ x, P1 x → ¬ P2 x := fun x p q => n2 x q (.inr p)
  have k1 : ∀ a o, P1 a → H1 a = some o → H2 a = some o := fun a o p e => x2.keep a o e fun ⟨j, z⟩ => S1.disB j a z (.inr p)
  -- behind both, nothing else happens
  unfold At at h2
  refine h2 (v :: vs) H2 Of2 (fun _ => False) Ext.refl S2.bo (fun _ z => z.elim) ?_
  show MxRs (fun a => Os Of2 a ∨ (Bo a ∨ (P1 a ∨ (P2 a ∨ False)))) H2 (m :: ms) (d :: ds) (v :: vs) (fun x => P1 x ∨ (P2 x ∨ False))
  refine .cons (P1 := P1) (P2 := P2) (MxR.mono r1 ?_ k1) (MxRs.mono r2 ?_ fun _ _ _ q => q) dis fun x => by simp
  · refine hid_mono fun a o e n => ⟨x2.keep a o e fun z => n (.inl z), fun z => ?_⟩
    rcases z with z | z | z | z | z
    · rcases x2.own a z with q | q
      · exact n (.inl q)
      · rw [e] at q; cases q
    · exact n (.inr (.inl z))
    · exact n (.inr (.inr z))
    · rcases w2 a z with q | q
      · exact n (.inl q)
      · rw [e] at q; cases q
    · exact z.elim
  · exact hid_mono fun a o e n => ⟨e, fun z => n (by
      rcases z with z | z | z | z | z
      · exact .inl z
      · exact .inr (.inl (.inl z))
      · exact .inr (.inl (.inr z))
      · exact .inr (.inr z)
      · exact z.elim)⟩⟩⟩
theorem PSh.mx (h : PSh X C e f) : PE X e (rdG X.mg C (rMx1 none) f) := pe_imp h fun σ H Q ⟨Bo, Of, env, S, q⟩ => ⟨Bo, Of, env, S, q.imp fun a c H' Of' env' P _ x1 x2 x3 x4 k => k c H' Of' P x1 x2 x3 ⟨x4.2.mono (hid_mono fun a o e n => ⟨e, fun z => by
  rcases z with z | z | z
  · exact n (.inl z)
  · exact n (.inr z)
  · exact x4.1 a z⟩), x4.1⟩⟩
theorem POw.mx (h : POw X C k e f) : PE X e (rdG X.mg C (rMx1 (some k)) f) := h
end
def setV : L2.St → List Nat → List V → L2.St
  | σ, i :: is, v :: vs => setV (σ.set i (some v)) is vs
  | σ, _, _ => σ
def setE : Env → List Nat → List D → Env
  | e, i :: is, d :: ds => setE (e.set i (some d)) is ds
  | e, _, _ => e
def mdOf : Option Nat → Md
  | none => .sh
  | some k => .own k
def mdEq : Md → Option Nat → Bool
  | .sh, none => true
  | .own k, some k' => k == k'
  | _, _ => false
def parOk (Ms : List Md) : List Nat → List (Option Nat) → Bool
  | [], [] => true
  | i :: is, m :: ms => (match Ms[i]? with
    | some m' => mdEq m' m
    | none => false) && parOk Ms is ms
  | _, _ => false
theorem mdEq_of {m' : Md} {m : Option Nat} (h : mdEq m' m = true) : m' = mdOf m := by
  cases m' <;> cases m <;> first | rfl | (cases h; done) | (have : _ = _ := eq_of_beq h; subst this; rfl)
def parM (is : List Nat) (fr : M (List D)) : M Fl := bnd fr fun ds e => if ds.length = is.length then .ok .nx (setE e is ds) else .bad
section
variable {C : Cf} {Bo P : Addr → Prop} {H : Hp} {σ : L2.St} {env : Env} {Of : Nat → Addr → Prop} {ms : List (Option Nat)} {ds : List D} {vs : List V}
theorem mx_slot {O' : Addr → Prop} {v v0 : V} {d : D} {P1 B : Addr → Prop} {m : Option Nat} {B0 : Addr → Prop} (h : MxR B H v d P1 m) (hB : ∀ a, O' a ∨ Bo a → B a) : SlotR B0 H O' Bo v0 v d P1 (mdOf m) := by
  have sb : Sub (hid H B) (hid H fun a => O' a ∨ Bo a) := hid_mono fun a o e n => ⟨e, fun z => n (hB a z)⟩
  cases m with
  | none => exact ⟨h.1.mono sb, h.2⟩
  | some k => exact Ow.mono h sb fun _ _ _ q => q
theorem assigns {B : Addr → Prop} (h : MxRs B H ms ds vs P) (hB : ∀ a, Os Of a ∨ (Bo a ∨ P a) → B a) : ∀ {is : List Nat}, parOk C.Ms is ms = true → St C (fun a => Bo a ∨ P a) H σ env Of → (∀ a, C.B0 a → Bo a) → (∀ a, Bo a → ¬ P a) → ∃ Of', St C Bo H (setV σ is vs) (setE env is ds) Of' ∧ ∀ a, Os Of' a → Os Of a ∨ P a := by
  induction h generalizing σ env Of Bo with
  | @nil P n =>
    intro is hp S b0 nb
    cases is with
    | nil => exact ⟨Of, S.boEq fun a => ⟨fun z => z.elim id fun z => (n a z).elim, .inl⟩, fun a z => .inl z⟩
    | cons i is => cases hp
  | @cons m ms d ds v vs P P1 P2 h1 h2 dis eP ih =>
    intro is hp S b0 nb
    cases is with
    | nil => cases hp
    | cons i is =>
      have hp' : ((match C.Ms[i]? with
        | some m' => mdEq m' m
        | none => false) && parOk C.Ms is ms) = true := hp
      rw [Bool.and_eq_true] at hp'
      obtain ⟨q1, q2⟩ := hp'
      split at q1
      · rename_i m' hm
        have hm' : C.Ms[i]? = some (mdOf m) := by rw [hm, mdEq_of q1]
        have S1 : St C (fun x => (Bo x ∨ P2 x) ∨ P1 x) H σ env Of := S.boEq fun a => by
          rw [eP a]
          constructor
          · rintro (z | z | z)
            · exact .inl (.inl z)
            · exact .inr z
            · exact .inl (.inr z)
          · rintro ((z | z) | z)
            · exact .inl z
            · exact .inr (.inr z)
            · exact .inr (.inl z)
        have S2 := St.assign (v := v) (d := d) (i := i) S1 (fun a z => ⟨S1.boIn a (.inl z), fun p => by
          rcases z with z | z
          · exact nb a z ((eP a).2 (.inl p))
          · exact dis a p z⟩) hm' (fun a z => .inl (b0 a z)) fun O' o1 o2 => mx_slot h1 fun a z => hB a (by
            rcases z with z | z | z
            · rcases o1 a z with z | z
              · exact .inl z
              · exact .inr (.inr ((eP a).2 (.inl z)))
            · exact .inr (.inl z)
            · exact .inr (.inr ((eP a).2 (.inr z))))
        have hB2 : ∀ a, Os (upO Of i P1) a ∨ (Bo a ∨ P2 a) → B a := fun a z => hB a (by
          rcases z with z | z | z
          · rcases upO_os z with z | z
            · exact .inl z
            · exact .inr (.inr ((eP a).2 (.inl z)))
          · exact .inr (.inl z)
          · exact .inr (.inr ((eP a).2 (.inr z))))
        obtain ⟨Of', S3, o3⟩ := ih hB2 q2 S2 b0 fun a z p => nb a z ((eP a).2 (.inr p))
        refine ⟨Of', S3, fun a z => ?_⟩
        rcases o3 a z with z | z
        · rcases upO_os z with z | z
          · exact .inl z
          · exact .inr ((eP a).2 (.inl z))
        · exact .inr ((eP a).2 (.inr z))
      · cases q1
/-- the row is stored -/
theorem AtS.par {mg : Str → Option Value} {R : Rl D V} {fr : M (List D)} {is : List Nat} {De : Ends} (S : St C Bo H σ env Of) (hp : parOk C.Ms is ms = true) (h : AtS mg C R (parM is fr) Bo Of H σ env De) : At mg C (rMx ms) fr Bo Of H σ env (fun vs H1 => vs.length = is.length ∧ De.nx (setV σ is vs) H1) := by
  unfold AtS parM at h
  unfold At
  rw [bnd_at] at h
  split
  · rename_i ds env1 q
    rw [q, bnd_ok] at h
    intro vs H1 Of1 P1 y1 y2 y3 y4
    have y4 : MxRs (fun a => Os Of1 a ∨ (Bo a ∨ P1 a)) H1 ms ds vs P1 := y4
    split at h
    · rename_i hl
      have lens : vs.length = ds.length := y4.len
      have nb : ∀ a, Bo a → ¬ P1 a := fun a b p => by
        rcases y3 a p with ⟨j, z⟩ | z
        · exact S.disB j a z b
        · obtain ⟨o, e⟩ := S.boIn a b
          rw [z] at e; cases e
      obtain ⟨Of2, S2, o2⟩ := assigns (σ := σ) (env := env1) y4 (fun a z => z) hp y2 S.b0 nb
      exact ⟨lens.trans hl, h _ H1 Of2 ⟨y1.keep, fun a z => (o2 a z).elim (y1.own a) (y3 a)⟩ S2⟩
    · exact h.elim
  · rename_i q
    rw [q, bnd_exc] at h
    exact h σ
  · rename_i q
    rw [q, bnd_bad] at h
    exact h
end
section
variable {X : Cx} {C : Cf} {R : Rl D V} {ms : List (Option Nat)} {fr : M (List D)} {st : Stmt} {i j l : Nat}
theorem sx_par (hp : PS X st (tPar i j (rdG X.mg C (rMx ms) fr))) (hm : parOk C.Ms [i, j] ms = true := by rfl) : PSx X C R st (parM [i, j] fr) := ps_imp hp fun De σ H ⟨Bo, Of, env, S, h⟩ => ⟨Bo, Of, env, S, (AtS.par S hm h).imp fun a c H' Of' env' P _ x1 x2 x3 x4 k => by
  obtain ⟨h1, h2⟩ := k c H' Of' P x1 x2 x3 x4
  match c, h1 with
  | [v, w], _ => exact ⟨v, w, rfl, h2⟩⟩
theorem sx_par3 (hp : PS X st (tPar3 i j l (rdG X.mg C (rMx ms) fr))) (hm : parOk C.Ms [i, j, l] ms = true := by rfl) : PSx X C R st (parM [i, j, l] fr) := ps_imp hp fun De σ H ⟨Bo, Of, env, S, h⟩ => ⟨Bo, Of, env, S, (AtS.par S hm h).imp fun a c H' Of' env' P _ x1 x2 x3 x4 k => by
  obtain ⟨h1, h2⟩ := k c H' Of' P x1 x2 x3 x4
  match c, h1 with
  | [v, w, u], _ => exact ⟨v, w, u, rfl, h2⟩⟩
end
/-! ### further stores -/
/-- a, b, .. = a value -/
def asgT (tg : Tg) (f : M D) : M Fl := bnd f fun d e => match tg d e with
  | some e' => .ok .nx e'
  | none => .bad
/-- code that is never come to -/
def nev : M Fl := fun _ => .bad
def augM (i : Nat) (g : D → D → Option D) (fj fe : M D) : M Fl := fun e0 => match lstAt i e0 with
  | none => .bad
  | some _ => bnd fj (fun j e => match lstAt i e, j with
    | some ds, .int k => (match atI ds k with
      | some old => bnd fe (fun y => bnd (lift (g old y)) fun z => fun e' => match lstAt i e' with
        | some ds' => (match ixN ds'.length k with
          | some n => .ok .nx (e'.set i (some (.lst (ds'.set n z))))
          | none => .bad)
        | none => .bad) e
      | none => .bad)
    | _, _ => .bad) e0
def augN (i : Nat) (g : D → D → Option D) (fe : M D) : M Fl := fun e0 => match e0[i]? with
  | some (some x) => bnd fe (fun y => bnd (lift (g x y)) fun z => fun e => .ok .nx (e.set i (some z))) e0
  | _ => .bad
section
variable {X : Cx} {C : Cf} {R : Rl D V} {i : Nat} {e j : Expr} {f fe fj : M D} {x : Str} {px tpos pos : Pos} {J : List Nat} {st : Stmt} {tg : Expr} {tgf : Tg} {vs : List Nat}
theorem sx_nev : PSx X C R st nev := ps_imp ps_never fun _ _ _ ⟨_, _, _, _, h⟩ => h.elim
theorem sx_asgT (he : PSh X C e f) (hg : PGx X C vs tg tgf) (hs : swapsWithSole [tg] e pos.line X.env = pure false := by rfl) (hw : swappedStores [tg] e X.env = pure none := by rfl) (h1 : (assignEach [tg] X.env).map (·.2) = [assign tg X.env] := by rfl) :
    PSx X C R (.Assign [tg] e pos) (asgT tgf f) := ps_imp (ps_asg he hg hs hw h1) fun De σ H ⟨Bo, Of, env, S, h⟩ => ⟨Bo, Of, env, S, AtS.bnd0 h sh_noP fun d v H1 Of1 env1 _ x1 S1 r1 h1 => by
  unfold AtS at h1
  dsimp only at h1
  cases q : tgf d env1 with
  | none => rw [q] at h1; exact h1.elim
  | some env2 =>
    rw [q] at h1
    exact ⟨Bo, Of1, env1, d, env2, S1, r1.2, q, fun σ' H' Of' x2 S2 _ => h1 σ' H' Of' x2 S2⟩⟩
/-- name op= e, the name shared -/
theorem sx_augN {op : Operator} {ti : TIp} {g : D → D → Option D} (hp : PS X (.AugAssign (.Name x px) op e pos) (tAug i (rdG X.mg C rSh fe) ti)) (hd : ∀ {mg}, OpD mg C tRd tRd ti g) (hm : C.Ms[i]? = some .sh := by rfl) : PSx X C R (.AugAssign (.Name x px) op e pos) (augN i g fe) :=
  ps_imp hp fun De σ H ⟨Bo, Of, env, S, h⟩ => by
    unfold AtS augN at h
    cases q : env[i]? with
    | none => rw [q] at h; exact h.elim
    | some o =>
      cases o with
      | none => rw [q] at h; exact h.elim
      | some dx =>
        rw [q] at h
        obtain ⟨v, m, h1, h2, r⟩ := S.slot i dx q
        rw [hm] at h2; cases h2
        refine ⟨v, h1, Bo, Of, env, S, AtS.bnd0 (show AtS X.mg C R (bnd fe fun y => bnd (lift (g dx y)) fun z => fun e => .ok .nx (e.set i (some z))) Bo Of H σ env De from h) sh_noP fun dy y H1 Of1 env1 _ x1 S1 r1 h1 => ?_⟩
        refine hd (mg := X.mg) Bo Of1 H1 σ env1 v y dx dy _ S1 (r.1.mono ((x1.hid _).trans (hid_sub _ _))) (r1.2.mono (hid_sub _ _)) ?_
        exact AtS.asg (R1 := rSh) (f := lift (g dx dy)) S1 h1 hm fun d v H1 Of1 env1 P S1 r O' o1 o2 => slot_sh r O' o1
theorem get_list : PGet X (rIxL X.K) := by
  intro pins s σ H x y v u Q I rx ry h
  obtain ⟨p, xs, i, z, rfl, rfl, hq, he, q⟩ := h
  cases rx
  obtain ⟨t, rfl⟩ := ry
  obtain ⟨its, r, pl, hz⟩ := I.list hq
  obtain ⟨j, h1, h2, h3, h4, h5⟩ := atI_get he
  obtain ⟨w, ew, rw'⟩ := r.get h2
  have hl := r.length
  have hn := line63
  have fin : EP X pins σ Q w s := ⟨z, H, I, rw', q⟩
  by_cases h0 : 0 ≤ i
  · have hj : i.toNat = j := by
      rw [seqIndex_of h0 h5] at h1
      exact Option.some.inj h1
    exact wpAny_getItem_list (x := w) pl.isList h0 (by omega) (by rw [hj]; simpa using ew) fin
  · have hj : (i + (its.toArray.size : Int)).toNat = j := by
      rw [seqIndex_neg (by omega) h4] at h1
      rw [List.size_toArray, ← hl]
      exact Option.some.inj h1
    exact wpAny_getItem_list_neg (x := w) pl.isList (by omega) (by rw [List.size_toArray] <;> omega) (by omega) (by rw [hj]; simpa using ew) fin
theorem sx_augS {op : Operator} {ti : TIp} {g : D → D → Option D} (hx : PE X (.Name x px) (tVar i)) (hj : PRd X C J j fj) (he : PSh X C e fe) (hp : PIp X op ti) (hd : ∀ {mg}, OpD mg C tRd tRd ti g) (hm : own1 C.Ms i = true := by rfl)
    (ha : ∀ ov iv new, augStore j ov iv new = (do holding [new, ov, iv] (setItem ov iv new); release [new, ov, iv] []; pure .next) := by intros; rfl) : PSx X C R (.AugAssign (.Subscript (.Name x px) j tpos) op e pos) (augM i g fj fe) :=
  ps_imp (ps_augS hx hj get_list he hp set_list ha) fun De σ H ⟨Bo, Of, env, S, h⟩ => by
    unfold AtS augM at h
    cases q : lstAt i env with
    | none => rw [q] at h; exact h.elim
    | some ds0 =>
      rw [q] at h
      dsimp only at h
      obtain ⟨a, vs0, hv, _⟩ := own1_at S hm q
      refine ⟨.ref a, hv, Bo, Of, env, S, AtS.bnd0 (f := fj) (show AtS X.mg C R (bnd fj _) Bo Of H σ env De from h) rd_noP fun dj w H1 Of1 env1 _ x1 S1 r1 h1 => ?_⟩
      have hw := r1.2 Bo σ H1 Of1 env1 BoX.refl Ext.refl S1 fun _ _ => ⟨rfl, rfl⟩
      unfold AtS at h1
      dsimp only at h1
      cases q1 : lstAt i env1 with
      | none => rw [q1] at h1; exact h1.elim
      | some ds =>
        rw [q1] at h1
        cases dj with
        | int k =>
          dsimp only at h1
          cases hw.int'
          obtain ⟨a', us, hv', ha', rv, hP⟩ := own1_at S1 hm q1
          rw [hv] at hv'; cases hv'
          cases q2 : atI ds k with
          | none => rw [q2] at h1; exact h1.elim
          | some old =>
            rw [q2] at h1
            dsimp only at h1
            obtain ⟨ov, eo, ro⟩ := rv.atI q2
            refine ⟨a, us, k, ov, rfl, rfl, .inl (.inl ha'), eo, Bo, Of1, env1, S1, AtS.bnd0 (f := fe) (show AtS X.mg C R (bnd fe _) Bo Of1 H1 σ env1 De from h1) sh_noP fun dy y H2 Of2 env2 _ x2 S2 r2 h2 => ?_⟩
            refine hd (mg := X.mg) Bo Of2 H2 σ env2 ov y old dy _ S2 (ro.mono ((x2.hid _).trans (hid_sub _ _))) (r2.2.mono (hid_sub _ _)) (AtS.bnd0 (R1 := rSh) (f := lift (g old dy)) h2 sh_noP fun dz z H3 Of3 env3 _ x3 S3 r3 h3 => ?_)
            have h3' : RS X.mg C R Bo Of3 H3 De (match lstAt i env3 with
              | some ds' => (match ixN ds'.length k with
                | some n => .ok .nx (env3.set i (some (.lst (ds'.set n dz))))
                | none => .bad)
              | none => .bad) := h3
            exact set_end (dj := .int k) S3 hm hv (by
              cases q3 : lstAt i env3 with
              | none => rw [q3] at h3'; exact h3'
              | some ds' => rw [q3] at h3'; exact h3') r3.2 (.int k)
        | _ => exact h1.elim
end
/-! ### keywords -/
abbrev PKArs (X : Cx) (C : Cf) (ks : List Ak) (kws : List Keyword) (f : M (List D)) : Prop := PK X kws (rdG X.mg C (rArs C ks) f)
theorem pk_imp {X : Cx} {kws : List Keyword} {t t' : TA} (h : PK X kws t) (i : ∀ σ H Q, t' σ H Q → t σ H Q) : PK X kws t' := ⟨fun pos pins s σ H Q I q => h.run pos pins s σ H Q I (i σ H Q q)⟩
def catM (a b : M (List D)) : M (List D) := bnd a fun x => bnd b fun y => ret (x ++ y)
theorem arOk_app {Bo : Addr → Prop} {σ : L2.St} {H : Hp} {Of : Nat → Addr → Prop} {ks2 : List Ak} {ds2 : List D} {vs2 : List V} (h2 : ArOk Bo σ H Of ks2 ds2 vs2) : ∀ {ks : List Ak} {ds : List D} {vs : List V}, ArOk Bo σ H Of ks ds vs → ArOk Bo σ H Of (ks ++ ks2) (ds ++ ds2) (vs ++ vs2)
  | [], [], [], _ => h2
  | .sh :: ks, d :: ds, v :: vs, h => ⟨h.1, arOk_app h2 h.2⟩
  | .ln I :: ks, d :: ds, v :: vs, h => ⟨h.1, arOk_app h2 h.2⟩
  | .io j :: ks, d :: ds, v :: vs, h => ⟨h.1, arOk_app h2 h.2⟩
/-- some parameters by name, in their order, behind n by place -/
def KwB (K : PySem.W.Frag) (fd : FuncData) (ps kn : List Str) (n : Nat) : Prop := ∀ (s : Shared) (us ws : List Value), us.length = n → (us ++ ws).length = ps.length → BindsTo s fd ⟨us, kn.zip ws⟩ (ps.zip (us ++ ws))
theorem kwb {K : PySem.W.Frag} {x qual : Str} {params : Arguments} {body : List Stmt} {scope : Scope} {kws : List (Str × V)} {f : Addr} {fd : FuncData} {ps kn : List Str} (F : FunD K x qual params body scope [] kws f fd) (n m : Nat) (hm : n + m = ps.length)
    (h : ∀ (kV doc pm : Value) (an : Option Addr) (cdv ct : Value) (us ws : List Value), us.length = n → ws.length = m → bindArgs (PySem.W.fnOf x qual params body scope .none kV doc pm an cdv ct) ⟨us, kn.zip ws⟩ = pure (ps.zip (us ++ ws))) : KwB K fd ps kn n := by
  obtain ⟨oc, od, dV, kV, doc, pm, an, cdv, ct, osl, rfl, lk, hcd, hD, hK⟩ := F.ex
  rcases hD with ⟨_, rfl⟩ | ⟨e, _⟩
  · exact fun s us ws h1 h2 => .of_eq (h kV doc pm an cdv ct us ws h1 (by rw [List.length_append] at h2; omega))
  · exact absurd rfl e
theorem arOk_len {Bo : Addr → Prop} {σ : L2.St} {H : Hp} {Of : Nat → Addr → Prop} : ∀ {ks : List Ak} {ds : List D} {vs : List V}, ArOk Bo σ H Of ks ds vs → vs.length = ks.length
  | [], [], [], _ => rfl
  | .sh :: ks, d :: ds, v :: vs, h => congrArg (· + 1) (arOk_len h.2)
  | .ln I :: ks, d :: ds, v :: vs, h => congrArg (· + 1) (arOk_len h.2)
  | .io j :: ks, d :: ds, v :: vs, h => congrArg (· + 1) (arOk_len h.2)
theorem deps_app : ∀ (ks ks2 : List Ak), depsA (ks ++ ks2) = depsA ks ++ depsA ks2
  | [], _ => rfl
  | .sh :: ks, ks2 => deps_app ks ks2
  | .ln I :: ks, ks2 => by
    show I ++ depsA (ks ++ ks2) = (I ++ depsA ks) ++ depsA ks2
    rw [deps_app ks ks2, List.append_assoc]
  | .io j :: ks, ks2 => deps_app ks ks2
section
variable {X : Cx} {C : Cf} {R : Rl D V} {k : Nat} {f : Addr} {fd : FuncData} {ps kn : List Str} {fn : FnM} {pm : List Md} {ks ks2 : List Ak} {e : Expr} {es : List Expr} {kws : List Keyword} {fe : M D} {fr fk : M (List D)} {x : Str} {p pos kpos : Pos} {nm : Option Str} {g : List Value → List Value → List Value}
theorem karg_nil : PKArs X C [] [] nilM := pk_imp pk_nil fun σ H Q ⟨Bo, Of, env, S, h⟩ => h.ret_ok S ⟨fun _ z => z, fun _ _ _ _ _ _ _ _ => trivial⟩
theorem karg_sh (he : PSh X C e fe) (hr : PKArs X C ks kws fr) : PKArs X C (.sh :: ks) (⟨nm, e, kpos⟩ :: kws) (consM fe fr) := pk_imp (pk_cons he hr) fun σ H Q ⟨Bo, Of, env, S, h⟩ => ⟨Bo, Of, env, S, At.bnd0 h sh_noP fun d v H1 Of1 env1 _ x1 S1 r1 h1 => ⟨Bo, Of1, env1, S1, At.bnd0 h1 ars_noP fun ds vs H2 Of2 env2 e2 x2 S2 r2 h2 => by
  exact h2.ret_ok S2 ⟨fun _ z => z, fun Bo2 H3 Of3 env3 b x S c => ⟨r1.2.mono ((x2.hid _).trans (x.hidX b)), r2.2 Bo2 H3 Of3 env3 b x S c⟩⟩⟩⟩
theorem karg_ln {I : List Nat} (he : PSm X C I e fe) (hr : PKArs X C ks kws fr) (kp : Kps I fr := by exact kps_nil) : PKArs X C (.ln I :: ks) (⟨nm, e, kpos⟩ :: kws) (consM fe fr) := pk_imp (pk_cons he hr) fun σ H Q ⟨Bo, Of, env, S, h⟩ => ⟨Bo, Of, env, S, At.bnd0 h sm_noP fun d v H1 Of1 env1 _ x1 S1 r1 h1 => ⟨Bo, Of1, env1, S1, At.bnd0 h1 ars_noP fun ds vs H2 Of2 env2 e2 x2 S2 r2 h2 => by
  exact h2.ret_ok S2 ⟨fun _ z => z, fun Bo2 H3 Of3 env3 b x S c =>
    ⟨r1.2 Bo2 σ H3 Of3 env3 (b.up x2) (x2.trans x) S fun i hi => ⟨(c i (List.mem_append_left _ hi)).trans (kp i hi _ _ _ e2), rfl⟩, r2.2 Bo2 H3 Of3 env3 b x S fun i hi => c i (List.mem_append_right _ hi)⟩⟩⟩⟩
theorem pe_fnK (hR : RGood R) (F : FnOk X.prog X.w X.K X.mg X.base (L2.CX X.prog X.w) k f fd ps (spOf X.mg pm R fn)) (hr : Room k X.A) (hm : X.mg x = some (.ref f)) (hk : PySem.W.keepIn X.K (.ref f) = true) (hb : KwB X.K fd ps kn ks.length) (tk : Takes X C.W)
    (ha : PArs X C ks (e :: es) fr) (hkw : PKArs X C ks2 kws fk) (kp : Kps (depsA ks) fk := by exact kps_nil) (hg : Gl X x := by rfl) (hks : ksOk C.Ms (ks ++ ks2) pm = true := by rfl) (hse : ksSep (ks ++ ks2) = true := by rfl)
    (hall : (backToKw pos (keywordEach kws X.env)).all (·.1.isSome) = true := by rfl) (hkn : (backToKw pos (keywordEach kws X.env)).filterMap (·.1) = kn := by rfl)
    (hdb : (x == ("__debug__" : Str)) = false := by decide) (he : starEach (e :: es) X.env = (false, eval e X.env) :: starEach es X.env := by rfl)
    (hpl : ((backTo pos (starEach (e :: es) X.env)).any (·.1) || (backToKw pos (keywordEach kws X.env)).any (·.1.isNone)) = false := by rfl) :
    PE X (.Call (.Name x p) (e :: es) kws pos) (rdG X.mg C R (callM fn (ks ++ ks2) (catM fr fk))) := by
  refine ⟨fun pins s σ H Q I h => ?_⟩
  refine wpAny_Call_Name_kw (ld_glob I hg hm ?_ hdb)
  refine PySem.W.callWith_KW (h₀ := X.base) I.ok.mod.kin hk hall (thn (ha.run pos pins s σ H (fun vs H1 => vs.length = ks.length ∧ rdG X.mg C (rArs C ks2) fk σ H1 fun zs H2 => spOf X.mg pm R fn (vs ++ zs) H2 Q (WE C.W σ)) I ?_) fun us s1 ⟨vs, H1, I1, r, ql, q⟩ => ?_) hpl he
  · obtain ⟨Bo, Of, env, S, h2⟩ := call_key hR hks hse h
    refine ⟨Bo, Of, env, S, At.bnd0 (f := fr) (show At X.mg C (rArs C (ks ++ ks2)) (bnd fr fun x => bnd fk fun y => ret (x ++ y)) Bo Of H σ env _ from h2) ars_noP fun ds vs H1 Of1 env1 _ x1 S1 r1 h1 => ?_⟩
    refine ⟨arOk_len (r1.2 Bo H1 Of1 env1 BoX.refl Ext.refl S1 fun _ _ => rfl), Bo, Of1, env1, S1, At.bnd0 h1 ars_noP fun ds2 zs H2 Of2 env2 e2 x2 S2 r2 h2 => ?_⟩
    refine h2.ret_ok S2 ⟨fun _ z => z, fun Bo2 H3 Of3 env3 b x S c => ?_⟩
    rw [deps_app] at c
    exact arOk_app (r2.2 Bo2 H3 Of3 env3 b x S fun i hi => c i (List.mem_append_right _ hi)) (r1.2 Bo2 H3 Of3 env3 (b.up x2) (x2.trans x) S fun i hi => (c i (List.mem_append_left _ hi)).trans (kp i hi _ _ _ e2))
  · refine thn (hkw.run pos pins s1 σ H1 _ I1 q) fun ws s2 ⟨zs, H2, I2, rz, q2⟩ => ⟨I2.kIn, ?_⟩
    rw [hkn]
    have r2 := r.append rz
    have hl : (us ++ ws).length = ps.length := by rw [← r2.length]; exact F.len _ _ _ _ q2
    refine wpAny_call (codeAny_mono (F.run X.A X.stack s2 H2 ⟨us, kn.zip ws⟩ (us ++ ws) (vs ++ zs) Q (WE C.W σ) hr I2.env0 (hb s2 us ws (by rw [← r.length]; exact ql) hl) r2 q2) fun r s' hq => ?_)
    cases r with
    | error e => exact passAt tk σ pins H2 s2 e s' I2 hq
    | ok fl =>
      cases fl with
      | ret u => exact I2.after hq
      | next => exact False.elim hq
      | brk => exact False.elim hq
      | cont => exact False.elim hq
end
end Pf
/-! F16: a row stored in names and items; joined and repeated lists. -/
namespace Pf
open PySem PySem.Spec PyProof.Rows L2

inductive TgC where
  | nm (i : Nat) | it (i : Nat) (fj : M D)
def stM : List TgC → List D → M Unit
  | [], [] => ret ()
  | .nm i :: r, d :: ds => fun e => stM r ds (e.set i (some d))
  | .it i fj :: r, d :: ds => bnd (setM i (ret d) fj) fun _ => stM r ds
  | _, _ => fun _ => .bad
def stsM (ts : List TgC) (fr : M (List D)) : M Fl := bnd fr fun ds => bnd (stM ts ds) fun _ => ret .nx
def RF (mg : Str → Option Value) (C : Cf) (Bo : Addr → Prop) (H0 : Hp) (O0 : Addr → Prop) (Q : L2.St → Hp → Prop) : Rx Unit → Prop
  | .ok _ env' => ∀ σ' H' Of', Ext H0 O0 H' (Os Of') → St C Bo H' σ' env' Of' → Q σ' H'
  | .exc x env' => ∀ σ' H' Of' c dd, Ext H0 O0 H' (Os Of') → St C Bo H' σ' env' Of' → XnR mg (hid H' fun a => Os Of' a ∨ Bo a) H' x c dd → C.W c dd σ' H'
  | _ => False
def gMs (mg : Str → Option Value) (C : Cf) (ts : List TgC) (ms : List (Option Nat)) : TGs := fun xs σ H Q => ∃ Bo P B Of env ds H0 O0, St C (fun a => Bo a ∨ P a) H σ env Of ∧ (∀ a, C.B0 a → Bo a) ∧ (∀ a, Bo a → ¬ P a) ∧ MxRs B H ms ds xs P ∧ (∀ a, Os Of a ∨ (Bo a ∨ P a) → B a) ∧
  Ext H0 O0 H (Os Of) ∧ (∀ a, P a → O0 a ∨ H0 a = none) ∧ RF mg C Bo H0 O0 Q (stM ts ds env)
section
variable {X : Cx} {C : Cf} {ts : List TgC} {ms : List (Option Nat)} {es : List Expr} {i : Nat} {x : Str} {px tpos pos : Pos} {m : Option Nat} {j : Expr} {fj : M D} {J : List Nat}
theorem gm_nil : PGs X [] (gMs X.mg C [] []) := pgs_imp pgs_nil fun xs σ H Q ⟨Bo, P, B, Of, env, ds, H0, O0, S, b0, nb, h, hB, x1, n, f⟩ => by
  cases h with
  | nil np => exact ⟨rfl, f σ H Of x1 (S.boEq fun a => ⟨fun z => z.elim id fun z => (np a z).elim, .inl⟩)⟩
theorem gm_name (hp : PG X (.Name x px) (gName i)) (hr : PGs X es (gMs X.mg C ts ms)) (hm : (match C.Ms[i]? with | some m' => mdEq m' m | none => false) = true := by rfl)
    (hs : (assignEach (.Name x px :: es) X.env).map (·.2) = assign (.Name x px) X.env :: (assignEach es X.env).map (·.2) := by rfl) : PGs X (.Name x px :: es) (gMs X.mg C (.nm i :: ts) (m :: ms)) := pgs_imp (pgs_cons hp hr hs) fun xs σ H Q ⟨Bo, P, B, Of, env, ds, H0, O0, S, b0, nb, h, hB, x1, n, f⟩ => by
  cases h with
  | @cons _ _ d ds v vs _ P1 P2 h1 h2 dis eP =>
    refine ⟨v, vs, rfl, ?_⟩
    have hm' : C.Ms[i]? = some (mdOf m) := by
      split at hm
      · rename_i m' q; rw [q, mdEq_of hm]
      · cases hm
    have S1 : St C (fun x => (Bo x ∨ P2 x) ∨ P1 x) H σ env Of := S.boEq fun a => by
      rw [eP a]
      constructor
      · rintro (z | z | z)
        · exact .inl (.inl z)
        · exact .inr z
        · exact .inl (.inr z)
      · rintro ((z | z) | z)
        · exact .inl z
        · exact .inr (.inr z)
        · exact .inr (.inl z)
    have S2 := St.assign (v := v) (d := d) (i := i) S1 (fun a z => ⟨S1.boIn a (.inl z), fun p => by
      rcases z with z | z
      · exact nb a z ((eP a).2 (.inl p))
      · exact dis a p z⟩) hm' (fun a z => .inl (b0 a z)) fun O' o1 o2 => mx_slot h1 fun a z => hB a (by
        rcases z with z | z | z
        · rcases o1 a z with z | z
          · exact .inl z
          · exact .inr (.inr ((eP a).2 (.inl z)))
        · exact .inr (.inl z)
        · exact .inr (.inr ((eP a).2 (.inr z))))
    refine ⟨Bo, P2, B, upO Of i P1, env.set i (some d), ds, H0, O0, S2, b0, fun a z p => nb a z ((eP a).2 (.inr p)), h2, fun a z => hB a (by
      rcases z with z | z | z
      · rcases upO_os z with z | z
        · exact .inl z
        · exact .inr (.inr ((eP a).2 (.inl z)))
      · exact .inr (.inl z)
      · exact .inr (.inr ((eP a).2 (.inr z)))), ⟨x1.keep, fun a z => ?_⟩, fun a p => n a ((eP a).2 (.inr p)), f⟩
    rcases upO_os z with z | z
    · exact x1.own a z
    · exact n a ((eP a).2 (.inl z))
theorem gm_item (hx : PE X (.Name x px) (tVar i)) (hj : PRd X C J j fj) (hr : PGs X es (gMs X.mg C ts ms)) (hm : own1 C.Ms i = true := by rfl)
    (hs : (assignEach (.Subscript (.Name x px) j tpos :: es) X.env).map (·.2) = assign (.Subscript (.Name x px) j tpos) X.env :: (assignEach es X.env).map (·.2) := by rfl)
    (ha : ∀ v, assign (.Subscript (.Name x px) j tpos) X.env v = (do
      let ov ← holding [v] (eval (.Name x px) X.env)
      let iv ← holding [v, ov] (eval j X.env)
      standAt tpos
      holding [v, ov, iv] (setItem ov iv v)
      release [v, ov, iv] []) := by intro _; rfl) : PGs X (.Subscript (.Name x px) j tpos :: es) (gMs X.mg C (.it i fj :: ts) (none :: ms)) :=
  pgs_imp (pgs_cons (pg_sub hx hj set_list ha) hr hs) fun xs σ H Q ⟨Bo, P, B, Of, env, ds, H0, O0, S, b0, nb, h, hB, x1, n, f⟩ => by
  cases h with
  | @cons _ _ d ds v vs _ P1 P2 h1 h2 dis eP =>
    refine ⟨v, vs, rfl, ?_⟩
    have e2 : ∀ a, P a ↔ P2 a := fun a => ⟨fun z => ((eP a).1 z).elim (fun z => (h1.2 a z).elim) id, fun z => (eP a).2 (.inr z)⟩
    unfold stM at f
    rw [bnd_at] at f
    cases q : lstAt i env with
    | none =>
      have : setM i (ret d) fj env = .bad := by unfold setM; rw [bnd_at, ret_at, bnd_ok, q]
      rw [this] at f
      exact (show False from f).elim
    | some ds0 =>
      obtain ⟨a, vs0, hv, _⟩ := own1_at S hm q
      refine ⟨.ref a, hv, (fun z => Bo z ∨ P z), Of, env, S, ?_⟩
      have fs : setM i (ret d) fj env = bnd fj (fun j e => match lstAt i e, j with
        | some ds, .int k => match ixN ds.length k with
          | some n => .ok .nx (e.set i (some (.lst (ds.set n d))))
          | none => .bad
        | _, _ => .bad) env := by
          unfold setM
          rw [bnd_at, ret_at, bnd_ok, q] <;> rfl
      rw [fs, bnd_at] at f
      unfold At
      cases ej : fj env with
      | bad => rw [ej] at f; exact f
      | exc xx env' =>
        rw [ej] at f
        intro H1 Of1 c dd x2 S2 r2
        exact f σ H1 Of1 c dd (x1.trans x2) (S2.less b0) (r2.mono (hid_mono fun a o e n => ⟨e, fun z => n (z.imp id .inl)⟩))
      | ok dj env1 =>
        rw [ej, bnd_ok] at f
        intro w H1 Of1 P1' x2 S2 n2 r2
        have S2 : St C (fun z => Bo z ∨ P z) H1 σ env1 Of1 := S2.boEq fun a => ⟨fun z => z.elim id fun z => (r2.1 a z).elim, .inl⟩
        have hw := r2.2 _ σ H1 Of1 env1 BoX.refl Ext.refl S2 fun _ _ => ⟨rfl, rfl⟩
        cases q1 : lstAt i env1 with
        | none => rw [q1] at f; exact (show False from f).elim
        | some ds1 =>
          rw [q1] at f
          cases dj with
          | int k =>
            dsimp only at f
            cases hw.int'
            obtain ⟨a', us, hv', ha', rv, hP⟩ := own1_at S2 hm q1
            rw [hv] at hv'; cases hv'
            cases q2 : ixN ds1.length k with
            | none => rw [q2] at f; exact (show False from f).elim
            | some nn =>
              rw [q2] at f
              dsimp only at f
              have rd : Rp (hid H1 fun z => Os Of1 z ∨ (Bo z ∨ P z)) v d := h1.1.mono (hid_mono fun z o e nz => ⟨x2.keep z o e fun y => nz (hB z (.inl y)), fun y => by
                rcases y with y | y
                · rcases x2.own z y with y | y
                  · exact nz (hB z (.inl y))
                  · rw [e] at y; cases y
                · exact nz (hB z (.inr y))⟩)
              obtain ⟨S3, x3⟩ := own1_put (vs' := us.set nn v) S2 hm q1 hv hP (rv.set rd)
              refine ⟨a, us, k, nn, rfl, rfl, ha', by rw [rv.1]; exact q2, Bo, P2, (fun z => Os Of1 z ∨ (Bo z ∨ P z)), Of1, _, ds, H0, O0, S3.boEq fun z => by rw [e2 z], b0, fun z y p => nb z y ((e2 z).2 p), ?_, fun z y => ?_, (x1.trans x2).trans x3, fun z p => n z ((e2 z).2 p), f⟩
              · refine h2.mono (hid_mono fun z o e nz => ⟨?_, fun y => ?_⟩) fun z o p e => ?_
                · have : ¬ Os Of1 z := fun y => by
                    rcases x2.own z y with y | y
                    · exact nz (hB z (.inl y))
                    · rw [e] at y; cases y
                  exact x3.keep z o (x2.keep z o e fun y => nz (hB z (.inl y))) this
                · rcases y with y | y
                  · rcases x2.own z y with y | y
                    · exact nz (hB z (.inl y))
                    · rw [e] at y; cases y
                  · exact nz (hB z (.inr y))
                · have hb : ¬ Os Of z := fun ⟨l, y⟩ => S.disB l z y (.inr ((e2 z).2 p))
                  have hb1 : ¬ Os Of1 z := fun ⟨l, y⟩ => S2.disB l z y (.inr ((e2 z).2 p))
                  exact x3.keep z o (x2.keep z o e hb) hb1
              · exact y.imp id fun y => y.imp id (e2 z).2
          | _ => exact (show False from f).elim
/-- (a, b, ..) = (x, y, ..), the row made as a tuple -/
theorem sx_row {R : Rl D V} {fr : M (List D)} {rs : List Expr} {n k1 k2 : Nat} {p1 p2 : Pos} (hc : X.calm = true) (hr : PMx X C ms rs fr) (hg : PGs X es (gMs X.mg C ts ms)) (hlen : ∀ env ds env', fr env = .ok ds env' → ds.length = n) (hz : n ≤ sizeLine := by decide)
    (hs : swapsWithSole [.Tuple es k1 p1] (.Tuple rs k2 p2) pos.line X.env = pure false := by rfl) (hw : swappedStores [.Tuple es k1 p1] (.Tuple rs k2 p2) X.env = pure none := by rfl) (h1 : (assignEach [.Tuple es k1 p1] X.env).map (·.2) = [assign (.Tuple es k1 p1) X.env] := by rfl)
    (hn : (assignEach es X.env).length = n := by rfl) (hst : (assignEach es X.env).findIdx? (·.1) = none := by rfl) : PSx X C R (.Assign [.Tuple es k1 p1] (.Tuple rs k2 p2) pos) (stsM ts fr) :=
  ps_imp (ps_asg (pe_tup hr) (pg_tup hc hg hn hst) hs hw h1) fun De σ H ⟨Bo, Of, env, S, h⟩ => by
  unfold AtS stsM at h
  refine ⟨Bo, Of, env, S, ?_⟩
  unfold At
  rw [bnd_at] at h
  cases q : fr env with
  | bad => rw [q] at h; exact h
  | exc xx env' => rw [q, bnd_exc] at h; exact h σ
  | ok ds env1 =>
    rw [q, bnd_ok] at h
    intro vs H1 Of1 P y1 y2 y3 y4
    have y4 : MxRs (fun a => Os Of1 a ∨ (Bo a ∨ P a)) H1 ms ds vs P := y4
    have nb : ∀ a, Bo a → ¬ P a := fun a b p => by
      rcases y3 a p with ⟨j, z⟩ | z
      · exact S.disB j a z b
      · obtain ⟨o, e⟩ := S.boIn a b
        rw [z] at e; cases e
    have l1 := hlen _ _ _ q
    have l2 : ds.length ≤ sizeLine := by rw [l1]; exact hz
    refine ⟨by rw [y4.len]; exact l2, fun p hp => ⟨p, vs, rfl, .inl (.inl upd_same), by rw [y4.len]; exact l1, Bo, P, (fun a => Os Of1 a ∨ (Bo a ∨ P a)), Of1, env1, ds, H, Os Of, y2.newSh hp, S.b0, nb, ?_, fun a z => z, y1.trans (Ext.new hp), y3, ?_⟩⟩
    · exact y4.mono (hid_new hp) fun a o _ e => by rw [upd_ne (ne_of_none e hp)]; exact e
    · rw [bnd_at] at h
      cases e : stM ts ds env1 with
      | bad => rw [e] at h; exact h
      | exc xx env' => rw [e] at h; exact h
      | ok r env' =>
        rw [e] at h
        exact h
end

/-! ### joined, repeated lists -/
def catD : D → D → Option D
  | .lst xs, .lst ys => if xs.length + ys.length ≤ sizeLine then some (.lst (xs ++ ys)) else none
  | _, _ => none
def repD : D → D → Option D
  | .lst xs, .int k => if -(2 ^ 63) ≤ k ∧ k < 2 ^ 63 ∧ xs.length * k.toNat ≤ sizeLine then some (.lst (List.replicate k.toNat xs).flatten) else none
  | _, _ => none
theorem Rps.rep {R : V → D → Prop} {vs : List V} {ds : List D} (h : Rps R vs ds) : ∀ n, Rps R (List.replicate n vs).flatten (List.replicate n ds).flatten
  | 0 => Rps.nil
  | n + 1 => by
    rw [List.replicate_succ, List.replicate_succ, List.flatten_cons, List.flatten_cons]
    exact h.append (h.rep n)
section
variable {X : Cx} {C : Cf} {I J : List Nat} {a b : Expr} {fa fb : M D} {pos : Pos}
theorem ow_cat (ha : PSm X C I a fa) (hb : PSm X C J b fb) (kp : Kps I fb := by exact kps_nil) : POw X C 1 (.BinOp a .Add b pos) (op2 catD fa fb) :=
  pe_imp (pe_op op_cat ha.op hb.op) fun σ H Q h => rd_two kp h fun x y H2 dx dy Bo Of2 env2 S2 r1 r2 h2 => by
    obtain ⟨d, e, _⟩ := h2.lift_ok S2
    unfold catD at e
    split at e
    · split at e
      · rename_i hl
        obtain ⟨p, vs, rfl, g1, g2⟩ := Sm.lst r1 (hid_sub _ _)
        obtain ⟨q, ws, rfl, g3, g4⟩ := Sm.lst r2 (hid_sub _ _)
        exact ⟨p, q, vs, ws, rfl, rfl, g1, g3, by rw [g2.1, g4.1]; exact hl, h2.ownLst S2 (if_pos hl) (g2.append g4)⟩
      · cases e
    · cases e
theorem ow_rep (ha : PSm X C I a fa) (hb : PRd X C J b fb) (kp : Kps I fb := by exact kps_nil) : POw X C 1 (.BinOp a .Mult b pos) (op2 repD fa fb) :=
  pe_imp (pe_op op_rep ha.op hb.op) fun σ H Q h => rd_two kp h fun x y H2 dx dy Bo Of2 env2 S2 r1 r2 h2 => by
    obtain ⟨d, e, _⟩ := h2.lift_ok S2
    unfold repD at e
    split at e
    · split at e
      · rename_i hl
        obtain ⟨p, vs, rfl, g1, g2⟩ := Sm.lst r1 (hid_sub _ _)
        cases r2.int'
        exact ⟨p, _, vs, rfl, rfl, g1, hl.1, hl.2.1, by rw [g2.1]; exact hl.2.2, h2.ownLst S2 (if_pos hl) (g2.rep _)⟩
      · cases e
    · cases e
end
/-! ### slots left as they are -/
section
variable {α β : Type} {I : List Nat}
theorem kps_ret {a : α} : Kps I (ret a) := fun i _ env b env' h => by cases h; rfl
theorem kps_lift {o : Option α} : Kps I (lift o) := fun i _ env b env' h => by
  cases o with
  | none => cases h
  | some a => cases h; rfl
theorem kps_bnd {m : M α} {k : α → M β} (h : Kps I m) (hk : ∀ a, Kps I (k a)) : Kps I (bnd m k) := fun i hi env b env' e => by
  obtain ⟨a, e1, h1, h2⟩ := bnd_eq_ok e
  exact (hk a i hi _ _ _ h2).trans (h i hi _ _ _ h1)
theorem kps_vr {j : Nat} : Kps I (vr j) := fun i _ env b env' h => by
  unfold vr at h
  split at h
  · cases h; rfl
  · cases h
theorem kps_cst {d : D} : Kps I (cst d) := kps_ret
theorem kps_her {j : Nat} : Kps I (herM j) := fun i _ env b env' h => by
  unfold herM at h
  split at h
  · cases h; rfl
  · cases h
theorem kps_op1 {g : D → Option D} {a : M D} (h : Kps I a) : Kps I (op1 g a) := kps_bnd h fun _ => kps_lift
theorem kps_op2 {g : D → D → Option D} {a b : M D} (h : Kps I a) (h' : Kps I b) : Kps I (op2 g a b) := kps_bnd h fun _ => kps_bnd h' fun _ => kps_lift
theorem kps_tb {a : M D} (h : Kps I a) : Kps I (tb a) := kps_bnd h fun _ => kps_lift
theorem kps_tru {a : M D} (h : Kps I a) : Kps I (tru a) := kps_bnd h fun _ => kps_lift
theorem kps_ite {c : M Bool} {a b : M α} (h : Kps I c) (h1 : Kps I a) (h2 : Kps I b) : Kps I (iteM c a b) := kps_bnd h fun x => by
  cases x
  · exact h2
  · exact h1
theorem kps_nilM : Kps I nilM := kps_ret
theorem kps_consM {a : M D} {r : M (List D)} (h : Kps I a) (h' : Kps I r) : Kps I (consM a r) := kps_bnd h fun _ => kps_bnd h' fun _ => kps_ret
theorem kps_tupM {r : M (List D)} (h : Kps I r) : Kps I (tupM r) := kps_bnd h fun _ => kps_lift
theorem kps_lstM {r : M (List D)} (h : Kps I r) : Kps I (lstM r) := kps_bnd h fun _ => kps_lift
theorem kps_bdM {f : M D} (h : Kps I f) : Kps I (bdM f) := kps_bnd h fun _ => kps_lift
theorem kps_slM {g : D → Option Int → Option Int → Option D} {a : M D} {l u : M (Option Int)} (h : Kps I a) (h1 : Kps I l) (h2 : Kps I u) : Kps I (slM g a l u) := kps_bnd h fun _ => kps_bnd h1 fun _ => kps_bnd h2 fun _ => kps_lift
theorem backA_keep : ∀ {ks : List Ak} {es e : Env} {i : Nat}, i ∉ iosA ks → (backA ks es e)[i]? = e[i]?
  | [], es, e, i, _ => by cases es <;> rfl
  | k :: ks, [], e, i, _ => by cases k <;> rfl
  | k :: ks, o :: es, e, i, h => by
    cases k with
    | io j =>
      have h' : ¬ (i = j ∨ i ∈ iosA ks) := fun z => h (List.mem_cons.mpr z)
      unfold backA
      rw [List.getElem?_set_ne (fun z => h' (.inl z.symm)), backA_keep (fun z => h' (.inr z))]
    | sh => exact backA_keep (ks := ks) h
    | ln I => exact backA_keep (ks := ks) h
def ksKeep (I : List Nat) (ks : List Ak) : Bool := I.all fun i => !(iosA ks).elem i
theorem kps_call {fn : FnM} {ks : List Ak} {fr : M (List D)} (h : Kps I fr) (hk : ksKeep I ks = true := by rfl) : Kps I (callM fn ks fr) := kps_bnd h fun ds i hi env b env' e => by
  have hn : i ∉ iosA ks := by
    have := List.all_eq_true.mp hk i hi
    simpa using this
  split at e
  · cases e
  · split at e
    · cases e; exact backA_keep hn
    · cases e
    · cases e
end
end Pf
/-! F17: small things that the printed walks name. -/
namespace Pf
open PySem PySem.Spec PyProof.Rows L2

theorem Room.units1 {k : Nat} {A : Around} (r : L2.Room k A) : A.units + 65 < cLine := by have := r.un; omega
def iaddD : D → D → Option D
  | .int i, .int j => some (.int (i + j))
  | _, _ => none
theorem opd_iadd {mg : Str → Option Value} {C : Cf} : OpD mg C tRd tRd (ipI fun i j => i + j) iaddD :=
  opd_ints (p := fun _ _ => True) (fun x y d e => by
    unfold iaddD at e
    split at e
    · cases e; exact ⟨_, _, rfl, rfl, trivial, fun _ => .int _⟩
    · cases e) fun i j G Q _ q => ⟨i, j, rfl, rfl, q⟩
theorem opd_isub {mg : Str → Option Value} {C : Cf} : OpD mg C tRd tRd (ipI fun i j => i - j) subD := opd_sub
theorem fn_bad {P : Program} {w : World} {K : PySem.W.Frag} {mg : Str → Option Value} {base : Heap} {k : Nat} {f : Addr} {fd : FuncData} {ps : List Str} {pm : List Md} {R : Rl D V} : FnOk P w K mg base (L2.CX P w) k f fd ps (spOf mg pm R fun _ => .bad) :=
  ⟨fun vs H Q E h => by obtain ⟨_, _, _, _, h⟩ := h; exact h.elim, fun A outer s H args us vs Q E _ _ _ _ h => by obtain ⟨_, _, _, _, h⟩ := h; exact h.elim⟩
theorem ps_sh {X : Cx} {C : Cf} {k i : Nat} {st : Stmt} {f : M D} (h : PS X st (tAsg (rdG X.mg C (rOw k) f) (gName i))) : PS X st (tAsg (rdG X.mg C rSh f) (gName i)) := ps_imp h fun De σ H q => ow_to_sh q
def LenM (n : Nat) (fr : M (List D)) : Prop := ∀ env ds env', fr env = .ok ds env' → ds.length = n
theorem len_0 : LenM 0 nilM := fun env ds env' h => by cases h; rfl
theorem len_c {n : Nat} {f : M D} {fr : M (List D)} (h : LenM n fr) : LenM (n + 1) (consM f fr) := fun env ds env' e => by
  obtain ⟨a, e1, h1, h2⟩ := bnd_eq_ok e
  obtain ⟨as, e2, h3, h4⟩ := bnd_eq_ok h2
  cases h4
  simp [h _ _ _ h3]
end Pf
/-! F18: what a head tells, the law's call. -/
namespace Pf
open PySem PySem.Spec PyProof.Rows L2

/-- the objects but the lists -/
def gU (g : Addr → Option Obj) : Addr → Option Obj := fun a => match g a with
  | some o => if (o.cls == .type "list") = true then none else some o
  | none => none
theorem gU_some {g : Addr → Option Obj} {a : Addr} {o : Obj} (h : gU g a = some o) : g a = some o ∧ o.cls ≠ .type "list" := by
  unfold gU at h
  split at h
  · rename_i o' e
    split at h
    · cases h
    · rename_i n
      cases h
      exact ⟨e, fun q => n (by rw [q]; exact beq_self_eq_true _)⟩
  · cases h
/-- the module's names, and what these name -/
def as2 (g : Addr → Option Obj) : List Addr :=
  let l := match g mainGlobals with
    | some o => He.refsD o
    | none => []
  mainGlobals :: (l ++ l.flatMap fun a => match g a with
    | some o => He.refsD o
    | none => [])
def obsU (fa : List He.Fa) (fn : List He.DefD) (g : Addr → Option Obj) : He.AlD := He.obsD fa fn (He.frG (gU g) (as2 g))
def hookU (fa : List He.Fa) (fn : List He.DefD) : PySem.W.Hook where
  α := He.AlD
  obs := fun s => obsU fa fn s.heap.get?
  val := fun _ => He.valD fn
  says := fun _ h => ∃ K : PySem.W.Frag, K.In h ∧ (∀ a o, K.lookup a = some o → o.cls ≠ .type "list") ∧ He.SaysD fa fn K
  of := fun _ s e => ⟨_, fun a o q => (gU_some (He.frG_at _ q)).1, fun a o q => (gU_some (He.frG_at _ q)).2, e⟩
  keeps := fun _ h h' ⟨K, X, n, c⟩ k => ⟨K, X.keeps k, n, c⟩
theorem obsU_eq {fa : List He.Fa} {fn : List He.DefD} {g : Addr → Option Obj} {s : Shared} (h : ∀ a, g a = s.heap.get? a) : obsU fa fn g = (hookU fa fn).obs s := by
  have e : g = s.heap.get? := funext h
  rw [e] <;> rfl
theorem walk_ofW {l : PySem.W.OpenLaw} {n k : Nat} {q : Program} {loose : List Str} {XP : (Str → Option Value) → Heap → Prop} {YP : World → Heap → Prop} {d : DefRec} {CX : World → CXT} {x : Str}
    (hn : l.most = some n) (hn2 : n ≤ sizeLine) (hdf : d.params.defaults = []) (hr : Room k callerA)
    (F : ∀ (w : World) (mg : Str → Option Value) (fa : Addr) (h : Heap), YP w h → h.Ns mainGlobals mg → mg d.name = some (.ref fa) → ∃ (K : PySem.W.Frag) (fd : FuncData) (sp : Sp), K.In h ∧ (∀ (s : Shared) (u : Value), BindsTo s fd ⟨[u], []⟩ [(x, u)]) ∧
      (∀ (H : Hp) (a : Addr) (ns : List Int), ns.length ≤ n → (∀ z ∈ ns, Builtin.Int.intBits z ≤ 1048576) → Only H → SqL K H a (ns.map V.int) → sp [.ref a] H (fun v _ => v = .bl true) fun _ _ _ => False) ∧ ∀ base : Heap, K.In base → base.Ns mainGlobals mg → FnOk l.prog w K mg base (CX w) k fa fd [x] sp)
    (hCX : ∀ (w : World) (H : Hp) (s : Shared) (e : Value) (s' : Shared), CX w [] H s (fun _ _ _ => False) e s' → False) : PySem.W.WalkO q loose XP YP l.row.toRowW d [] (fun f vs => PySem.call f vs) := by
  refine Att.attach_callB hn hdf fun w s₀ s₁ mg mb fa o pm cd doc a vs ns G Y ho hd hcd hmg hobj hints hlen hbits hg => ?_
  obtain ⟨K, fd, sp, KX, hb, hsp, hF⟩ := F w mg fa _ Y G.T.g hmg
  exact law_call KX G.T.g G.T.b G.T.builtins G.T.nolimit hg hobj hints (Nat.le_trans hlen hn2) hr hF hb (fun H hO hS => hsp H a ns hlen hbits hO hS) fun H e s' => hCX w H s₁ e s'
theorem noCX {P : Program} (w : World) (H : Hp) (s : Shared) (e : Value) (s' : Shared) (h : L2.CX P w [] H s (fun _ _ _ => False) e s') : False := by
  obtain ⟨_, _, _, _, _, _, _, _, _, _, _, _, z⟩ := h
  exact z
/-- the law's own function at a script -/
theorem law_sp {K : PySem.W.Frag} {mg : Str → Option Value} {n : Nat} {fn : FnM} (hK : ∀ a o, K.lookup a = some o → o.cls ≠ .type "list") (h : ∀ ns : List Int, ns.length ≤ n → (∀ z ∈ ns, Builtin.Int.intBits z ≤ 1048576) → ∃ e, fn [.scr (ns.map .int)] = .ok (.bl true) e)
    (H : Hp) (a : Addr) (ns : List Int) (hl : ns.length ≤ n) (hb : ∀ z ∈ ns, Builtin.Int.intBits z ≤ 1048576) (hO : Only H) (hS : SqL K H a (ns.map V.int)) : spOf mg [.sh] rSh fn [.ref a] H (fun v _ => v = .bl true) fun _ _ _ => False := by
  have hf : ∃ o, H a = some (.frz o (.lst (ns.map V.int))) := by
    rcases hS with (z | ⟨o, z⟩) | ⟨o, its, m, k, c, _⟩
    · rcases hO a with q | ⟨o, xs, q⟩
      · rw [q] at z; cases z
      · rw [q] at z; cases z
    · exact ⟨o, z⟩
    · exact (hK a o k c).elim
  obtain ⟨o, hf⟩ := hf
  obtain ⟨e, he⟩ := h ns hl hb
  refine ⟨fun _ => False, fun _ _ => False, [.scr (ns.map .int)], ⟨rfl, rfl, fun _ z => z, fun _ z => z.elim, fun _ _ z => z.elim, fun _ _ _ z => z.elim, fun i d q => ?_, fun _ _ z => z.elim, fun q hq => (List.not_mem_nil hq).elim⟩, ?_⟩
  · cases i with
    | zero =>
      cases q
      refine ⟨.ref a, .sh, rfl, rfl, ?_, fun _ z => z⟩
      refine .scr (hid_of hf fun z => ?_) (by simp) fun i v d h1 h2 => ?_
      · rcases z with ⟨_, z⟩ | z
        · exact z
        · exact z
      · rw [List.getElem?_map] at h1 h2
        obtain ⟨x, e1, rfl⟩ := Option.map_eq_some_iff.mp h1
        obtain ⟨y, e2, rfl⟩ := Option.map_eq_some_iff.mp h2
        rw [e1] at e2; cases e2
        exact .int _
    | succ i => simp at q
  · unfold At
    rw [he]
    intro v H' Of' P _ _ _ r
    exact r.2.bl'
end Pf
/-! F19: errors. -/
namespace Pf
open PySem PySem.Spec PyProof.Rows L2

/-! ### raise -/
def raiM (cls : Str) : M Fl := fun e => .exc ⟨cls, []⟩ e
section
variable {X : Cx} {C : Cf} {R : Rl D V} {e : Expr} {pos : Pos} {cls : Str} {Cc : Addr}
theorem sx_raise (hc : X.calm = true) (tk : Takes X C.W) (he : PMk X e fun _ H Q => Q (.ref Cc) none H) (hm : X.mg cls = some (.ref Cc)) : PSx X C R (.Raise (some e) none pos) (raiM cls) :=
  ps_imp (ps_raise hc tk he) fun De σ H ⟨Bo, Of, env, S, h⟩ => h σ H Of (.ref Cc) none Ext.refl S ⟨hm, .inl ⟨rfl, rfl⟩⟩
end
/-! ### try -/
def afterClr (i : Nat) : Rx Fl → Rx Fl
  | .ok k e => .ok k (e.set i none)
  | _ => .bad
def tryA (cat : Xn → Option Bool) (i : Nat) (b : M Fl) (h : Xn → M Fl) : M Fl := fun e => match b e with
  | .exc x e1 => (match cat x with
    | some true => afterClr i (h x (e1.set i (some .non)))
    | some false => .exc x e1
    | none => .bad)
  | r => r
def noExc : Rx Fl → Rx Fl
  | .exc _ _ => .bad
  | r => r
def tryO (cat : Xn → Option Bool) (b h : M Fl) : M Fl := fun e => match b e with
  | .exc x e1 => (match cat x with
    | some true => noExc (h e1)
    | some false => .exc x e1
    | none => .bad)
  | r => r
def Cf.hdl (C : Cf) (i : Nat) (a : Addr) (d : Option Addr) (fs : List (Str × D)) : Cf := { C with Ms := C.Ms.set i (.exn a), W := fun _ _ _ _ => False, xd := match d with
  | some q => (match fs with
    | [] => C.xd
    | _ => (q, fs) :: C.xd)
  | none => C.xd }
def Cf.wish (C : Cf) (W : WX) : Cf := { C with W := W }
section
variable {C : Cf} {Bo : Addr → Prop} {H : Hp} {σ σ' : L2.St} {env : Env} {Of : Nat → Addr → Prop} {i : Nat} {a : Addr} {d : Option Addr}
theorem St.wish {W : WX} (S : St C Bo H σ env Of) : St (C.wish W) Bo H σ env Of := ⟨S.len, S.slen, S.b0, S.boIn, S.disB, S.sep, S.slot, S.empt, S.xd⟩
theorem St.unwish {W : WX} (S : St (C.wish W) Bo H σ env Of) : St C Bo H σ env Of := ⟨S.len, S.slen, S.b0, S.boIn, S.disB, S.sep, S.slot, S.empt, S.xd⟩
theorem St.enterH {mg : Str → Option Value} {x : Xn} {c : Value} {G : Hp} (S : St C Bo H σ env Of) (hm : C.Ms[i]? = some .sh) (hx : XnR mg (hid H fun a => Os Of a ∨ Bo a) G x c d) : St (C.hdl i a d x.fs) Bo H (σ.set i (some (.ref a))) (env.set i (some .non)) Of := by
  have hi : i < C.Ms.length := (List.getElem?_eq_some_iff.mp hm).1
  have hie : i < env.length := by rw [S.len]; exact hi
  have no : ∀ y, ¬ Of i y := fun y z => by
    obtain ⟨d, e⟩ := S.empt i y z
    obtain ⟨v, m, h1, h2, r⟩ := S.slot i d e
    rw [hm] at h2; cases h2
    exact r.2 y z
  refine ⟨by simpa [Cf.hdl] using S.len, by simpa using S.slen, S.b0, S.boIn, S.disB, S.sep, fun j d' h => ?_, fun j y z => ?_, fun q hq => ?_⟩
  · by_cases hj : j = i
    · subst hj
      rw [List.getElem?_set_self hie] at h
      cases h
      exact ⟨.ref a, .exn a, by rw [List.getElem?_set_self (by rw [S.slen]; exact hie)], by show (C.Ms.set j _)[j]? = _; rw [List.getElem?_set_self hi], rfl, no⟩
    · rw [List.getElem?_set_ne (Ne.symm hj)] at h
      obtain ⟨v, m, h1, h2, r⟩ := S.slot j d' h
      exact ⟨v, m, by rw [List.getElem?_set_ne (Ne.symm hj)]; exact h1, by show (C.Ms.set i _)[j]? = _; rw [List.getElem?_set_ne (Ne.symm hj)]; exact h2, r⟩
  · by_cases hj : j = i
    · subst hj; exact (no y z).elim
    · obtain ⟨d', e⟩ := S.empt j y z
      exact ⟨d', by rw [List.getElem?_set_ne (Ne.symm hj)]; exact e⟩
  · have hq' : q ∈ (match d with
      | some q => (match x.fs with
        | [] => C.xd
        | _ => (q, x.fs) :: C.xd)
      | none => C.xd) := hq
    split at hq'
    · split at hq'
      · exact S.xd q hq'
      · rename_i n
        rcases List.mem_cons.mp hq' with z | z
        · subst z
          rcases hx.2 with f | ⟨a', e, _, r⟩
          · exact (n f.1).elim
          · cases e; exact r
        · exact S.xd q z
    · exact S.xd q hq'
theorem St.exitH {fs : List (Str × D)} (S : St (C.hdl i a d fs) Bo H σ env Of) (hm : C.Ms[i]? = some .sh) (hl : σ'.length = σ.length) (hs : ∀ j, j ≠ i → σ'[j]? = σ[j]?) : St C Bo H σ' (env.set i none) Of := by
  have hi : i < C.Ms.length := (List.getElem?_eq_some_iff.mp hm).1
  have no : ∀ y, ¬ Of i y := fun y z => by
    obtain ⟨d, e⟩ := S.empt i y z
    obtain ⟨v, m, h1, h2, r⟩ := S.slot i d e
    have h2' : (C.Ms.set i (.exn a))[i]? = some m := h2
    rw [List.getElem?_set_self hi] at h2'
    cases h2'
    exact r.2 y z
  refine ⟨by have := S.len; simpa [Cf.hdl] using this, by rw [hl, S.slen]; simp, S.b0, S.boIn, S.disB, S.sep, fun j d' h => ?_, fun j y z => ?_, fun q hq => S.xd q ?_⟩
  · by_cases hj : j = i
    · subst hj
      rw [List.getElem?_set] at h
      simp only [if_true] at h
      split at h <;> cases h
    · rw [List.getElem?_set_ne (Ne.symm hj)] at h
      obtain ⟨v, m, h1, h2, r⟩ := S.slot j d' h
      have h2' : (C.Ms.set i (.exn a))[j]? = some m := h2
      rw [List.getElem?_set_ne (Ne.symm hj)] at h2'
      exact ⟨v, m, by rw [hs j hj]; exact h1, h2', r⟩
  · by_cases hj : j = i
    · subst hj; exact (no y z).elim
    · obtain ⟨d', e⟩ := S.empt j y z
      exact ⟨d', by rw [List.getElem?_set_ne (Ne.symm hj)]; exact e⟩
  · show q ∈ (match d with
      | some q => (match fs with
        | [] => C.xd
        | _ => (q, fs) :: C.xd)
      | none => C.xd)
    split
    · split
      · exact hq
      · exact List.mem_cons_of_mem _ hq
    · exact hq
end
section
variable {X : Cx} {C : Cf} {R : Rl D V} {body suite : List Stmt} {b₀ : Stmt} {b : M Fl} {h : Xn → M Fl} {i : Nat} {n x : Str} {np pos pos' : Pos} {c : Value} {cat : Xn → Option Bool}
/-- try: .. except x as n: .. -/
theorem sx_tryA (hR : RGood R) (hs : X.stack = X.env :: X.outer) (hf : X.env.frame = some X.env.locals) (hN : X.N.Nodup) (hi : X.N[i]? = some n) (hln : X.env.kindOf n = some .local) (hc : Names X x c) (tk : Takes X C.W)
    (hcat : ∀ (y : Xn) b' c', cat y = some b' → X.mg y.cls = some c' → PySem.W.exmOne X.K c' c = some b') (hm : C.Ms[i]? = some .sh)
    (hb : ∀ (W : WX) (pn : List (Addr × Obj)) (xe : Value → Shared → Prop), Takes (X.tr pn xe) W → PassesOwn (model X.prog X.w) X.A X.env xe → PSsx (X.tr pn xe) (C.wish W) R body b)
    (hh : ∀ (a : Addr) (oe : Obj) (cls : Value) (d : Option Addr) (pn : List (Addr × Obj)) (y : Xn), Zc cls d oe → (∃ vs, oe.data = .fields vs) → X.mg y.cls = some cls → cat y = some true → ((y.fs = [] ∧ d = none) ∨ ∃ q, d = some q ∧ y.fs ≠ []) → PSsx (X.suite a ((a, oe) :: pn)) (C.hdl i a d y.fs) R (b₀ :: suite) (h y)) :
    PSx X C R (.Try body [.ExceptHandler (some (.Name x np)) (some n) (b₀ :: suite) pos'] [] [] pos) (tryA cat i b h) := by
  let ts : Addr → Value → Option Addr → TS := fun a cls d De σ H => ∃ y, X.mg y.cls = some cls ∧ cat y = some true ∧ ((y.fs = [] ∧ d = none) ∨ ∃ q, d = some q ∧ y.fs ≠ []) ∧ rdS X.mg (C.hdl i a d y.fs) R (h y) De σ H
  refine ps_imp (ps_try_as (tb := fun W => rdS X.mg (C.wish W) R b) (ts := ts) (Wout := C.W) hs hf hN hi hln hc tk hb fun a oe cls d pn hz hd => ⟨fun pins s σ H De I ⟨y, y1, y2, y3, q⟩ => (hh a oe cls d pn y hz hd y1 y2 y3).run pins s σ H De I q⟩) fun De σ H ⟨Bo, Of, env, S, q⟩ => ?_
  refine ⟨Bo, Of, env, S.wish, ?_⟩
  unfold AtS tryA at q
  unfold AtS
  cases e : b env with
  | bad => rw [e] at q; exact q
  | ok k env' =>
    rw [e] at q
    cases k with
    | nx => exact fun σ' H' Of' x1 S1 => q σ' H' Of' x1 S1.unwish
    | brk => exact fun σ' H' Of' x1 S1 => q σ' H' Of' x1 S1.unwish
    | cnt => exact fun σ' H' Of' x1 S1 => q σ' H' Of' x1 S1.unwish
    | ret d => exact fun σ' v H' Of' P x1 S1 n1 r1 => q σ' v H' Of' P x1 S1.unwish n1 r1
  | exc y env' =>
    rw [e] at q
    dsimp only at q
    intro σ' H' Of' c' dd x1 S1 r1
    have S1 := S1.unwish
    cases ec : cat y with
    | none => rw [ec] at q; exact q.elim
    | some b' =>
      rw [ec] at q
      refine ⟨b', hcat _ _ _ ec r1.1, fun hb' a ha => ?_, fun hb' => ?_⟩
      · subst hb'
        dsimp only at q
        refine ⟨y, r1.1, ec, r1.2.imp id fun ⟨a, e, n, _⟩ => ⟨a, e, n⟩, Bo, Of', env'.set i (some .non), S1.enterH hm r1, ?_⟩
        unfold AtS
        cases e2 : h y (env'.set i (some .non)) with
        | bad => rw [e2] at q; exact q
        | exc z e3 => rw [e2] at q; exact (show False from q).elim
        | ok k e3 =>
          rw [e2] at q
          cases k with
          | nx => exact fun σ2 H2 Of2 x2 S2 => q (σ2.set i none) H2 Of2 (x1.trans x2) (S2.exitH hm (by simp) fun j hj => List.getElem?_set_ne (Ne.symm hj))
          | brk => exact fun σ2 H2 Of2 x2 S2 => q (σ2.set i none) H2 Of2 (x1.trans x2) (S2.exitH hm (by simp) fun j hj => List.getElem?_set_ne (Ne.symm hj))
          | cnt => exact fun σ2 H2 Of2 x2 S2 => q (σ2.set i none) H2 Of2 (x1.trans x2) (S2.exitH hm (by simp) fun j hj => List.getElem?_set_ne (Ne.symm hj))
          | ret d => exact fun σ2 v H2 Of2 P x2 S2 n2 r2 => q σ2 v H2 Of2 P (x1.trans x2) (S2.exitH hm rfl fun _ _ => rfl) (fun z p => ext_new x1 (n2 z p)) (hR.mono (fun _ z => z) r2)
      · subst hb'
        exact q σ' H' Of' c' dd x1 S1 r1
/-- try: .. except x: .. -/
theorem sx_tryO (hR : RGood R) {h : M Fl} (hs : X.stack = X.env :: X.outer) (hf : X.env.frame = some X.env.locals) (hc : Names X x c) (tk : Takes X C.W)
    (hcat : ∀ (y : Xn) b' c', cat y = some b' → X.mg y.cls = some c' → PySem.W.exmOne X.K c' c = some b')
    (hb : ∀ (W : WX) (pn : List (Addr × Obj)) (xe : Value → Shared → Prop), Takes (X.tr pn xe) W → PassesOwn (model X.prog X.w) X.A X.env xe → PSsx (X.tr pn xe) (C.wish W) R body b)
    (hh : ∀ (a : Addr) (oe : Obj) (pn : List (Addr × Obj)), PSsx (X.suite a ((a, oe) :: pn)) C.blk R (b₀ :: suite) h) :
    PSx X C R (.Try body [.ExceptHandler (some (.Name x np)) none (b₀ :: suite) pos'] [] [] pos) (tryO cat b h) := by
  let ts : Addr → Value → Option Addr → TS := fun _ _ _ De σ H => rdS X.mg C.blk R h De σ H
  refine ps_imp (ps_try_only (tb := fun W => rdS X.mg (C.wish W) R b) (ts := ts) (Wout := C.W) hs hf hc tk hb fun a oe cls d pn hz hd => hh a oe pn) fun De σ H ⟨Bo, Of, env, S, q⟩ => ?_
  refine ⟨Bo, Of, env, S.wish, ?_⟩
  unfold AtS tryO at q
  unfold AtS
  cases e : b env with
  | bad => rw [e] at q; exact q
  | ok k env' =>
    rw [e] at q
    cases k with
    | nx => exact fun σ' H' Of' x1 S1 => q σ' H' Of' x1 S1.unwish
    | brk => exact fun σ' H' Of' x1 S1 => q σ' H' Of' x1 S1.unwish
    | cnt => exact fun σ' H' Of' x1 S1 => q σ' H' Of' x1 S1.unwish
    | ret d => exact fun σ' v H' Of' P x1 S1 n1 r1 => q σ' v H' Of' P x1 S1.unwish n1 r1
  | exc y env' =>
    rw [e] at q
    dsimp only at q
    intro σ' H' Of' c' dd x1 S1 r1
    have S1 := S1.unwish
    cases ec : cat y with
    | none => rw [ec] at q; exact q.elim
    | some b' =>
      rw [ec] at q
      refine ⟨b', hcat _ _ _ ec r1.1, fun hb' a ha => ?_, fun hb' => ?_⟩
      · subst hb'
        dsimp only at q
        refine ⟨Bo, Of', env', S1.blk, ?_⟩
        unfold AtS
        cases e2 : h env' with
        | bad => rw [e2] at q; exact q
        | exc z e3 => rw [e2] at q; exact (show False from q).elim
        | ok k e3 =>
          rw [e2] at q
          cases k with
          | nx => exact fun σ2 H2 Of2 x2 S2 => q σ2 H2 Of2 (x1.trans x2) S2.unblk
          | brk => exact fun σ2 H2 Of2 x2 S2 => q σ2 H2 Of2 (x1.trans x2) S2.unblk
          | cnt => exact fun σ2 H2 Of2 x2 S2 => q σ2 H2 Of2 (x1.trans x2) S2.unblk
          | ret d => exact fun σ2 v H2 Of2 P x2 S2 n2 r2 => q σ2 v H2 Of2 P (x1.trans x2) S2.unblk (fun z p => ext_new x1 (n2 z p)) (hR.mono (fun _ z => z) r2)
      · subst hb'
        exact q σ' H' Of' c' dd x1 S1 r1
end
/-! ### the caught error -/
section
variable {X : Cx} {C : Cf} {a Dc : Addr} {oe : Obj} {pn : List (Addr × Obj)} {i : Nat} {n x : Str} {p p1 p2 pos : Pos} {c2 : Addr} {b : Bool}
/-- the slot of the caught error -/
def rExn (a : Addr) : Rl D V := fun _ _ _ _ _ P _ v => (∀ x, ¬ P x) ∧ v = .ref a
theorem exn_var (hp : PE X (.Name n p) (tVar i)) (hm : C.Ms[i]? = some (.exn a)) : PE X (.Name n p) (rdG X.mg C (rExn a) (vr i)) := pe_imp hp fun σ H Q ⟨Bo, Of, env, S, h⟩ =>
  at_vr S h fun d v m h1 h2 h3 r => by
    rw [hm] at h3; cases h3
    exact ⟨fun _ z => z, r.1⟩
/-- isinstance(e, X), e the caught error without a field -/
theorem sh_isE (E : ExcC X.K Dc) (hz : Zc (.ref Dc) none oe) (hf : ∃ vs, oe.data = .fields vs) (hmi : X.mg "isinstance" = none) (hmx : X.mg x = some (.ref c2)) (hk : PySem.W.kitOne X.K (.ref Dc) (.ref c2) = some b) (hp : PE (X.suite a ((a, oe) :: pn)) (.Name n p1) (tVar i))
    (hm : C.Ms[i]? = some (.exn a)) (hg : Gl X "isinstance") (hgx : Gl X x) (he : starEach [.Name n p1, .Name x p2] X.env = (false, eval (.Name n p1) X.env) :: starEach [.Name x p2] X.env) (hdb : (x == ("__debug__" : Str)) = false := by decide) :
    PSh (X.suite a ((a, oe) :: pn)) C (.Call (.Name "isinstance" p) [.Name n p1, .Name x p2] [] pos) (bnd (vr i) fun _ => ret (.bl b)) :=
  pe_imp (pe_callB (X := X.suite a ((a, oe) :: pn)) (call_isE E hz hf) hg hmi (by decide +kernel) (pa_cons (exn_var (C := C) hp hm) (pa_cons (pe_glob (v := .ref c2) hgx hmx rfl hdb) pa_nil) he) (by decide) (by decide) he (by show (backTo pos [_]).any _ = _; rfl)) fun σ H Q ⟨Bo, Of, env, S, h⟩ =>
    ⟨Bo, Of, env, S, At.bnd0 h (fun _ _ _ _ _ _ _ _ z => z.1) fun d v H1 Of1 env1 _ x1 S1 r1 h1 => by
      obtain rfl := r1.2
      exact ⟨.ref c2, .ref c2, b, rfl, fun u r => r, hk, h1.ret_ok S1 ⟨fun _ z => z, .bl _⟩⟩⟩
theorem fld_look {R : V → D → Prop} {f : Str} {dv : D} : ∀ {fvs : List (Str × V)} {fs : List (Str × D)}, fvs.map Prod.fst = fs.map Prod.fst → Rps R (fvs.map Prod.snd) (fs.map Prod.snd) → fs.lookup f = some dv → ∃ v, fvs.lookup f = some v ∧ R v dv
  | [], [], _, _, h => nomatch h
  | [], _ :: _, h, _, _ => nomatch h
  | _ :: _, [], h, _, _ => nomatch h
  | (k, v) :: fvs, (k', d) :: fs, h, r, l => by
    have h1 : k = k' := by simpa using congrArg List.head? h
    have h2 : fvs.map Prod.fst = fs.map Prod.fst := by simpa using congrArg List.tail h
    subst h1
    rw [List.lookup_cons] at l ⊢
    cases e : f == k with
    | true =>
      rw [e] at l
      cases l
      exact ⟨v, rfl, r.head⟩
    | false =>
      rw [e] at l
      exact fld_look h2 r.tail l
/-- e.n, a field of the caught error -/
theorem sh_fld {fld : Str} {d dd : Addr} {cls : Value} {Cc : Addr} {fs : List (Str × D)} (T : XfC X.K Cc) (hno : PySem.W.findIn X.K (.ref Cc) fld = some none) (hz : Zc (.ref Cc) (some d) oe) (hf : ∃ vs, oe.data = .fields vs) (hp : PE (X.suite a ((a, oe) :: pn)) (.Name n p1) (tVar i))
    (hm : C.Ms[i]? = some (.exn a)) (hx : (d, fs) ∈ C.xd) (hb : attributeBase (.Name n p1) fld X.env (eval (.Name n p1) X.env) = eval (.Name n p1) X.env := by rfl) :
    PSh (X.suite a ((a, oe) :: pn)) C (.Attribute (.Name n p1) fld pos) (bnd (vr i) fun _ => lift (fs.lookup fld)) :=
  pe_imp (pe_xf T hno hz hf (exn_var (C := C) hp hm) hb) fun σ H Q ⟨Bo, Of, env, S, h⟩ =>
    ⟨Bo, Of, env, S, At.bnd0 h (fun _ _ _ _ _ _ _ _ z => z.1) fun d' v H1 Of1 env1 _ x1 S1 r1 h1 => by
      obtain rfl := r1.2
      obtain ⟨dv, e, q⟩ := h1.lift_ok S1
      obtain ⟨fvs, g1, g2, g3⟩ := S1.xd _ hx
      obtain ⟨w, l, r⟩ := fld_look g2 g3 e
      exact ⟨rfl, rfl, d, fvs, w, rfl, (hid_some g1).1, l, q w H1 Of1 (fun _ => False) Ext.refl S1.bo (fun _ z => z.elim) ⟨fun _ z => z, r⟩⟩⟩
end
end Pf
/-! F20: which errors are caught; what is told of classes. -/
namespace Pf
open PySem PySem.Spec PyProof.Rows L2

/-- by the class: is it caught, has it a field -/
def catL (l : List (Str × Bool × Bool)) : Xn → Option Bool := fun x => match l.lookup x.cls with
  | some (b, f) => if x.fs.isEmpty = !f then some b else none
  | none => none
def CatOk (X : Cx) (c : Value) (cat : Xn → Option Bool) : Prop := ∀ (y : Xn) b' c', cat y = some b' → X.mg y.cls = some c' → PySem.W.exmOne X.K c' c = some b'
theorem catOk_of {X : Cx} {c : Value} {l : List (Str × Bool × Bool)} (h : ∀ n b f, l.lookup n = some (b, f) → ∃ c', X.mg n = some c' ∧ PySem.W.exmOne X.K c' c = some b) : CatOk X c (catL l) := fun y b' c' e hm => by
  unfold catL at e
  split at e
  · rename_i b f q
    split at e
    · cases e
      obtain ⟨c'', h1, h2⟩ := h _ _ _ q
      rw [hm] at h1; cases h1
      exact h2
    · cases e
  · cases e
theorem cat_nil {X : Cx} {c : Value} : ∀ (n : Str) (b f : Bool), ([] : List (Str × Bool × Bool)).lookup n = some (b, f) → ∃ c', X.mg n = some c' ∧ PySem.W.exmOne X.K c' c = some b := fun _ _ _ h => nomatch h
theorem cat_cons {X : Cx} {c c1 : Value} {m : Str} {b1 f1 : Bool} {l : List (Str × Bool × Bool)} (hm : X.mg m = some c1) (he : PySem.W.exmOne X.K c1 c = some b1) (r : ∀ (n : Str) (b f : Bool), l.lookup n = some (b, f) → ∃ c', X.mg n = some c' ∧ PySem.W.exmOne X.K c' c = some b) :
    ∀ (n : Str) (b f : Bool), ((m, b1, f1) :: l).lookup n = some (b, f) → ∃ c', X.mg n = some c' ∧ PySem.W.exmOne X.K c' c = some b := fun n b f h => by
  rw [List.lookup_cons] at h
  cases e : n == m with
  | true =>
    rw [e] at h
    cases h
    have : n = m := by simpa using e
    subst this
    exact ⟨c1, hm, he⟩
  | false =>
    rw [e] at h
    exact r n b f h
/-- just one class is caught, without a field -/
theorem one_caught {mg : Str → Option Value} {P : Prop} {l : List (Str × Bool × Bool)} {n : Str} {c1 cls : Value} {y : Xn} {d : Option Addr} (hm : mg n = some c1) (hy : mg y.cls = some cls) (hc : catL l y = some true) (hd : (y.fs = [] ∧ d = none) ∨ ∃ q, d = some q ∧ y.fs ≠ [])
    (hl : (l.filter fun p => p.2.1).all (fun p => p.1 == n && !p.2.2) = true) (k : d = none → cls = c1 → P) : P := by
  unfold catL at hc
  split at hc
  · rename_i b f q
    split at hc
    · rename_i hf
      cases hc
      have hmem : (y.cls, true, f) ∈ l := PySem.mem_of_lookup q
      have := List.all_eq_true.mp hl _ (List.mem_filter.mpr ⟨hmem, rfl⟩)
      simp only [Bool.and_eq_true, beq_iff_eq, Bool.not_eq_true'] at this
      obtain ⟨h1, h2⟩ := this
      subst h2
      rw [h1, hm] at hy
      cases hy
      have he : y.fs = [] := by simpa using hf
      rcases hd with z | ⟨q, z, w⟩
      · exact k z.2 rfl
      · exact (w he).elim
    · cases hc
  · cases hc
/-- what the class at C says, where isinstance asks an error of it -/
def excCB (K : PySem.W.Frag) (C : Addr) : Bool :=
  decide (PySem.W.findIn K (.ref C) "__getattribute__" = some (some (.builtin "BaseException.__getattribute__"))) && (decide (PySem.W.findIn K (.ref C) "__getattr__" = some none) && (decide (PySem.W.subIn K (.ref C) (.type "BaseException") = some true) && (PySem.W.hasDictIn K C &&
    (decide (PySem.W.findIn K (.ref C) "__class__" = some (some (.builtin "object.__class__"))) && (decide (PySem.W.specialIn K (.builtin "object.__class__") "__get__" = some (some (.builtin "getset_descriptor.__get__"))) && (decide (PySem.W.takesIn K (.builtin "object.__class__") = some true) && decide (PySem.W.mroIn K C (.type "object") = some true)))))))
theorem excCB_ok {K : PySem.W.Frag} {C : Addr} (h : excCB K C = true) : ExcC K C := by
  unfold excCB at h
  simp only [Bool.and_eq_true, decide_eq_true_eq] at h
  obtain ⟨h1, h2, h3, h4, h5, h6, h7, h8⟩ := h
  exact ⟨h1, h2, h3, h4, h5, h6, h7, h8⟩
/-- a hook with further tests of the frag -/
def obsV (fa : List He.Fa) (fn : List He.DefD) (fx : PySem.W.Frag → Bool) (as : (Addr → Option Obj) → List Addr) (g : Addr → Option Obj) : He.AlD × Bool := (He.obsD fa fn (He.frG (gU g) (as g)), fx (He.frG (gU g) (as g)))
def hookV (fa : List He.Fa) (fn : List He.DefD) (fx : PySem.W.Frag → Bool) (as : (Addr → Option Obj) → List Addr) : PySem.W.Hook where
  α := He.AlD × Bool
  obs := fun s => obsV fa fn fx as s.heap.get?
  val := fun _ => (He.valD fn, true)
  says := fun _ h => ∃ K : PySem.W.Frag, K.In h ∧ (∀ a o, K.lookup a = some o → o.cls ≠ .type "list") ∧ He.SaysD fa fn K ∧ fx K = true
  of := fun _ s e => ⟨_, fun a o q => (gU_some (He.frG_at _ q)).1, fun a o q => (gU_some (He.frG_at _ q)).2, congrArg Prod.fst e, congrArg Prod.snd e⟩
  keeps := fun _ h h' ⟨K, X, n, c⟩ k => ⟨K, X.keeps k, n, c⟩
theorem obsV_eq {fa : List He.Fa} {fn : List He.DefD} {fx : PySem.W.Frag → Bool} {as : (Addr → Option Obj) → List Addr} {g : Addr → Option Obj} {s : Shared} (h : ∀ a, g a = s.heap.get? a) : obsV fa fn fx as g = (hookV fa fn fx as).obs s := by
  have e : g = s.heap.get? := funext h
  rw [e] <;> rfl
end Pf
/-! P1: plain rules about the code. -/
namespace Pf
open PySem PySem.Spec PyProof.Rows L2

/-! ### running code step by step -/
@[simp] theorem vr_at {i : Nat} {e : Env} : vr i e = match e[i]? with
  | some (some d) => .ok d e
  | _ => .bad := rfl
@[simp] theorem cst_at {d : D} {e : Env} : cst d e = .ok d e := rfl
@[simp] theorem op1_at {g : D → Option D} {a : M D} {e : Env} : op1 g a e = (a e).bnd fun x => lift (g x) := rfl
@[simp] theorem op2_at {g : D → D → Option D} {a b : M D} {e : Env} : op2 g a b e = (a e).bnd fun x => bnd b fun y => lift (g x y) := rfl
@[simp] theorem iteM_at {α : Type} {c : M Bool} {a b : M α} {e : Env} : iteM c a b e = (c e).bnd fun x => if x = true then a else b := rfl
@[simp] theorem andB_at {a b : M Bool} {e : Env} : andB a b e = (a e).bnd fun x => if x = true then b else ret false := rfl
@[simp] theorem orB_at {a b : M Bool} {e : Env} : orB a b e = (a e).bnd fun x => if x = true then ret true else b := rfl
@[simp] theorem notB_at {a : M Bool} {e : Env} : notB a e = (a e).bnd fun x => ret (!x) := rfl
@[simp] theorem tb_at {a : M D} {e : Env} : tb a e = (a e).bnd fun x => lift (blD x) := rfl
@[simp] theorem tru_at {a : M D} {e : Env} : tru a e = (a e).bnd fun x => lift (truD x) := rfl
@[simp] theorem andV_at {a b : M D} {e : Env} : andV a b e = (a e).bnd fun x => match x with
  | .bl true => b
  | .bl false => ret (.bl false)
  | _ => fun _ => .bad := rfl
@[simp] theorem orV_at {a b : M D} {e : Env} : orV a b e = (a e).bnd fun x => match x with
  | .bl true => ret (.bl true)
  | .bl false => b
  | _ => fun _ => .bad := rfl
@[simp] theorem nilM_at {e : Env} : nilM e = .ok [] e := rfl
@[simp] theorem consM_at {a : M D} {r : M (List D)} {e : Env} : consM a r e = (a e).bnd fun x => bnd r fun xs => ret (x :: xs) := rfl
@[simp] theorem tupM_at {r : M (List D)} {e : Env} : tupM r e = (r e).bnd fun xs => lift (if xs.length ≤ sizeLine then some (.tup xs) else none) := rfl
@[simp] theorem lstM_at {r : M (List D)} {e : Env} : lstM r e = (r e).bnd fun xs => lift (if xs.length ≤ sizeLine then some (.lst xs) else none) := rfl
@[simp] theorem seqM_at {f g : M Fl} {e : Env} : seqM f g e = (f e).bnd fun k => match k with
  | .nx => g
  | r => ret r := rfl
@[simp] theorem nop_at {e : Env} : nop e = .ok .nx e := rfl
@[simp] theorem drop_at {f : M D} {e : Env} : drop f e = (f e).bnd fun _ => ret .nx := rfl
@[simp] theorem retM_at {f : M D} {e : Env} : retM f e = (f e).bnd fun d => ret (.ret d) := rfl
@[simp] theorem retN_at {e : Env} : retN e = .ok (.ret .non) e := rfl
@[simp] theorem asg_at {i : Nat} {f : M D} {e : Env} : asg i f e = (f e).bnd fun d e => .ok .nx (e.set i (some d)) := rfl
@[simp] theorem parM_at {is : List Nat} {fr : M (List D)} {e : Env} : parM is fr e = (fr e).bnd fun ds e => if ds.length = is.length then .ok .nx (setE e is ds) else .bad := rfl
@[simp] theorem itS_at {f : M D} {e : Env} : itS f e = (f e).bnd fun d => lift (seqD d) := rfl
@[simp] theorem itE_at {f : M D} {e : Env} : itE f e = (f e).bnd fun d => lift ((seqD d).map enumL) := rfl
@[simp] theorem itZ_at {f g : M D} {e : Env} : itZ f g e = (f e).bnd fun x => bnd g fun y => lift (match seqD x, seqD y with
  | some xs, some ys => some (zipL xs ys)
  | _, _ => none) := rfl
@[simp] theorem itR1_at {f : M D} {e : Env} : itR1 f e = (f e).bnd fun d => lift (rng1D d) := rfl
@[simp] theorem itR2_at {f g : M D} {e : Env} : itR2 f g e = (f e).bnd fun x => bnd g fun y => lift (rng2D x y) := rfl
@[simp] theorem forX_at {it : M (List D)} {tg : Tg} {b : M Fl} {e : Env} : forX it tg b e = (it e).bnd fun xs => forM tg b xs := rfl
@[simp] theorem callM_at {fn : FnM} {ks : List Ak} {fr : M (List D)} {e : Env} : callM fn ks fr e = (fr e).bnd fun ds e => match argsAt ks ds e with
  | none => .bad
  | some as => match fn as with
    | .ok d es => .ok d (backA ks es e)
    | .exc x es => .exc x (backA ks es e)
    | .bad => .bad := rfl
@[simp] theorem herM_at {j : Nat} {e : Env} : herM j e = match e[j]? with
  | some (some _) => .ok .non e
  | _ => .bad := rfl
@[simp] theorem mvM_at {j : Nat} {e : Env} : mvM j e = match e[j]? with
  | some (some d) => .ok d (e.set j none)
  | _ => .bad := rfl
theorem fnOf_at {pm : List Md} {n : Nat} {b : M Fl} {ds : List D} : fnOf pm n b ds = match b (ds.map some ++ List.replicate (n - ds.length) none) with
  | .ok (.ret d) e => .ok d (keepIo pm e)
  | .ok .nx e => .ok .non (keepIo pm e)
  | .exc x e => .exc x (keepIo pm e)
  | _ => .bad := rfl
/-! ### loops -/
/-- a loop that runs through, with what stays true -/
theorem forM_inv {tg : Tg} {b : M Fl} (P : List D → Env → Prop) : ∀ {xs : List D} {e : Env}, (∀ x r e, P (x :: r) e → (x :: r) <:+ xs → ∃ e1 e2, tg x e = some e1 ∧ (b e1 = .ok .nx e2 ∨ b e1 = .ok .cnt e2) ∧ P r e2) → P xs e → ∃ e', forM tg b xs e = .ok .nx e' ∧ P [] e'
  | [], e, _, h => ⟨e, rfl, h⟩
  | x :: r, e, st, h => by
    obtain ⟨e1, e2, h1, h2, h3⟩ := st x r e h (List.suffix_refl _)
    obtain ⟨e', g1, g2⟩ := forM_inv P (xs := r) (e := e2) (fun y s e hp hs => st y s e hp (List.IsSuffix.trans hs (List.suffix_cons _ _))) h3
    refine ⟨e', ?_, g2⟩
    unfold forM
    rw [h1]
    dsimp only
    rcases h2 with h2 | h2
    · rw [bnd_at, h2]; exact g1
    · rw [bnd_at, h2]; exact g1
/-- more steps give the same -/
theorem whN_more {c : M Bool} {b : M Fl} : ∀ {n m : Nat} {e : Env}, whN n c b e ≠ .bad → n ≤ m → whN m c b e = whN n c b e
  | 0, m, e, h, _ => (h rfl).elim
  | n + 1, 0, e, _, h => by omega
  | n + 1, m + 1, e, h, hm => by
    have key : ∀ n e, whN (n + 1) c b e = (c e).bnd fun k => if k = true then bnd b fun r => match r with
      | .nx => whN n c b
      | .cnt => whN n c b
      | .brk => ret .nx
      | .ret d => ret (.ret d) else ret .nx := fun _ _ => rfl
    rw [key n] at h
    rw [key m, key n]
    cases q : c e with
    | bad => rfl
    | exc x e1 => rfl
    | ok k e1 =>
      rw [q, bnd_ok] at h
      rw [bnd_ok, bnd_ok]
      cases k with
      | false => rfl
      | true =>
        rw [if_pos rfl, bnd_at] at h
        rw [if_pos rfl, if_pos rfl, bnd_at, bnd_at]
        cases q2 : b e1 with
        | bad => rfl
        | exc x e2 => rfl
        | ok r e2 =>
          rw [q2, bnd_ok] at h
          rw [bnd_ok, bnd_ok]
          cases r with
          | nx => exact whN_more h (by omega)
          | cnt => exact whN_more h (by omega)
          | brk => rfl
          | ret d => rfl
theorem whM_of {c : M Bool} {b : M Fl} {n : Nat} {e : Env} {r : Rx Fl} (h : whN n c b e = r) (hr : r ≠ .bad) : whM c b e = r := by
  have ex : ∃ n, whN n c b e ≠ .bad := ⟨n, by rw [h]; exact hr⟩
  unfold whM
  rw [dif_pos ex]
  have hc := Classical.choose_spec ex
  rcases Nat.le_total (Classical.choose ex) n with q | q
  · rw [← whN_more hc q, h]
  · rw [whN_more (by rw [h]; exact hr) q, h]
/-- a while loop, turn by turn -/
theorem whM_stop {c : M Bool} {b : M Fl} {e e1 : Env} (h : c e = .ok false e1) : whM c b e = .ok .nx e1 := whM_of (n := 1) (by unfold whN; rw [bnd_at, h, bnd_ok]; rfl) (fun z => by cases z)
theorem whM_turn {c : M Bool} {b : M Fl} {e e1 e2 : Env} {r : Rx Fl} (h : c e = .ok true e1) (hb : b e1 = .ok .nx e2) (hw : whM c b e2 = r) (hr : r ≠ .bad) : whM c b e = r := by
  have ex : ∃ n, whN n c b e2 ≠ .bad := by
    unfold whM at hw
    split at hw
    · rename_i q; exact q
    · exact (hr hw.symm).elim
  obtain ⟨n, hn⟩ := ex
  have e3 : whN n c b e2 = r := by rw [← hw]; exact (whM_of rfl hn).symm
  refine whM_of (n := n + 1) ?_ hr
  unfold whN
  rw [bnd_at, h, bnd_ok, if_pos rfl, bnd_at, hb, bnd_ok]
  exact e3
/-- comprehensions without fixed slots, without tests: items by a function -/
theorem lcJ_map {vs : List Nat} {tg : Tg} {f : M D} {e0 : Env} (g : D → D) : ∀ {xs : List D} {e : Env} (P : Env → Prop), P e → (∀ x ∈ xs, ∀ e, P e → ∃ e1 e2, tg x (wipeE e vs) = some e1 ∧ f e1 = .ok (g x) e2 ∧ P e2) → ∃ e', lcJ [] e0 vs tg (ret true) f xs e = .ok (xs.map g) e' ∧ P e'
  | [], e, P, h, _ => ⟨e, by unfold lcJ; rw [if_pos chk_nil]; rfl, h⟩
  | x :: r, e, P, h, st => by
    obtain ⟨e1, e2, h1, h2, h3⟩ := st x (by simp) e h
    obtain ⟨e', g1, g2⟩ := lcJ_map g (xs := r) P h3 fun y hy e he => st y (by simp [hy]) e he
    refine ⟨e', ?_, g2⟩
    unfold lcJ
    rw [if_pos chk_nil, h1]
    dsimp only
    rw [bnd_at, ret_at, bnd_ok, if_pos rfl, bnd_at, h2, bnd_ok, bnd_at, g1]
    rfl
end Pf
namespace Pf
open PySem PySem.Spec PyProof.Rows L2
def top (i : Nat) : Stmt := PySem.Challenge.pw_firingrounds_k21_edge_rooms.main.body.getD i (.Pass ⟨0, 0, 0, 0⟩)
/-- where the defs stand, which names are free -/
structure Fx (K : PySem.W.Frag) (mg : Str → Option Value) (fa : Nat → Addr) (fd : Nat → FuncData) (ca : Str → Addr) : Prop where
  F_is_integer : FunD K "is_integer" "is_integer" (defArgs (top 5)) (defBody (top 5)) (defScope (top 5)) [] [] (fa 0) (fd 0)
  g_is_integer : mg "is_integer" = some (.ref (fa 0))
  F_is_from : FunD K "is_from" "is_from" (defArgs (top 6)) (defBody (top 6)) (defScope (top 6)) [] [] (fa 1) (fd 1)
  g_is_from : mg "is_from" = some (.ref (fa 1))
  F_room_alone : FunD K "room_alone" "room_alone" (defArgs (top 8)) (defBody (top 8)) (defScope (top 8)) [] [] (fa 2) (fd 2)
  g_room_alone : mg "room_alone" = some (.ref (fa 2))
  F_edge_room : FunD K "edge_room" "edge_room" (defArgs (top 9)) (defBody (top 9)) (defScope (top 9)) [] [] (fa 3) (fd 3)
  g_edge_room : mg "edge_room" = some (.ref (fa 3))
  F__law_pot : FunD K "_law_pot" "_law_pot" (defArgs (top 11)) (defBody (top 11)) (defScope (top 11)) [] [] (fa 4) (fd 4)
  g__law_pot : mg "_law_pot" = some (.ref (fa 4))
  F__law_draw : FunD K "_law_draw" "_law_draw" (defArgs (top 12)) (defBody (top 12)) (defScope (top 12)) [] [] (fa 5) (fd 5)
  g__law_draw : mg "_law_draw" = some (.ref (fa 5))
  F__law_same : FunD K "_law_same" "_law_same" (defArgs (top 13)) (defBody (top 13)) (defScope (top 13)) [] [] (fa 6) (fd 6)
  g__law_same : mg "_law_same" = some (.ref (fa 6))
  F__law_gcd : FunD K "_law_gcd" "_law_gcd" (defArgs (top 14)) (defBody (top 14)) (defScope (top 14)) [] [] (fa 7) (fd 7)
  g__law_gcd : mg "_law_gcd" = some (.ref (fa 7))
  F__law_odd : FunD K "_law_odd" "_law_odd" (defArgs (top 15)) (defBody (top 15)) (defScope (top 15)) [] [] (fa 8) (fd 8)
  g__law_odd : mg "_law_odd" = some (.ref (fa 8))
  F__law_told : FunD K "_law_told" "_law_told" (defArgs (top 16)) (defBody (top 16)) (defScope (top 16)) [] [] (fa 9) (fd 9)
  g__law_told : mg "_law_told" = some (.ref (fa 9))
  F__law_due : FunD K "_law_due" "_law_due" (defArgs (top 17)) (defBody (top 17)) (defScope (top 17)) [] [] (fa 10) (fd 10)
  g__law_due : mg "_law_due" = some (.ref (fa 10))
  F_law : FunD K "law" "law" (defArgs (top 18)) (defBody (top 18)) (defScope (top 18)) [] [] (fa 11) (fd 11)
  g_law : mg "law" = some (.ref (fa 11))
  n_len : mg "len" = none
  n_range : mg "range" = none
  n_isinstance : mg "isinstance" = none
  n_int : mg "int" = none
  n_bool : mg "bool" = none
  n_str : mg "str" = none
  n_tuple : mg "tuple" = none
  n_list : mg "list" = none
  n_abs : mg "abs" = none
  n_min : mg "min" = none
  n_max : mg "max" = none
  n_all : mg "all" = none
  p_gcd : mg "gcd" = some (.builtin "math.gcd")
  g_FiringError : mg "FiringError" = some (.ref (ca "FiringError"))
  x_FiringError : PySem.W.excIn K (ca "FiringError") He.veBase "ValueError.__new__" = true
  k_FiringError : PySem.W.keepIn K (.ref (ca "FiringError")) = true
  s_FiringError : PySem.W.subIn K (.ref (ca "FiringError")) (.type "BaseException") = some true
  t_FiringError : PySem.W.typeIn K (.ref (ca "FiringError")) = some (.type "type")
  g_InvalidNumber : mg "InvalidNumber" = some (.ref (ca "InvalidNumber"))
  x_InvalidNumber : PySem.W.excIn K (ca "InvalidNumber") He.veBase "ValueError.__new__" = true
  k_InvalidNumber : PySem.W.keepIn K (.ref (ca "InvalidNumber")) = true
  s_InvalidNumber : PySem.W.subIn K (.ref (ca "InvalidNumber")) (.type "BaseException") = some true
  t_InvalidNumber : PySem.W.typeIn K (.ref (ca "InvalidNumber")) = some (.type "type")
  m_InvalidNumber_InvalidNumber : PySem.W.exmOne K (.ref (ca "InvalidNumber")) (.ref (ca "InvalidNumber")) = some true
  E_InvalidNumber : ExcC K (ca "InvalidNumber")
  i_InvalidNumber_FiringError : PySem.W.kitOne K (.ref (ca "InvalidNumber")) (.ref (ca "FiringError")) = some true
section
variable {P : Program} {w : World} {K : PySem.W.Frag} {mg : Str → Option Value} {base : Heap} {fa : Nat → Addr} {fd : Nat → FuncData} {ca : Str → Addr}
theorem b_is_integer (T : Fx K mg fa fd ca) : Binds K (fd 0) ["value"] [] := T.F_is_integer.bindsN fun _ _ _ _ _ _ us hl => match us, hl with | [_], _ => rfl
theorem b_is_from (T : Fx K mg fa fd ca) : Binds K (fd 1) ["least", "value"] [] := T.F_is_from.bindsN fun _ _ _ _ _ _ us hl => match us, hl with | [_, _], _ => rfl
theorem b_room_alone (T : Fx K mg fa fd ca) : Binds K (fd 2) ["put", "take", "held"] [] := T.F_room_alone.bindsN fun _ _ _ _ _ _ us hl => match us, hl with | [_, _, _], _ => rfl
theorem b_edge_room (T : Fx K mg fa fd ca) : Binds K (fd 3) ["put", "take", "held"] [] := T.F_edge_room.bindsN fun _ _ _ _ _ _ us hl => match us, hl with | [_, _, _], _ => rfl
theorem kb_edge_room_2 (T : Fx K mg fa fd ca) : KwB K (fd 3) ["put", "take", "held"] ["held"] 2 := kwb T.F_edge_room 2 1 rfl fun _ _ _ _ _ _ us ws h1 h2 => match us, ws, h1, h2 with | [a0, a1], [a2], _, _ => rfl
theorem b__law_pot (T : Fx K mg fa fd ca) : Binds K (fd 4) ["script", "at"] [] := T.F__law_pot.bindsN fun _ _ _ _ _ _ us hl => match us, hl with | [_, _], _ => rfl
theorem b__law_draw (T : Fx K mg fa fd ca) : Binds K (fd 5) ["pot", "many"] [] := T.F__law_draw.bindsN fun _ _ _ _ _ _ us hl => match us, hl with | [_, _], _ => rfl
theorem b__law_same (T : Fx K mg fa fd ca) : Binds K (fd 6) ["got", "due"] [] := T.F__law_same.bindsN fun _ _ _ _ _ _ us hl => match us, hl with | [_, _], _ => rfl
theorem b__law_gcd (T : Fx K mg fa fd ca) : Binds K (fd 7) ["one", "other"] [] := T.F__law_gcd.bindsN fun _ _ _ _ _ _ us hl => match us, hl with | [_, _], _ => rfl
theorem b__law_odd (T : Fx K mg fa fd ca) : Binds K (fd 8) ["pot"] [] := T.F__law_odd.bindsN fun _ _ _ _ _ _ us hl => match us, hl with | [_], _ => rfl
theorem b__law_told (T : Fx K mg fa fd ca) : Binds K (fd 9) ["put", "take", "held"] [] := T.F__law_told.bindsN fun _ _ _ _ _ _ us hl => match us, hl with | [_, _, _], _ => rfl
theorem b__law_due (T : Fx K mg fa fd ca) : Binds K (fd 10) ["put", "take", "held"] [] := T.F__law_due.bindsN fun _ _ _ _ _ _ us hl => match us, hl with | [_, _, _], _ => rfl
theorem b_law (T : Fx K mg fa fd ca) : Binds K (fd 11) ["script"] [] := T.F_law.bindsN fun _ _ _ _ _ _ us hl => match us, hl with | [_], _ => rfl
/-! ### is_integer: slots 0 value -/
noncomputable def c_is_integer : M Fl := (seqM (retM (andV (op1 (isiD .int) (vr 0)) (op1 notD (op1 (isiD .bool) (vr 0)))))
  nop)
noncomputable def f_is_integer : FnM := fnOf [.sh] 1 c_is_integer
theorem s_is_integer : FnScope ["value"] ["value"] (defScope (top 5)) := ⟨rfl, rfl, rfl, by decide +kernel, rfl, by decide +kernel, by decide +kernel⟩
theorem ok_is_integer (T : Fx K mg fa fd ca) : FnOk P w K mg base (L2.CX P w) 1 (fa 0) (fd 0) ["value"] (spOf mg [.sh] rSh f_is_integer) := by
    have S := s_is_integer
    refine fn_ok (k := 0) (pm := [.sh]) (loc := []) T.F_is_integer S rg_sh rfl rfl rfl fun cdv A outer s H E v0 B0 hr => ?_
    refine sx_cons (sx_retS (sh_and (sh_isi .int T.n_isinstance T.n_int rfl (PSh.rd (sh_var (pv 0)))) (sh_one (sh_not (sh_isi .bool T.n_isinstance T.n_bool rfl (PSh.rd (sh_var (pv 0)))))))) ?_
    exact sx_nil
/-! ### is_from: slots 0 least, 1 value -/
noncomputable def c_is_from : M Fl := (seqM (retM (andV (callM f_is_integer [.sh] (consM (vr 1) nilM)) (op2 geD (vr 1) (vr 0))))
  nop)
noncomputable def f_is_from : FnM := fnOf [.sh, .sh] 2 c_is_from
theorem s_is_from : FnScope ["least", "value"] ["least", "value"] (defScope (top 6)) := ⟨rfl, rfl, rfl, by decide +kernel, rfl, by decide +kernel, by decide +kernel⟩
theorem ok_is_from (T : Fx K mg fa fd ca) : FnOk P w K mg base (L2.CX P w) 2 (fa 1) (fd 1) ["least", "value"] (spOf mg [.sh, .sh] rSh f_is_from) := by
    have S := s_is_from
    refine fn_ok (k := 1) (pm := [.sh, .sh]) (loc := []) T.F_is_from S rg_sh rfl rfl rfl fun cdv A outer s H E v0 B0 hr => ?_
    refine sx_cons (sx_retS (sh_and (pe_fn rg_sh ((ok_is_integer T).mono (by decide)) hr T.g_is_integer T.F_is_integer.kp (b_is_integer T) (takes_of rfl rfl rfl rfl) (ars_sh (sh_var (pv 1)) ars_nil)) (sh_one (sh_ge (PSh.rd (sh_var (pv 1))) (PSh.rd (sh_var (pv 0))))))) ?_
    exact sx_nil
/-! ### room_alone: slots 0 put, 1 take, 2 held, 3 common, 4 room -/
noncomputable def c_room_alone : M Fl := (seqM (asg 3 (op2 gcdD (vr 0) (vr 1)))
  (seqM (asg 4 (op2 addD (op2 subD (op2 addD (vr 0) (vr 1)) (vr 3)) (op2 modD (vr 2) (vr 3))))
  (seqM (retM (iteM (tb (op2 leD (vr 2) (vr 4))) (vr 4) (vr 2)))
  nop)))
noncomputable def f_room_alone : FnM := fnOf [.sh, .sh, .sh] 5 c_room_alone
theorem s_room_alone : FnScope ["put", "take", "held", "common", "room"] ["put", "take", "held"] (defScope (top 8)) := ⟨rfl, rfl, rfl, by decide +kernel, rfl, by decide +kernel, by decide +kernel⟩
theorem ok_room_alone (T : Fx K mg fa fd ca) : FnOk P w K mg base (L2.CX P w) 1 (fa 2) (fd 2) ["put", "take", "held"] (spOf mg [.sh, .sh, .sh] rSh f_room_alone) := by
    have S := s_room_alone
    refine fn_ok (k := 0) (pm := [.sh, .sh, .sh]) (loc := [.sh, .sh]) T.F_room_alone S rg_sh rfl rfl rfl fun cdv A outer s H E v0 B0 hr => ?_
    refine sx_cons (sx_asg (ps_set S.nd rfl (by first | exact Or.inl rfl | exact Or.inr rfl) (sh_gcd T.p_gcd (PSh.rd (sh_var (pv 0))) (PSh.rd (sh_var (pv 1)))))) ?_
    refine sx_cons (sx_asg (ps_set S.nd rfl (by first | exact Or.inl rfl | exact Or.inr rfl) (sh_add (PSh.sm (sh_sub (PSh.rd (sh_add (PSh.sm (sh_var (pv 0))) (PSh.sm (sh_var (pv 1))))) (PSh.rd (sh_var (pv 3))))) (PSh.sm (sh_mod (PSh.rd (sh_var (pv 2))) (PSh.rd (sh_var (pv 3)))))))) ?_
    refine sx_cons (sx_retS (sh_if (bl_le (PSh.rd (sh_var (pv 2))) (PSh.rd (sh_var (pv 4)))) (sh_var (pv 4)) (sh_var (pv 2)))) ?_
    exact sx_nil
/-! ### edge_room: slots 0 put, 1 take, 2 held -/
noncomputable def c_edge_room : M Fl := (seqM (iteM (orB (notB (tru (callM f_is_from [.sh, .sh] (consM (cst (.int 1)) (consM (vr 0) nilM))))) (orB (notB (tru (callM f_is_from [.sh, .sh] (consM (cst (.int 1)) (consM (vr 1) nilM))))) (notB (tru (callM f_is_from [.sh, .sh] (consM (cst (.int 0)) (consM (vr 2) nilM))))))) (seqM (raiM "InvalidNumber") nop) nop)
  (seqM (retM (callM f_room_alone [.sh, .sh, .sh] (consM (vr 0) (consM (vr 1) (consM (vr 2) nilM)))))
  nop))
noncomputable def f_edge_room : FnM := fnOf [.sh, .sh, .sh] 3 c_edge_room
theorem s_edge_room : FnScope ["put", "take", "held"] ["put", "take", "held"] (defScope (top 9)) := ⟨rfl, rfl, rfl, by decide +kernel, rfl, by decide +kernel, by decide +kernel⟩
theorem ok_edge_room (T : Fx K mg fa fd ca) : FnOk P w K mg base (L2.CX P w) 3 (fa 3) (fd 3) ["put", "take", "held"] (spOf mg [.sh, .sh, .sh] rSh f_edge_room) := by
    have S := s_edge_room
    refine fn_ok (k := 2) (pm := [.sh, .sh, .sh]) (loc := []) T.F_edge_room S rg_sh rfl rfl rfl fun cdv A outer s H E v0 B0 hr => ?_
    refine sx_cons (sx_if (PWb.bl (bw_or (bl_not (bl_tru (PSh.rd (pe_fn rg_sh ((ok_is_from T).mono (by decide)) hr T.g_is_from T.F_is_from.kp (b_is_from T) (takes_of rfl rfl rfl rfl) (ars_sh (sh_int) (ars_sh (sh_var (pv 0)) ars_nil)))))) (bw_or (bl_not (bl_tru (PSh.rd (pe_fn rg_sh ((ok_is_from T).mono (by decide)) hr T.g_is_from T.F_is_from.kp (b_is_from T) (takes_of rfl rfl rfl rfl) (ars_sh (sh_int) (ars_sh (sh_var (pv 1)) ars_nil)))))) (bw_or1 (bl_not (bl_tru (PSh.rd (pe_fn rg_sh ((ok_is_from T).mono (by decide)) hr T.g_is_from T.F_is_from.kp (b_is_from T) (takes_of rfl rfl rfl rfl) (ars_sh (sh_int) (ars_sh (sh_var (pv 2)) ars_nil)))))))))) (sx_cons (sx_raise rfl (takes_of rfl rfl rfl rfl) (pmk_own PySem.F.excBase_ValueError T.x_InvalidNumber T.g_InvalidNumber T.k_InvalidNumber (raises_own T.s_InvalidNumber T.t_InvalidNumber) rfl) T.g_InvalidNumber) sx_nil) sx_nil) ?_
    refine sx_cons (sx_retS (pe_fn rg_sh ((ok_room_alone T).mono (by decide)) hr T.g_room_alone T.F_room_alone.kp (b_room_alone T) (takes_of rfl rfl rfl rfl) (ars_sh (sh_var (pv 0)) (ars_sh (sh_var (pv 1)) (ars_sh (sh_var (pv 2)) ars_nil))))) ?_
    exact sx_nil
/-! ### _law_pot: slots 0 script, 1 at, 2 cell -/
noncomputable def c__law_pot : M Fl := (seqM (asg 2 (op2 mulD (cst (.int 7)) (vr 1)))
  (seqM (iteM (tb (op2 ltD (vr 1) (op1 lenD (vr 0)))) (seqM (asg 2 (op2 idxD (vr 0) (vr 1))) nop) nop)
  (seqM (asg 2 (op2 modD (op1 intD (op1 absD (vr 2))) (op2 mulD (op2 mulD (op2 mulD (op2 powD (cst (.int 10)) (cst (.int 60))) (op2 powD (cst (.int 10)) (cst (.int 60)))) (op2 powD (cst (.int 10)) (cst (.int 60)))) (op2 powD (cst (.int 10)) (cst (.int 60))))))
  (seqM (retM (lstM (consM (vr 2) (consM (op1 intD (op2 geD (vr 2) (op2 powD (cst (.int 10)) (cst (.int 18))))) (consM (op2 mulD (cst (.int 3)) (vr 1)) nilM)))))
  nop))))
noncomputable def f__law_pot : FnM := fnOf [.sh, .sh] 3 c__law_pot
theorem s__law_pot : FnScope ["script", "at", "cell"] ["script", "at"] (defScope (top 11)) := ⟨rfl, rfl, rfl, by decide +kernel, rfl, by decide +kernel, by decide +kernel⟩
theorem ok__law_pot (T : Fx K mg fa fd ca) : FnOk P w K mg base (L2.CX P w) 1 (fa 4) (fd 4) ["script", "at"] (spOf mg [.sh, .sh] (rOw 1) f__law_pot) := by
    have S := s__law_pot
    refine fn_ok (k := 0) (pm := [.sh, .sh]) (loc := [.sh]) T.F__law_pot S (rg_ow 1) rfl rfl rfl fun cdv A outer s H E v0 B0 hr => ?_
    refine sx_cons (sx_asg (ps_set S.nd rfl (by first | exact Or.inl rfl | exact Or.inr rfl) (sh_mul (PSh.rd (sh_int)) (PSh.rd (sh_var (pv 1)))))) ?_
    refine sx_cons (sx_if (bl_lt (PSh.rd (sh_var (pv 1))) (PSh.rd (sh_len T.n_len (PSh.rd (sh_var (pv 0)))))) (sx_cons (sx_asg (ps_set S.nd rfl (by first | exact Or.inl rfl | exact Or.inr rfl) (sh_ix (PSh.sm (sh_var (pv 0))) (PSh.rd (sh_var (pv 1)))))) sx_nil) sx_nil) ?_
    refine sx_cons (sx_asg (ps_set S.nd rfl (by first | exact Or.inl rfl | exact Or.inr rfl) (sh_mod (PSh.rd (sh_int' T.n_int (PSh.rd (sh_abs T.n_abs (PSh.rd (sh_var (pv 2))))))) (PSh.rd (sh_mul (PSh.rd (sh_mul (PSh.rd (sh_mul (PSh.rd (sh_pow (PSh.rd (sh_int)) (PSh.rd (sh_int)))) (PSh.rd (sh_pow (PSh.rd (sh_int)) (PSh.rd (sh_int)))))) (PSh.rd (sh_pow (PSh.rd (sh_int)) (PSh.rd (sh_int)))))) (PSh.rd (sh_pow (PSh.rd (sh_int)) (PSh.rd (sh_int))))))))) ?_
    refine sx_cons (sx_retO (ow_lst (shs_cons (sh_var (pv 2)) (shs_cons (sh_int' T.n_int (PSh.rd (sh_ge (PSh.rd (sh_var (pv 2))) (PSh.rd (sh_pow (PSh.rd (sh_int)) (PSh.rd (sh_int))))))) (shs_cons (sh_mul (PSh.rd (sh_int)) (PSh.rd (sh_var (pv 1)))) shs_nil))))) ?_
    exact sx_nil
/-! ### _law_draw: slots 0 pot, 1 many, 2 found, 3 mixed -/
noncomputable def c__law_draw : M Fl := (seqM (setM 0 (op2 addD (op2 idxD (vr 0) (cst (.int 2))) (cst (.int 1))) (cst (.int 2)))
  (seqM (iteM (andB (tb (op2 eqD (op2 idxD (vr 0) (cst (.int 1))) (cst (.int 1)))) (tb (op2 gtD (op2 idxD (vr 0) (cst (.int 0))) (cst (.int 0))))) (seqM (asg 2 (op2 modD (op1 intD (op2 idxD (vr 0) (cst (.int 0)))) (vr 1))) (seqM (setM 0 (op2 fdivD (op2 idxD (vr 0) (cst (.int 0))) (vr 1)) (cst (.int 0))) (seqM (retM (vr 2)) nop))) nop)
  (seqM (asg 3 (op2 modD (op1 intD (op2 mulD (op2 addD (op2 addD (op2 idxD (vr 0) (cst (.int 0))) (op2 mulD (cst (.int 977)) (op2 idxD (vr 0) (cst (.int 2))))) (cst (.int 1))) (cst (.int 48271)))) (cst (.int 2147483647))))
  (seqM (asg 3 (op2 modD (op1 intD (op2 mulD (vr 3) (vr 3))) (cst (.int 2147483629))))
  (seqM (asg 3 (op2 modD (op1 intD (op2 mulD (op2 addD (vr 3) (op2 mulD (cst (.int 40692)) (op2 idxD (vr 0) (cst (.int 2))))) (cst (.int 69621)))) (cst (.int 2147483563))))
  (seqM (retM (op2 modD (op1 intD (op2 fdivD (vr 3) (cst (.int 8)))) (vr 1)))
  nop))))))
noncomputable def f__law_draw : FnM := fnOf [.io 1, .sh] 4 c__law_draw
theorem s__law_draw : FnScope ["pot", "many", "found", "mixed"] ["pot", "many"] (defScope (top 12)) := ⟨rfl, rfl, rfl, by decide +kernel, rfl, by decide +kernel, by decide +kernel⟩
theorem ok__law_draw (T : Fx K mg fa fd ca) : FnOk P w K mg base (L2.CX P w) 1 (fa 5) (fd 5) ["pot", "many"] (spOf mg [.io 1, .sh] rSh f__law_draw) := by
    have S := s__law_draw
    refine fn_ok (k := 0) (pm := [.io 1, .sh]) (loc := [.sh, .sh]) T.F__law_draw S rg_sh rfl rfl rfl fun cdv A outer s H E v0 B0 hr => ?_
    refine sx_cons (sx_set (sh_add (PSh.sm (sh_ix (sm_var (pv 0)) (PSh.rd (sh_int)) (kp := by repeat (first | exact kps_nil | exact kps_vr | exact kps_cst | exact kps_her | exact kps_nilM | exact kps_ret | refine kps_op1 ?_ | refine kps_op2 ?_ ?_ | refine kps_tb ?_ | refine kps_tru ?_ | refine kps_ite ?_ ?_ ?_ | refine kps_consM ?_ ?_ | refine kps_tupM ?_ | refine kps_lstM ?_ | refine kps_call ?_ | refine kps_slM ?_ ?_ ?_ | refine kps_bdM ?_)))) (PSh.sm (sh_int))) (pv 0) (PSh.rd (sh_int))) ?_
    refine sx_cons (sx_if (PWb.bl (bw_and (bl_eq hr.units (PSh.rd (sh_ix (sm_var (pv 0)) (PSh.rd (sh_int)) (kp := by repeat (first | exact kps_nil | exact kps_vr | exact kps_cst | exact kps_her | exact kps_nilM | exact kps_ret | refine kps_op1 ?_ | refine kps_op2 ?_ ?_ | refine kps_tb ?_ | refine kps_tru ?_ | refine kps_ite ?_ ?_ ?_ | refine kps_consM ?_ ?_ | refine kps_tupM ?_ | refine kps_lstM ?_ | refine kps_call ?_ | refine kps_slM ?_ ?_ ?_ | refine kps_bdM ?_)))) (PSh.rd (sh_int))) (bw_and1 (bl_gt (PSh.rd (sh_ix (sm_var (pv 0)) (PSh.rd (sh_int)) (kp := by repeat (first | exact kps_nil | exact kps_vr | exact kps_cst | exact kps_her | exact kps_nilM | exact kps_ret | refine kps_op1 ?_ | refine kps_op2 ?_ ?_ | refine kps_tb ?_ | refine kps_tru ?_ | refine kps_ite ?_ ?_ ?_ | refine kps_consM ?_ ?_ | refine kps_tupM ?_ | refine kps_lstM ?_ | refine kps_call ?_ | refine kps_slM ?_ ?_ ?_ | refine kps_bdM ?_)))) (PSh.rd (sh_int)))))) (sx_cons (sx_asg (ps_set S.nd rfl (by first | exact Or.inl rfl | exact Or.inr rfl) (sh_mod (PSh.rd (sh_int' T.n_int (PSh.rd (sh_ix (sm_var (pv 0)) (PSh.rd (sh_int)) (kp := by repeat (first | exact kps_nil | exact kps_vr | exact kps_cst | exact kps_her | exact kps_nilM | exact kps_ret | refine kps_op1 ?_ | refine kps_op2 ?_ ?_ | refine kps_tb ?_ | refine kps_tru ?_ | refine kps_ite ?_ ?_ ?_ | refine kps_consM ?_ ?_ | refine kps_tupM ?_ | refine kps_lstM ?_ | refine kps_call ?_ | refine kps_slM ?_ ?_ ?_ | refine kps_bdM ?_)))))) (PSh.rd (sh_var (pv 1)))))) (sx_cons (sx_set (sh_fdiv (PSh.rd (sh_ix (sm_var (pv 0)) (PSh.rd (sh_int)) (kp := by repeat (first | exact kps_nil | exact kps_vr | exact kps_cst | exact kps_her | exact kps_nilM | exact kps_ret | refine kps_op1 ?_ | refine kps_op2 ?_ ?_ | refine kps_tb ?_ | refine kps_tru ?_ | refine kps_ite ?_ ?_ ?_ | refine kps_consM ?_ ?_ | refine kps_tupM ?_ | refine kps_lstM ?_ | refine kps_call ?_ | refine kps_slM ?_ ?_ ?_ | refine kps_bdM ?_)))) (PSh.rd (sh_var (pv 1)))) (pv 0) (PSh.rd (sh_int))) (sx_cons (sx_retS (sh_var (pv 2))) sx_nil))) sx_nil) ?_
    refine sx_cons (sx_asg (ps_set S.nd rfl (by first | exact Or.inl rfl | exact Or.inr rfl) (sh_mod (PSh.rd (sh_int' T.n_int (PSh.rd (sh_mul (PSh.rd (sh_add (PSh.sm (sh_add (PSh.sm (sh_ix (sm_var (pv 0)) (PSh.rd (sh_int)) (kp := by repeat (first | exact kps_nil | exact kps_vr | exact kps_cst | exact kps_her | exact kps_nilM | exact kps_ret | refine kps_op1 ?_ | refine kps_op2 ?_ ?_ | refine kps_tb ?_ | refine kps_tru ?_ | refine kps_ite ?_ ?_ ?_ | refine kps_consM ?_ ?_ | refine kps_tupM ?_ | refine kps_lstM ?_ | refine kps_call ?_ | refine kps_slM ?_ ?_ ?_ | refine kps_bdM ?_)))) (PSh.sm (sh_mul (PSh.rd (sh_int)) (PSh.rd (sh_ix (sm_var (pv 0)) (PSh.rd (sh_int)) (kp := by repeat (first | exact kps_nil | exact kps_vr | exact kps_cst | exact kps_her | exact kps_nilM | exact kps_ret | refine kps_op1 ?_ | refine kps_op2 ?_ ?_ | refine kps_tb ?_ | refine kps_tru ?_ | refine kps_ite ?_ ?_ ?_ | refine kps_consM ?_ ?_ | refine kps_tupM ?_ | refine kps_lstM ?_ | refine kps_call ?_ | refine kps_slM ?_ ?_ ?_ | refine kps_bdM ?_)))))))) (PSh.sm (sh_int)))) (PSh.rd (sh_int)))))) (PSh.rd (sh_int))))) ?_
    refine sx_cons (sx_asg (ps_set S.nd rfl (by first | exact Or.inl rfl | exact Or.inr rfl) (sh_mod (PSh.rd (sh_int' T.n_int (PSh.rd (sh_mul (PSh.rd (sh_var (pv 3))) (PSh.rd (sh_var (pv 3))))))) (PSh.rd (sh_int))))) ?_
    refine sx_cons (sx_asg (ps_set S.nd rfl (by first | exact Or.inl rfl | exact Or.inr rfl) (sh_mod (PSh.rd (sh_int' T.n_int (PSh.rd (sh_mul (PSh.rd (sh_add (PSh.sm (sh_var (pv 3))) (PSh.sm (sh_mul (PSh.rd (sh_int)) (PSh.rd (sh_ix (sm_var (pv 0)) (PSh.rd (sh_int)) (kp := by repeat (first | exact kps_nil | exact kps_vr | exact kps_cst | exact kps_her | exact kps_nilM | exact kps_ret | refine kps_op1 ?_ | refine kps_op2 ?_ ?_ | refine kps_tb ?_ | refine kps_tru ?_ | refine kps_ite ?_ ?_ ?_ | refine kps_consM ?_ ?_ | refine kps_tupM ?_ | refine kps_lstM ?_ | refine kps_call ?_ | refine kps_slM ?_ ?_ ?_ | refine kps_bdM ?_)))))))) (PSh.rd (sh_int)))))) (PSh.rd (sh_int))))) ?_
    refine sx_cons (sx_retS (sh_mod (PSh.rd (sh_int' T.n_int (PSh.rd (sh_fdiv (PSh.rd (sh_var (pv 3))) (PSh.rd (sh_int)))))) (PSh.rd (sh_var (pv 1))))) ?_
    exact sx_nil
/-! ### _law_same: slots 0 got, 1 due, 2 k -/
noncomputable def c__law_same (rec : FnM) : M Fl := (seqM (iteM (orB (tru (op1 (isiD .tup) (vr 1))) (tru (op1 (isiD .lst) (vr 1)))) (seqM (iteM (orB (tb (op2 neD (op1 (isiD .tup) (vr 1)) (op1 (isiD .tup) (vr 0)))) (tb (op2 neD (op1 (isiD .lst) (vr 1)) (op1 (isiD .lst) (vr 0))))) (seqM (retM (cst (.bl false))) nop) nop) (seqM (retM (andV (op2 eqD (op1 lenD (vr 0)) (op1 lenD (vr 1))) (op1 allD (lcM [] [2] (itR1 (op1 lenD (vr 1))) (tgN 2) (ret true) (callM rec [.sh, .sh] (consM (op2 idxD (vr 0) (vr 2)) (consM (op2 idxD (vr 1) (vr 2)) nilM))))))) nop)) nop)
  (seqM (iteM (tb (op2 isD (vr 1) (cst .non))) (seqM (retM (op2 isD (vr 0) (cst .non))) nop) nop)
  (seqM (iteM (tru (op1 (isiD .bool) (vr 1))) (seqM (retM (andV (op1 (isiD .bool) (vr 0)) (op2 eqD (vr 0) (vr 1)))) nop) nop)
  (seqM (iteM (orB (tru (op1 (isiD .bool) (vr 0))) (orB (tb (op2 neD (op1 (isiD .int) (vr 0)) (op1 (isiD .int) (vr 1)))) (tb (op2 neD (op1 (isiD .str) (vr 0)) (op1 (isiD .str) (vr 1)))))) (seqM (retM (cst (.bl false))) nop) nop)
  (seqM (retM (op2 eqD (vr 0) (vr 1)))
  nop)))))
noncomputable def f__law_same : Nat → FnM
  | 0 => fun _ => .bad
  | n + 1 => fnOf [.sh, .sh] 3 (c__law_same (f__law_same n))
theorem s__law_same : FnScope ["got", "due", "k"] ["got", "due"] (defScope (top 13)) := ⟨rfl, rfl, rfl, by decide +kernel, rfl, by decide +kernel, by decide +kernel⟩
theorem ok__law_same (T : Fx K mg fa fd ca) : ∀ n, FnOk P w K mg base (L2.CX P w) (n + 1) (fa 6) (fd 6) ["got", "due"] (spOf mg [.sh, .sh] rSh (f__law_same n))
  | 0 => fn_bad
  | n + 1 => by
    have REC := ok__law_same T n
    have S := s__law_same
    refine (fn_ok (k := n + 1) (pm := [.sh, .sh]) (loc := [.sh]) T.F__law_same S rg_sh rfl rfl rfl fun cdv A outer s H E v0 B0 hr => ?_).mono (Nat.le_of_eq (by omega))
    show PSsx _ _ _ _ (c__law_same (f__law_same n))
    refine sx_cons (sx_if (PWb.bl (bw_or (bl_tru (PSh.rd (sh_isi .tup T.n_isinstance T.n_tuple rfl (PSh.rd (sh_var (pv 1)))))) (bw_or1 (bl_tru (PSh.rd (sh_isi .lst T.n_isinstance T.n_list rfl (PSh.rd (sh_var (pv 1))))))))) (sx_cons (sx_if (PWb.bl (bw_or (bl_ne hr.units (PSh.rd (sh_isi .tup T.n_isinstance T.n_tuple rfl (PSh.rd (sh_var (pv 1))))) (PSh.rd (sh_isi .tup T.n_isinstance T.n_tuple rfl (PSh.rd (sh_var (pv 0)))))) (bw_or1 (bl_ne hr.units (PSh.rd (sh_isi .lst T.n_isinstance T.n_list rfl (PSh.rd (sh_var (pv 1))))) (PSh.rd (sh_isi .lst T.n_isinstance T.n_list rfl (PSh.rd (sh_var (pv 0))))))))) (sx_cons (sx_retS (sh_bl)) sx_nil) sx_nil) (sx_cons (sx_retS (sh_and (sh_eq hr.units (PSh.rd (sh_len T.n_len (PSh.rd (sh_var (pv 0))))) (PSh.rd (sh_len T.n_len (PSh.rd (sh_var (pv 1)))))) (sh_one (sh_all T.n_all rfl (PSh.rd (POw.sh (ow_lc (own := [("k", 2)]) rfl S.nd (it_rng1 T.n_range (PSh.rd (sh_len T.n_len (PSh.rd (sh_var (pv 1)))))) (blkOk_by (by rfl)) (fun _ _ _ _ _ _ => (gx_name (pg_name S.nd rfl (by first | exact Or.inl rfl | exact Or.inr rfl)))) (fun _ _ _ _ _ _ => ts_nil) (fun _ _ _ _ _ _ => (PSh.ow0 (pe_fn rg_sh REC hr T.g__law_same T.F__law_same.kp (b__law_same T) takes0 (ars_sh (sh_ix (PSh.sm (sh_var (pv 0))) (PSh.rd (sh_var (pv 2)))) (ars_sh (sh_ix (PSh.sm (sh_var (pv 1))) (PSh.rd (sh_var (pv 2)))) ars_nil)))))))))))) sx_nil)) sx_nil) ?_
    refine sx_cons (sx_if (bl_is (PSh.rd (sh_var (pv 1))) (PSh.rd (sh_non))) (sx_cons (sx_retS (sh_is (PSh.rd (sh_var (pv 0))) (PSh.rd (sh_non)))) sx_nil) sx_nil) ?_
    refine sx_cons (sx_if (bl_tru (PSh.rd (sh_isi .bool T.n_isinstance T.n_bool rfl (PSh.rd (sh_var (pv 1)))))) (sx_cons (sx_retS (sh_and (sh_isi .bool T.n_isinstance T.n_bool rfl (PSh.rd (sh_var (pv 0)))) (sh_one (sh_eq hr.units (PSh.rd (sh_var (pv 0))) (PSh.rd (sh_var (pv 1))))))) sx_nil) sx_nil) ?_
    refine sx_cons (sx_if (PWb.bl (bw_or (bl_tru (PSh.rd (sh_isi .bool T.n_isinstance T.n_bool rfl (PSh.rd (sh_var (pv 0)))))) (bw_or (bl_ne hr.units (PSh.rd (sh_isi .int T.n_isinstance T.n_int rfl (PSh.rd (sh_var (pv 0))))) (PSh.rd (sh_isi .int T.n_isinstance T.n_int rfl (PSh.rd (sh_var (pv 1)))))) (bw_or1 (bl_ne hr.units (PSh.rd (sh_isi .str T.n_isinstance T.n_str rfl (PSh.rd (sh_var (pv 0))))) (PSh.rd (sh_isi .str T.n_isinstance T.n_str rfl (PSh.rd (sh_var (pv 1)))))))))) (sx_cons (sx_retS (sh_bl)) sx_nil) sx_nil) ?_
    refine sx_cons (sx_retS (sh_eq hr.units (PSh.rd (sh_var (pv 0))) (PSh.rd (sh_var (pv 1))))) ?_
    exact sx_nil
/-! ### _law_gcd: slots 0 one, 1 other -/
noncomputable def l__law_gcd_1 : M Fl := (seqM (parM [0, 1] (consM (vr 1) (consM (op2 modD (op1 intD (vr 0)) (vr 1)) nilM))) nop)
noncomputable def c__law_gcd : M Fl := (seqM (whM (tb (op2 gtD (vr 1) (cst (.int 0)))) l__law_gcd_1)
  (seqM (retM (vr 0))
  nop))
noncomputable def f__law_gcd : FnM := fnOf [.sh, .sh] 2 c__law_gcd
theorem s__law_gcd : FnScope ["one", "other"] ["one", "other"] (defScope (top 14)) := ⟨rfl, rfl, rfl, by decide +kernel, rfl, by decide +kernel, by decide +kernel⟩
theorem ok__law_gcd (T : Fx K mg fa fd ca) : FnOk P w K mg base (L2.CX P w) 1 (fa 7) (fd 7) ["one", "other"] (spOf mg [.sh, .sh] rSh f__law_gcd) := by
    have S := s__law_gcd
    refine fn_ok (k := 0) (pm := [.sh, .sh]) (loc := []) T.F__law_gcd S rg_sh rfl rfl rfl fun cdv A outer s H E v0 B0 hr => ?_
    refine sx_cons (sx_while (passes_of rfl) (bl_gt (PSh.rd (sh_var (pv 1))) (PSh.rd (sh_int))) (sx_cons (sx_par (ps_par rfl S.nd rfl rfl (by decide) rfl rfl (mx_cons (PSh.mx (sh_var (pv 1))) (mx_cons (PSh.mx (sh_mod (PSh.rd (sh_int' T.n_int (PSh.rd (sh_var (pv 0))))) (PSh.rd (sh_var (pv 1))))) mx_nil)) rfl)) sx_nil)) ?_
    refine sx_cons (sx_retS (sh_var (pv 0))) ?_
    exact sx_nil
/-! ### _law_odd: slots 0 pot, 1 odd -/
noncomputable def c__law_odd : M Fl := (seqM (asg 1 (lstM (consM (cst .non) (consM (cst (.bl true)) (consM (cst (.bl false)) (consM (cst (.str (PySem.Str.ofString "1"))) (consM (cst (.str (PySem.Str.ofString ""))) (consM (tupM nilM) (consM (lstM nilM) (consM (tupM (consM (cst (.int 0)) nilM)) (consM (lstM (consM (cst (.int 0)) (consM (cst (.int 1)) nilM))) (consM (op1 negD (cst (.int 1))) (consM (op2 powD (cst (.int 10)) (cst (.int 39))) (consM (tupM (consM (cst .non) nilM)) (consM (cst (.str (PySem.Str.ofString "a b"))) (consM (op1 negD (op2 powD (cst (.int 10)) (cst (.int 30)))) (consM (tupM (consM (cst (.int 1)) (consM (cst (.int 2)) nilM))) (consM (cst (.str (PySem.Str.ofString "0"))) nilM))))))))))))))))))
  (seqM (retM (op2 idxD (vr 1) (callM f__law_draw [.io 0, .sh] (consM (herM 0) (consM (op1 lenD (vr 1)) nilM)))))
  nop))
noncomputable def f__law_odd : FnM := fnOf [.io 1] 2 c__law_odd
theorem s__law_odd : FnScope ["pot", "odd"] ["pot"] (defScope (top 15)) := ⟨rfl, rfl, rfl, by decide +kernel, rfl, by decide +kernel, by decide +kernel⟩
theorem ok__law_odd (T : Fx K mg fa fd ca) : FnOk P w K mg base (L2.CX P w) 2 (fa 8) (fd 8) ["pot"] (spOf mg [.io 1] rSh f__law_odd) := by
    have S := s__law_odd
    refine fn_ok (k := 1) (pm := [.io 1]) (loc := [.sh]) T.F__law_odd S rg_sh rfl rfl rfl fun cdv A outer s H E v0 B0 hr => ?_
    refine sx_cons (sx_asg (ps_set S.nd rfl (by first | exact Or.inl rfl | exact Or.inr rfl) (POw.sh (ow_lst (shs_cons (sh_non) (shs_cons (sh_bl) (shs_cons (sh_bl) (shs_cons (sh_str) (shs_cons (sh_str) (shs_cons (sh_tup shs_nil) (shs_cons (POw.sh (ow_lst shs_nil)) (shs_cons (sh_tup (shs_cons (sh_int) shs_nil)) (shs_cons (POw.sh (ow_lst (shs_cons (sh_int) (shs_cons (sh_int) shs_nil)))) (shs_cons (sh_neg (PSh.rd (sh_int))) (shs_cons (sh_pow (PSh.rd (sh_int)) (PSh.rd (sh_int))) (shs_cons (sh_tup (shs_cons (sh_non) shs_nil)) (shs_cons (sh_str) (shs_cons (sh_neg (PSh.rd (sh_pow (PSh.rd (sh_int)) (PSh.rd (sh_int))))) (shs_cons (sh_tup (shs_cons (sh_int) (shs_cons (sh_int) shs_nil))) (shs_cons (sh_str) shs_nil)))))))))))))))))))) ?_
    refine sx_cons (sx_retS (sh_ix (PSh.sm (sh_var (pv 1))) (PSh.rd (pe_fn rg_sh ((ok__law_draw T).mono (by decide)) hr T.g__law_draw T.F__law_draw.kp (b__law_draw T) (takes_of rfl rfl rfl rfl) (ars_io (pv 0) (ars_sh (sh_len T.n_len (PSh.rd (sh_var (pv 1)))) ars_nil)))))) ?_
    exact sx_nil
/-! ### _law_told: slots 0 put, 1 take, 2 held, 3 found, 4 e -/
noncomputable def c__law_told : M Fl := (seqM (asg 3 (tupM (consM (cst (.str (PySem.Str.ofString "other"))) nilM)))
  (seqM (tryA (catL [("InvalidNumber", true, false)]) 4 (seqM (asg 3 (tupM (consM (cst (.str (PySem.Str.ofString "told"))) (consM (callM f_edge_room ([.sh, .sh] ++ [.sh]) (catM (consM (vr 0) (consM (vr 1) nilM)) (consM (vr 2) nilM))) nilM)))) nop) (fun y => (seqM (asg 3 (tupM (consM (cst (.str (PySem.Str.ofString "number"))) (consM (bnd (vr 4) fun _ => ret (.bl true)) nilM)))) nop)))
  (seqM (retM (vr 3))
  nop)))
noncomputable def f__law_told : FnM := fnOf [.sh, .sh, .sh] 5 c__law_told
theorem s__law_told : FnScope ["put", "take", "held", "found", "e"] ["put", "take", "held"] (defScope (top 16)) := ⟨rfl, rfl, rfl, by decide +kernel, rfl, by decide +kernel, by decide +kernel⟩
theorem ok__law_told (T : Fx K mg fa fd ca) : FnOk P w K mg base (L2.CX P w) 4 (fa 9) (fd 9) ["put", "take", "held"] (spOf mg [.sh, .sh, .sh] rSh f__law_told) := by
    have S := s__law_told
    refine fn_ok (k := 3) (pm := [.sh, .sh, .sh]) (loc := [.sh, .sh]) T.F__law_told S rg_sh rfl rfl rfl fun cdv A outer s H E v0 B0 hr => ?_
    refine sx_cons (sx_asg (ps_set S.nd rfl (by first | exact Or.inl rfl | exact Or.inr rfl) (sh_tup (shs_cons (sh_str) shs_nil)))) ?_
    refine sx_cons (sx_tryA (cat := catL [("InvalidNumber", true, false)]) rg_sh rfl rfl S.nd rfl rfl ⟨rfl, by decide, .inl T.g_InvalidNumber⟩ (takes_of rfl rfl rfl rfl) (catOk_of (cat_cons T.g_InvalidNumber T.m_InvalidNumber_InvalidNumber cat_nil)) rfl (fun W pn xe tk po => (sx_cons (sx_asg (ps_set S.nd rfl (by first | exact Or.inl rfl | exact Or.inr rfl) (sh_tup (shs_cons (sh_str) (shs_cons (pe_fnK (ks := [.sh, .sh]) (ks2 := [.sh]) rg_sh ((ok_edge_room T).mono (by decide)) hr T.g_edge_room T.F_edge_room.kp (kb_edge_room_2 T) tk (ars_sh (sh_var (pv 0)) (ars_sh (sh_var (pv 1)) ars_nil)) (karg_sh (sh_var (pv 2)) karg_nil) ) shs_nil))))) sx_nil)) (fun a oe cls d pn y hz hf hy hc hd => one_caught (l := [("InvalidNumber", true, false)]) (n := "InvalidNumber") T.g_InvalidNumber hy hc hd (by rfl) (fun hd hcls => by subst hd hcls; exact (sx_cons (sx_asg (ps_set S.nd rfl (by first | exact Or.inl rfl | exact Or.inr rfl) (sh_tup (shs_cons (sh_str) (shs_cons (sh_isE T.E_InvalidNumber hz hf T.n_isinstance T.g_FiringError T.i_InvalidNumber_FiringError (pv 4) rfl rfl rfl rfl) shs_nil))))) sx_nil)))) ?_
    refine sx_cons (sx_retS (sh_var (pv 3))) ?_
    exact sx_nil
/-! ### _law_due: slots 0 put, 1 take, 2 held, 3 value, 4 least, 5 common, 6 room -/
noncomputable def l__law_due_1 : M Fl := (seqM (iteM (orB (notB (tru (op1 (isiD .int) (vr 3)))) (orB (tru (op1 (isiD .bool) (vr 3))) (tb (op2 ltD (vr 3) (vr 4))))) (seqM (retM (tupM (consM (cst (.str (PySem.Str.ofString "number"))) (consM (cst (.bl true)) nilM)))) nop) nop) nop)
noncomputable def c__law_due : M Fl := (seqM (forX (itS (lstM (consM (tupM (consM (vr 0) (consM (cst (.int 1)) nilM))) (consM (tupM (consM (vr 1) (consM (cst (.int 1)) nilM))) (consM (tupM (consM (vr 2) (consM (cst (.int 0)) nilM))) nilM))))) (tgT 2 (tCons (tgN 3) (tCons (tgN 4) tNil))) l__law_due_1)
  (seqM (asg 5 (callM f__law_gcd [.sh, .sh] (consM (vr 0) (consM (vr 1) nilM))))
  (seqM (asg 6 (op2 addD (op2 subD (op2 addD (vr 0) (vr 1)) (vr 5)) (op2 modD (op1 intD (vr 2)) (vr 5))))
  (seqM (retM (tupM (consM (cst (.str (PySem.Str.ofString "told"))) (consM (iteM (tb (op2 leD (vr 2) (vr 6))) (vr 6) (vr 2)) nilM))))
  nop))))
noncomputable def f__law_due : FnM := fnOf [.sh, .sh, .sh] 7 c__law_due
theorem s__law_due : FnScope ["put", "take", "held", "value", "least", "common", "room"] ["put", "take", "held"] (defScope (top 17)) := ⟨rfl, rfl, rfl, by decide +kernel, rfl, by decide +kernel, by decide +kernel⟩
theorem ok__law_due (T : Fx K mg fa fd ca) : FnOk P w K mg base (L2.CX P w) 2 (fa 10) (fd 10) ["put", "take", "held"] (spOf mg [.sh, .sh, .sh] rSh f__law_due) := by
    have S := s__law_due
    refine fn_ok (k := 1) (pm := [.sh, .sh, .sh]) (loc := [.sh, .sh, .sh, .sh]) T.F__law_due S rg_sh rfl rfl rfl fun cdv A outer s H E v0 B0 hr => ?_
    refine sx_cons (sx_for (vs := [3, 4]) (passes_of rfl) rfl (it_seq (PSh.sm (POw.sh (ow_lst (shs_cons (sh_tup (shs_cons (sh_var (pv 0)) (shs_cons (sh_int) shs_nil))) (shs_cons (sh_tup (shs_cons (sh_var (pv 1)) (shs_cons (sh_int) shs_nil))) (shs_cons (sh_tup (shs_cons (sh_var (pv 2)) (shs_cons (sh_int) shs_nil))) shs_nil))))))) (gx_tup rfl (gxs_cons (gx_name (pg_name S.nd rfl (by first | exact Or.inl rfl | exact Or.inr rfl))) (gxs_cons (gx_name (pg_name S.nd rfl (by first | exact Or.inl rfl | exact Or.inr rfl))) gxs_nil))) (sx_cons (sx_if (PWb.bl (bw_or (bl_not (bl_tru (PSh.rd (sh_isi .int T.n_isinstance T.n_int rfl (PSh.rd (sh_var (pv 3))))))) (bw_or (bl_tru (PSh.rd (sh_isi .bool T.n_isinstance T.n_bool rfl (PSh.rd (sh_var (pv 3)))))) (bw_or1 (bl_lt (PSh.rd (sh_var (pv 3))) (PSh.rd (sh_var (pv 4)))))))) (sx_cons (sx_retS (sh_tup (shs_cons (sh_str) (shs_cons (sh_bl) shs_nil)))) sx_nil) sx_nil) sx_nil)) ?_
    refine sx_cons (sx_asg (ps_set S.nd rfl (by first | exact Or.inl rfl | exact Or.inr rfl) (pe_fn rg_sh ((ok__law_gcd T).mono (by decide)) hr T.g__law_gcd T.F__law_gcd.kp (b__law_gcd T) (takes_of rfl rfl rfl rfl) (ars_sh (sh_var (pv 0)) (ars_sh (sh_var (pv 1)) ars_nil))))) ?_
    refine sx_cons (sx_asg (ps_set S.nd rfl (by first | exact Or.inl rfl | exact Or.inr rfl) (sh_add (PSh.sm (sh_sub (PSh.rd (sh_add (PSh.sm (sh_var (pv 0))) (PSh.sm (sh_var (pv 1))))) (PSh.rd (sh_var (pv 5))))) (PSh.sm (sh_mod (PSh.rd (sh_int' T.n_int (PSh.rd (sh_var (pv 2))))) (PSh.rd (sh_var (pv 5)))))))) ?_
    refine sx_cons (sx_retS (sh_tup (shs_cons (sh_str) (shs_cons (sh_if (bl_le (PSh.rd (sh_var (pv 2))) (PSh.rd (sh_var (pv 6)))) (sh_var (pv 6)) (sh_var (pv 2))) shs_nil)))) ?_
    exact sx_nil
/-! ### law: slots 0 script, 1 at, 2 pot, 3 put, 4 take, 5 held, 6 many, 7 rows, 8 one, 9 other, 10 tokens -/
noncomputable def l_law_1 : M Fl := (seqM (iteM (notB (tru (callM (f__law_same 20) [.sh, .sh] (consM (callM f__law_told [.sh, .sh, .sh] (consM (vr 8) (consM (vr 9) (consM (vr 10) nilM)))) (consM (callM f__law_due [.sh, .sh, .sh] (consM (vr 8) (consM (vr 9) (consM (vr 10) nilM)))) nilM))))) (seqM (retM (cst (.bl false))) nop) nop) nop)
noncomputable def l_law_2 : M Fl := (seqM (asg 2 (callM f__law_pot [.sh, .sh] (consM (vr 0) (consM (vr 1) nilM)))) (seqM (parM [3, 4] (consM (op2 addD (cst (.int 1)) (callM f__law_draw [.io 2, .sh] (consM (herM 2) (consM (cst (.int 12)) nilM)))) (consM (op2 addD (cst (.int 1)) (callM f__law_draw [.io 2, .sh] (consM (herM 2) (consM (cst (.int 12)) nilM)))) nilM))) (seqM (asg 5 (op2 idxD (lstM (consM (callM f__law_draw [.io 2, .sh] (consM (herM 2) (consM (cst (.int 201)) nilM))) (consM (op2 addD (vr 3) (vr 4)) (consM (op2 subD (op2 addD (vr 3) (vr 4)) (cst (.int 1))) (consM (cst (.int 0)) (consM (op2 addD (op2 subD (op2 addD (vr 3) (vr 4)) (callM f__law_gcd [.sh, .sh] (consM (vr 3) (consM (vr 4) nilM)))) (callM f__law_draw [.io 2, .sh] (consM (herM 2) (consM (cst (.int 3)) nilM)))) nilM)))))) (callM f__law_draw [.io 2, .sh] (consM (herM 2) (consM (cst (.int 5)) nilM))))) (seqM (asg 6 (op2 addD (cst (.int 1)) (callM f__law_draw [.io 2, .sh] (consM (herM 2) (consM (op2 powD (cst (.int 10)) (cst (.int 20))) nilM))))) (seqM (asg 7 (lstM (consM (tupM (consM (vr 3) (consM (vr 4) (consM (vr 5) nilM)))) (consM (tupM (consM (vr 4) (consM (vr 3) (consM (vr 5) nilM)))) (consM (tupM (consM (op2 mulD (vr 3) (vr 6)) (consM (op2 mulD (vr 4) (vr 6)) (consM (vr 5) nilM)))) (consM (tupM (consM (vr 3) (consM (vr 4) (consM (op2 mulD (vr 5) (vr 6)) nilM)))) (consM (tupM (consM (vr 6) (consM (op2 addD (vr 6) (cst (.int 1))) (consM (vr 5) nilM)))) nilM))))))) (seqM (asg 7 (op2 catD (vr 7) (lstM (consM (tupM (consM (cst (.int 0)) (consM (vr 4) (consM (vr 5) nilM)))) (consM (tupM (consM (vr 3) (consM (cst (.int 0)) (consM (vr 5) nilM)))) (consM (tupM (consM (vr 3) (consM (vr 4) (consM (op1 negD (cst (.int 1))) nilM)))) (consM (tupM (consM (vr 3) (consM (vr 4) (consM (cst (.bl true)) nilM)))) (consM (tupM (consM (cst (.bl true)) (consM (vr 4) (consM (vr 5) nilM)))) (consM (tupM (consM (vr 3) (consM (op1 negD (vr 4)) (consM (vr 5) nilM)))) nilM))))))))) (seqM (asg 7 (op2 catD (vr 7) (lstM (consM (tupM (consM (callM f__law_odd [.io 2] (consM (herM 2) nilM)) (consM (vr 4) (consM (vr 5) nilM)))) (consM (tupM (consM (vr 3) (consM (callM f__law_odd [.io 2] (consM (herM 2) nilM)) (consM (vr 5) nilM)))) (consM (tupM (consM (vr 3) (consM (vr 4) (consM (callM f__law_odd [.io 2] (consM (herM 2) nilM)) nilM)))) (consM (tupM (consM (vr 3) (consM (vr 3) (consM (vr 5) nilM)))) (consM (tupM (consM (cst (.int 1)) (consM (vr 4) (consM (vr 5) nilM)))) nilM)))))))) (seqM (forX (itS (vr 7)) (tgT 3 (tCons (tgN 8) (tCons (tgN 9) (tCons (tgN 10) tNil)))) l_law_1) nop))))))))
noncomputable def c_law : M Fl := (seqM (forX (itR1 (op2 maxD (cst (.int 8)) (op2 minD (op1 lenD (vr 0)) (cst (.int 60))))) (tgN 1) l_law_2)
  (seqM (retM (cst (.bl true)))
  nop))
noncomputable def f_law : FnM := fnOf [.sh] 11 c_law
theorem s_law : FnScope ["script", "at", "pot", "put", "take", "held", "many", "rows", "one", "other", "tokens"] ["script"] (defScope (top 18)) := ⟨rfl, rfl, rfl, by decide +kernel, rfl, by decide +kernel, by decide +kernel⟩
theorem ok_law (T : Fx K mg fa fd ca) : FnOk P w K mg base (L2.CX P w) 22 (fa 11) (fd 11) ["script"] (spOf mg [.sh] rSh f_law) := by
    have S := s_law
    refine fn_ok (k := 21) (pm := [.sh]) (loc := [.sh, .own 1, .sh, .sh, .sh, .sh, .sh, .sh, .sh, .sh]) T.F_law S rg_sh rfl rfl rfl fun cdv A outer s H E v0 B0 hr => ?_
    refine sx_cons (sx_for (vs := [1]) (passes_of rfl) rfl (it_rng1 T.n_range (PSh.rd (sh_max T.n_max rfl (PSh.rd (sh_int)) (PSh.rd (sh_min T.n_min rfl (PSh.rd (sh_len T.n_len (PSh.rd (sh_var (pv 0))))) (PSh.rd (sh_int))))))) (gx_name (pg_name S.nd rfl (by first | exact Or.inl rfl | exact Or.inr rfl))) (sx_cons (sx_asgO (ps_set S.nd rfl (by first | exact Or.inl rfl | exact Or.inr rfl) (pe_fn (rg_ow 1) ((ok__law_pot T).mono (by decide)) hr T.g__law_pot T.F__law_pot.kp (b__law_pot T) (takes_of rfl rfl rfl rfl) (ars_sh (sh_var (pv 0)) (ars_sh (sh_var (pv 1)) ars_nil))))) (sx_cons (sx_par (ps_par rfl S.nd rfl rfl (by decide) rfl rfl (mx_cons (PSh.mx (sh_add (PSh.sm (sh_int)) (PSh.sm (pe_fn rg_sh ((ok__law_draw T).mono (by decide)) hr T.g__law_draw T.F__law_draw.kp (b__law_draw T) (takes_of rfl rfl rfl rfl) (ars_io (pv 2) (ars_sh (sh_int) ars_nil)))))) (mx_cons (PSh.mx (sh_add (PSh.sm (sh_int)) (PSh.sm (pe_fn rg_sh ((ok__law_draw T).mono (by decide)) hr T.g__law_draw T.F__law_draw.kp (b__law_draw T) (takes_of rfl rfl rfl rfl) (ars_io (pv 2) (ars_sh (sh_int) ars_nil)))))) mx_nil)) rfl)) (sx_cons (sx_asg (ps_set S.nd rfl (by first | exact Or.inl rfl | exact Or.inr rfl) (sh_ix (PSh.sm (POw.sh (ow_lst (shs_cons (pe_fn rg_sh ((ok__law_draw T).mono (by decide)) hr T.g__law_draw T.F__law_draw.kp (b__law_draw T) (takes_of rfl rfl rfl rfl) (ars_io (pv 2) (ars_sh (sh_int) ars_nil))) (shs_cons (sh_add (PSh.sm (sh_var (pv 3))) (PSh.sm (sh_var (pv 4)))) (shs_cons (sh_sub (PSh.rd (sh_add (PSh.sm (sh_var (pv 3))) (PSh.sm (sh_var (pv 4))))) (PSh.rd (sh_int))) (shs_cons (sh_int) (shs_cons (sh_add (PSh.sm (sh_sub (PSh.rd (sh_add (PSh.sm (sh_var (pv 3))) (PSh.sm (sh_var (pv 4))))) (PSh.rd (pe_fn rg_sh ((ok__law_gcd T).mono (by decide)) hr T.g__law_gcd T.F__law_gcd.kp (b__law_gcd T) (takes_of rfl rfl rfl rfl) (ars_sh (sh_var (pv 3)) (ars_sh (sh_var (pv 4)) ars_nil)))))) (PSh.sm (pe_fn rg_sh ((ok__law_draw T).mono (by decide)) hr T.g__law_draw T.F__law_draw.kp (b__law_draw T) (takes_of rfl rfl rfl rfl) (ars_io (pv 2) (ars_sh (sh_int) ars_nil))))) shs_nil)))))))) (PSh.rd (pe_fn rg_sh ((ok__law_draw T).mono (by decide)) hr T.g__law_draw T.F__law_draw.kp (b__law_draw T) (takes_of rfl rfl rfl rfl) (ars_io (pv 2) (ars_sh (sh_int) ars_nil))))))) (sx_cons (sx_asg (ps_set S.nd rfl (by first | exact Or.inl rfl | exact Or.inr rfl) (sh_add (PSh.sm (sh_int)) (PSh.sm (pe_fn rg_sh ((ok__law_draw T).mono (by decide)) hr T.g__law_draw T.F__law_draw.kp (b__law_draw T) (takes_of rfl rfl rfl rfl) (ars_io (pv 2) (ars_sh (sh_pow (PSh.rd (sh_int)) (PSh.rd (sh_int))) ars_nil))))))) (sx_cons (sx_asg (ps_set S.nd rfl (by first | exact Or.inl rfl | exact Or.inr rfl) (POw.sh (ow_lst (shs_cons (sh_tup (shs_cons (sh_var (pv 3)) (shs_cons (sh_var (pv 4)) (shs_cons (sh_var (pv 5)) shs_nil)))) (shs_cons (sh_tup (shs_cons (sh_var (pv 4)) (shs_cons (sh_var (pv 3)) (shs_cons (sh_var (pv 5)) shs_nil)))) (shs_cons (sh_tup (shs_cons (sh_mul (PSh.rd (sh_var (pv 3))) (PSh.rd (sh_var (pv 6)))) (shs_cons (sh_mul (PSh.rd (sh_var (pv 4))) (PSh.rd (sh_var (pv 6)))) (shs_cons (sh_var (pv 5)) shs_nil)))) (shs_cons (sh_tup (shs_cons (sh_var (pv 3)) (shs_cons (sh_var (pv 4)) (shs_cons (sh_mul (PSh.rd (sh_var (pv 5))) (PSh.rd (sh_var (pv 6)))) shs_nil)))) (shs_cons (sh_tup (shs_cons (sh_var (pv 6)) (shs_cons (sh_add (PSh.sm (sh_var (pv 6))) (PSh.sm (sh_int))) (shs_cons (sh_var (pv 5)) shs_nil)))) shs_nil))))))))) (sx_cons (sx_asg (ps_set S.nd rfl (by first | exact Or.inl rfl | exact Or.inr rfl) (POw.sh (ow_cat (PSh.sm (sh_var (pv 7))) (PSh.sm (POw.sh (ow_lst (shs_cons (sh_tup (shs_cons (sh_int) (shs_cons (sh_var (pv 4)) (shs_cons (sh_var (pv 5)) shs_nil)))) (shs_cons (sh_tup (shs_cons (sh_var (pv 3)) (shs_cons (sh_int) (shs_cons (sh_var (pv 5)) shs_nil)))) (shs_cons (sh_tup (shs_cons (sh_var (pv 3)) (shs_cons (sh_var (pv 4)) (shs_cons (sh_neg (PSh.rd (sh_int))) shs_nil)))) (shs_cons (sh_tup (shs_cons (sh_var (pv 3)) (shs_cons (sh_var (pv 4)) (shs_cons (sh_bl) shs_nil)))) (shs_cons (sh_tup (shs_cons (sh_bl) (shs_cons (sh_var (pv 4)) (shs_cons (sh_var (pv 5)) shs_nil)))) (shs_cons (sh_tup (shs_cons (sh_var (pv 3)) (shs_cons (sh_neg (PSh.rd (sh_var (pv 4)))) (shs_cons (sh_var (pv 5)) shs_nil)))) shs_nil))))))))))))) (sx_cons (sx_asg (ps_set S.nd rfl (by first | exact Or.inl rfl | exact Or.inr rfl) (POw.sh (ow_cat (PSh.sm (sh_var (pv 7))) (PSh.sm (POw.sh (ow_lst (shs_cons (sh_tup (shs_cons (pe_fn rg_sh ((ok__law_odd T).mono (by decide)) hr T.g__law_odd T.F__law_odd.kp (b__law_odd T) (takes_of rfl rfl rfl rfl) (ars_io (pv 2) ars_nil)) (shs_cons (sh_var (pv 4)) (shs_cons (sh_var (pv 5)) shs_nil)))) (shs_cons (sh_tup (shs_cons (sh_var (pv 3)) (shs_cons (pe_fn rg_sh ((ok__law_odd T).mono (by decide)) hr T.g__law_odd T.F__law_odd.kp (b__law_odd T) (takes_of rfl rfl rfl rfl) (ars_io (pv 2) ars_nil)) (shs_cons (sh_var (pv 5)) shs_nil)))) (shs_cons (sh_tup (shs_cons (sh_var (pv 3)) (shs_cons (sh_var (pv 4)) (shs_cons (pe_fn rg_sh ((ok__law_odd T).mono (by decide)) hr T.g__law_odd T.F__law_odd.kp (b__law_odd T) (takes_of rfl rfl rfl rfl) (ars_io (pv 2) ars_nil)) shs_nil)))) (shs_cons (sh_tup (shs_cons (sh_var (pv 3)) (shs_cons (sh_var (pv 3)) (shs_cons (sh_var (pv 5)) shs_nil)))) (shs_cons (sh_tup (shs_cons (sh_int) (shs_cons (sh_var (pv 4)) (shs_cons (sh_var (pv 5)) shs_nil)))) shs_nil)))))))))))) (sx_cons (sx_for (vs := [8, 9, 10]) (passes_of rfl) rfl (it_seq (PSh.sm (sh_var (pv 7)))) (gx_tup rfl (gxs_cons (gx_name (pg_name S.nd rfl (by first | exact Or.inl rfl | exact Or.inr rfl))) (gxs_cons (gx_name (pg_name S.nd rfl (by first | exact Or.inl rfl | exact Or.inr rfl))) (gxs_cons (gx_name (pg_name S.nd rfl (by first | exact Or.inl rfl | exact Or.inr rfl))) gxs_nil)))) (sx_cons (sx_if (bl_not (bl_tru (PSh.rd (pe_fn rg_sh ((ok__law_same T 20).mono (by decide)) hr T.g__law_same T.F__law_same.kp (b__law_same T) (takes_of rfl rfl rfl rfl) (ars_sh (pe_fn rg_sh ((ok__law_told T).mono (by decide)) hr T.g__law_told T.F__law_told.kp (b__law_told T) (takes_of rfl rfl rfl rfl) (ars_sh (sh_var (pv 8)) (ars_sh (sh_var (pv 9)) (ars_sh (sh_var (pv 10)) ars_nil)))) (ars_sh (pe_fn rg_sh ((ok__law_due T).mono (by decide)) hr T.g__law_due T.F__law_due.kp (b__law_due T) (takes_of rfl rfl rfl rfl) (ars_sh (sh_var (pv 8)) (ars_sh (sh_var (pv 9)) (ars_sh (sh_var (pv 10)) ars_nil)))) ars_nil)))))) (sx_cons (sx_retS (sh_bl)) sx_nil) sx_nil) sx_nil)) sx_nil))))))))) ?_
    refine sx_cons (sx_retS (sh_bl)) ?_
    exact sx_nil
end
/-! ### the head -/
def d0 : He.DefD := ⟨("is_integer", none), "is_integer", "is_integer", defArgs (top 5), defBody (top 5), defScope (top 5), [], []⟩
def d1 : He.DefD := ⟨("is_from", none), "is_from", "is_from", defArgs (top 6), defBody (top 6), defScope (top 6), [], []⟩
def d2 : He.DefD := ⟨("room_alone", none), "room_alone", "room_alone", defArgs (top 8), defBody (top 8), defScope (top 8), [], []⟩
def d3 : He.DefD := ⟨("edge_room", none), "edge_room", "edge_room", defArgs (top 9), defBody (top 9), defScope (top 9), [], []⟩
def d4 : He.DefD := ⟨("_law_pot", none), "_law_pot", "_law_pot", defArgs (top 11), defBody (top 11), defScope (top 11), [], []⟩
def d5 : He.DefD := ⟨("_law_draw", none), "_law_draw", "_law_draw", defArgs (top 12), defBody (top 12), defScope (top 12), [], []⟩
def d6 : He.DefD := ⟨("_law_same", none), "_law_same", "_law_same", defArgs (top 13), defBody (top 13), defScope (top 13), [], []⟩
def d7 : He.DefD := ⟨("_law_gcd", none), "_law_gcd", "_law_gcd", defArgs (top 14), defBody (top 14), defScope (top 14), [], []⟩
def d8 : He.DefD := ⟨("_law_odd", none), "_law_odd", "_law_odd", defArgs (top 15), defBody (top 15), defScope (top 15), [], []⟩
def d9 : He.DefD := ⟨("_law_told", none), "_law_told", "_law_told", defArgs (top 16), defBody (top 16), defScope (top 16), [], []⟩
def d10 : He.DefD := ⟨("_law_due", none), "_law_due", "_law_due", defArgs (top 17), defBody (top 17), defScope (top 17), [], []⟩
def d11 : He.DefD := ⟨("law", none), "law", "law", defArgs (top 18), defBody (top 18), defScope (top 18), [], []⟩
def dfs : List He.DefD := [d0, d1, d2, d3, d4, d5, d6, d7, d8, d9, d10, d11]
def fxt (K : PySem.W.Frag) : Bool := excCB K (He.ga K "InvalidNumber") && (decide (PySem.W.kitOne K (.ref (He.ga K "InvalidNumber")) (.ref (He.ga K "FiringError")) = some true) && (decide (PySem.W.nsIn K mainGlobals "gcd" = some (some (.builtin "math.gcd"))) && (true)))
def fcs : List He.Fa := [.glo "is_integer", .glo "is_from", .glo "room_alone", .glo "edge_room", .glo "_law_pot", .glo "_law_draw", .glo "_law_same", .glo "_law_gcd", .glo "_law_odd", .glo "_law_told", .glo "_law_due", .glo "law", .free "len", .free "range", .free "isinstance", .free "int", .free "bool", .free "str", .free "tuple", .free "list", .free "abs", .free "min", .free "max", .free "all", .glo "FiringError", .exc "FiringError", .glo "InvalidNumber", .exc "InvalidNumber", .exm "InvalidNumber" "InvalidNumber" true]
def nm0 : List Str := ["gcd", "FiringError", "InvalidNumber", "is_integer", "is_from", "room_alone", "edge_room", "_law_pot", "_law_draw", "_law_same", "_law_gcd", "_law_odd", "_law_told", "_law_due"]
abbrev nms : List Str := nm0
abbrev RR : PySem.W.OpenRow := PySem.W.OpenLaw.row PySem.Challenge.rw_firingrounds_k21_edge_rooms
abbrev hk : PySem.W.Hook := hookV fcs dfs fxt as2
def ob (s : PySem.W.SharedT) : He.AlD × Bool := obsV fcs dfs fxt as2 (HandSHeadRun.getT s)
theorem ob_eq (s : PySem.W.SharedT) : ob s = hk.obs s.abs := obsV_eq (HandSHeadRun.getT_eq s)
theorem run (w : World) : HandSHeadRun.RunEqI RR (PySem.W.view RR.prog [0, 18]) hk ob 20000 nms w := by
  unfold HandSHeadRun.RunEqI
  kernel_rfl
def dnm : List Str := ["is_integer", "is_from", "room_alone", "edge_room", "_law_pot", "_law_draw", "_law_same", "_law_gcd", "_law_odd", "_law_told", "_law_due", "law"]
theorem facts {K : PySem.W.Frag} {h : Heap} {mg : Str → Option Value} (X : K.In h) (G : h.Ns mainGlobals mg) (c : He.SaysD fcs dfs K) (cx : fxt K = true) : ∃ fd : Nat → FuncData, Fx K mg (fun j => He.ga K (dnm.getD j "")) fd (He.ga K) := by
  obtain ⟨fd0, F0⟩ := c.def_ 0 (d := d0) rfl
  obtain ⟨fd1, F1⟩ := c.def_ 1 (d := d1) rfl
  obtain ⟨fd2, F2⟩ := c.def_ 2 (d := d2) rfl
  obtain ⟨fd3, F3⟩ := c.def_ 3 (d := d3) rfl
  obtain ⟨fd4, F4⟩ := c.def_ 4 (d := d4) rfl
  obtain ⟨fd5, F5⟩ := c.def_ 5 (d := d5) rfl
  obtain ⟨fd6, F6⟩ := c.def_ 6 (d := d6) rfl
  obtain ⟨fd7, F7⟩ := c.def_ 7 (d := d7) rfl
  obtain ⟨fd8, F8⟩ := c.def_ 8 (d := d8) rfl
  obtain ⟨fd9, F9⟩ := c.def_ 9 (d := d9) rfl
  obtain ⟨fd10, F10⟩ := c.def_ 10 (d := d10) rfl
  obtain ⟨fd11, F11⟩ := c.def_ 11 (d := d11) rfl
  refine ⟨fun j => ([fd0, fd1, fd2, fd3, fd4, fd5, fd6, fd7, fd8, fd9, fd10, fd11] : List FuncData).getD j fd0, ?_⟩
  have cx0 : fxt K = true := cx
  obtain ⟨u0, cx⟩ := He.ba cx
  obtain ⟨u1, cx⟩ := He.ba cx
  obtain ⟨u2, cx⟩ := He.ba cx
  exact ⟨F0,
    He.glo_ok X G (c.fact 0 (f := .glo "is_integer") rfl),
    F1,
    He.glo_ok X G (c.fact 1 (f := .glo "is_from") rfl),
    F2,
    He.glo_ok X G (c.fact 2 (f := .glo "room_alone") rfl),
    F3,
    He.glo_ok X G (c.fact 3 (f := .glo "edge_room") rfl),
    F4,
    He.glo_ok X G (c.fact 4 (f := .glo "_law_pot") rfl),
    F5,
    He.glo_ok X G (c.fact 5 (f := .glo "_law_draw") rfl),
    F6,
    He.glo_ok X G (c.fact 6 (f := .glo "_law_same") rfl),
    F7,
    He.glo_ok X G (c.fact 7 (f := .glo "_law_gcd") rfl),
    F8,
    He.glo_ok X G (c.fact 8 (f := .glo "_law_odd") rfl),
    F9,
    He.glo_ok X G (c.fact 9 (f := .glo "_law_told") rfl),
    F10,
    He.glo_ok X G (c.fact 10 (f := .glo "_law_due") rfl),
    F11,
    He.glo_ok X G (c.fact 11 (f := .glo "law") rfl),
    He.free_ok X G (c.fact 12 (f := .free "len") rfl),
    He.free_ok X G (c.fact 13 (f := .free "range") rfl),
    He.free_ok X G (c.fact 14 (f := .free "isinstance") rfl),
    He.free_ok X G (c.fact 15 (f := .free "int") rfl),
    He.free_ok X G (c.fact 16 (f := .free "bool") rfl),
    He.free_ok X G (c.fact 17 (f := .free "str") rfl),
    He.free_ok X G (c.fact 18 (f := .free "tuple") rfl),
    He.free_ok X G (c.fact 19 (f := .free "list") rfl),
    He.free_ok X G (c.fact 20 (f := .free "abs") rfl),
    He.free_ok X G (c.fact 21 (f := .free "min") rfl),
    He.free_ok X G (c.fact 22 (f := .free "max") rfl),
    He.free_ok X G (c.fact 23 (f := .free "all") rfl),
    PySem.W.mg_of X G (of_decide_eq_true u2),
    He.glo_ok X G (c.fact 24 (f := .glo "FiringError") rfl),
    (He.exc_ok (c.fact 25 (f := .exc "FiringError") rfl)).1,
    (He.exc_ok (c.fact 25 (f := .exc "FiringError") rfl)).2.1,
    (He.exc_ok (c.fact 25 (f := .exc "FiringError") rfl)).2.2.1,
    (He.exc_ok (c.fact 25 (f := .exc "FiringError") rfl)).2.2.2,
    He.glo_ok X G (c.fact 26 (f := .glo "InvalidNumber") rfl),
    (He.exc_ok (c.fact 27 (f := .exc "InvalidNumber") rfl)).1,
    (He.exc_ok (c.fact 27 (f := .exc "InvalidNumber") rfl)).2.1,
    (He.exc_ok (c.fact 27 (f := .exc "InvalidNumber") rfl)).2.2.1,
    (He.exc_ok (c.fact 27 (f := .exc "InvalidNumber") rfl)).2.2.2,
    He.exm_ok (c.fact 28 (f := .exm "InvalidNumber" "InvalidNumber" true) rfl),
    excCB_ok u0,
    of_decide_eq_true u1⟩
end Pf
namespace Pf
open PySem PySem.Spec PyProof.Rows L2
theorem eqI (i j : Int) : eqD (.int i) (.int j) = some (.bl (decide (i = j))) := by
  have : eqvD (.int i) (.int j) = decide (i = j) := rfl
  show (if _ then some (D.bl (eqvD (.int i) (.int j))) else none) = _
  rw [if_pos ⟨rfl, rfl⟩, this]
theorem mulL {i j : Int} (h : -18446744073709551616 < i ∧ i < 18446744073709551616) : mulD (.int i) (.int j) = some (.int (i * j)) := if_pos (.inl (.inl h))
theorem mulR {i j : Int} (h : -18446744073709551616 < j ∧ j < 18446744073709551616) : mulD (.int i) (.int j) = some (.int (i * j)) := if_pos (.inl (.inr h))
theorem modI {i j : Int} (h : 0 < j) : modD (.int i) (.int j) = some (.int (i % j)) := if_pos h
theorem fdivI {i j : Int} (h : 0 < j) (h2 : j.natAbs.log2 < 9000) : fdivD (.int i) (.int j) = some (.int (i / j)) := if_pos ⟨h, h2⟩
theorem setM_at {i : Nat} {fe fj : M D} {e : Env} : setM i fe fj e = (fe e).bnd fun y => fun e0 => match lstAt i e0 with
  | none => .bad
  | some _ => bnd fj (fun j e => match lstAt i e, j with
    | some ds, .int k => match ixN ds.length k with
      | some n => .ok .nx (e.set i (some (.lst (ds.set n y))))
      | none => .bad
    | _, _ => .bad) e0 := rfl
theorem draw_ok {c b k m : Int} (hc : 0 ≤ c) (hm : 0 < m) (hm2 : m.natAbs.log2 < 9000) : ∃ r c' k', f__law_draw [.lst [.int c, .int b, .int k], .int m] = .ok (.int r) [some (.lst [.int c', .int b, .int k']), none] ∧ 0 ≤ r ∧ r < m ∧ 0 ≤ c' ∧ c' ≤ c := by
  have i0 : ixN 3 0 = some 0 := rfl
  have i1 : ixN 3 1 = some 1 := rfl
  have i2 : ixN 3 2 = some 2 := rfl
  by_cases hb : b = 1 ∧ 0 < c
  · obtain ⟨h1, h2⟩ := hb
    refine ⟨c % m, c / m, k + 1, ?_, Int.emod_nonneg _ (by omega), Int.emod_lt_of_pos _ hm, Int.ediv_nonneg hc (by omega), Int.ediv_le_self _ hc⟩
    simp [f__law_draw, fnOf_at, c__law_draw, setM_at, lstAt, idxD, atI, i0, i1, i2, addD, eqI, gtD, blD, intD, modI hm, fdivI hm hm2, keepIo, h1, h2]
  · have m1 : 0 ≤ (c + 977 * (k + 1) + 1) * 48271 % 2147483647 ∧ (c + 977 * (k + 1) + 1) * 48271 % 2147483647 < 2147483647 := ⟨Int.emod_nonneg _ (by decide), Int.emod_lt_of_pos _ (by decide)⟩
    refine ⟨((((c + 977 * (k + 1) + 1) * 48271 % 2147483647) * ((c + 977 * (k + 1) + 1) * 48271 % 2147483647) % 2147483629 + 40692 * (k + 1)) * 69621 % 2147483563) / 8 % m, c, k + 1, ?_, Int.emod_nonneg _ (by omega), Int.emod_lt_of_pos _ hm, hc, Int.le_refl _⟩
    generalize hx : (c + 977 * (k + 1) + 1) * 48271 % 2147483647 = x at m1
    have q1 : mulD (.int x) (.int x) = some (.int (x * x)) := mulL (by omega)
    have q2 : fdivD (.int (((x * x % 2147483629 + 40692 * (k + 1)) * 69621) % 2147483563)) (.int 8) = some (.int (((x * x % 2147483629 + 40692 * (k + 1)) * 69621) % 2147483563 / 8)) := fdivI (by decide) (by decide)
    have step : ∀ y : D, (b = 1 → ¬ 0 < c) := fun _ h1 h2 => hb ⟨h1, h2⟩
    by_cases h1 : b = 1
    · have h2 : ¬ 0 < c := fun h2 => hb ⟨h1, h2⟩
      simp [f__law_draw, fnOf_at, c__law_draw, setM_at, lstAt, idxD, atI, i0, i1, i2, addD, eqI, gtD, blD, intD, keepIo, h1, h2, mulL, mulR, modI, hx, q1, q2, modI hm]
    · simp [f__law_draw, fnOf_at, c__law_draw, setM_at, lstAt, idxD, atI, i0, i1, i2, addD, eqI, gtD, blD, intD, keepIo, h1, mulL, mulR, modI, hx, q1, q2, modI hm]

theorem powI {i j : Int} (h : 0 ≤ j ∧ j ≤ 1000000 ∧ i.natAbs < 2 ^ 64) : powD (.int i) (.int j) = some (.int (i ^ j.toNat)) := if_pos h
theorem mulW {i j : Int} (h : i.natAbs.log2 + j.natAbs.log2 < 1000000) : mulD (.int i) (.int j) = some (.int (i * j)) := if_pos (.inr h)
theorem big_at (e : Env) : op2 mulD (op2 mulD (op2 mulD (op2 powD (cst (.int 10)) (cst (.int 60))) (op2 powD (cst (.int 10)) (cst (.int 60)))) (op2 powD (cst (.int 10)) (cst (.int 60)))) (op2 powD (cst (.int 10)) (cst (.int 60))) e = .ok (.int (10 ^ 240)) e := by
  have p : powD (.int 10) (.int 60) = some (.int (10 ^ 60)) := powI (by decide)
  have m1 : mulD (.int (10 ^ 60)) (.int (10 ^ 60)) = some (.int (10 ^ 120)) := by rw [mulW (by decide +kernel)]; rfl
  have m2 : mulD (.int (10 ^ 120)) (.int (10 ^ 60)) = some (.int (10 ^ 180)) := by rw [mulW (by decide +kernel)]; rfl
  have m3 : mulD (.int (10 ^ 180)) (.int (10 ^ 60)) = some (.int (10 ^ 240)) := by rw [mulW (by decide +kernel)]; rfl
  rw [op2_at, op2_at, op2_at, op2_at, cst_at, bnd_ok, bnd_at, cst_at, bnd_ok, p, lift_some, bnd_ok, bnd_at, op2_at, cst_at, bnd_ok, bnd_at, cst_at, bnd_ok, p, lift_some, bnd_ok, m1, lift_some, bnd_ok, bnd_at, op2_at, cst_at, bnd_ok, bnd_at, cst_at, bnd_ok, p, lift_some, bnd_ok, m2, lift_some, bnd_ok, bnd_at, op2_at, cst_at, bnd_ok, bnd_at, cst_at, bnd_ok, p, lift_some, bnd_ok, m3, lift_some]
theorem pot_ok (ns : List Int) (at_ : Nat) (h : at_ < 1000) : ∃ c b k, f__law_pot [.scr (ns.map .int), .int (at_ : Nat)] = .ok (.lst [.int c, .int b, .int k]) [none, none] ∧ 0 ≤ c := by
  have p18 : powD (.int 10) (.int 18) = some (.int (10 ^ 18)) := powI (by decide)
  have m7 : mulD (.int 7) (.int (at_ : Nat)) = some (.int (7 * (at_ : Int))) := mulL (by decide)
  have m3 : mulD (.int 3) (.int (at_ : Nat)) = some (.int (3 * (at_ : Int))) := mulL (by decide)
  have hp : (0 : Int) < 10 ^ 240 := by decide +kernel
  have fin : ∀ x : Int, 0 ≤ (if x < 0 then -x else x) % 10 ^ 240 := fun x => Int.emod_nonneg _ (by omega)
  by_cases hl : at_ < ns.length
  · refine ⟨(if ns[at_] < 0 then -ns[at_] else ns[at_]) % 10 ^ 240, if decide ((10 : Int) ^ 18 ≤ (if ns[at_] < 0 then -ns[at_] else ns[at_]) % 10 ^ 240) = true then 1 else 0, 3 * (at_ : Int), ?_, fin (ns[at_])⟩
    have ix : ixN ns.length (at_ : Nat) = some at_ := by
      unfold ixN
      rw [if_pos (by omega), if_pos (by omega)]
      simp
    unfold f__law_pot c__law_pot
    generalize hB : op2 mulD (op2 mulD (op2 mulD (op2 powD (cst (.int 10)) (cst (.int 60))) (op2 powD (cst (.int 10)) (cst (.int 60)))) (op2 powD (cst (.int 10)) (cst (.int 60)))) (op2 powD (cst (.int 10)) (cst (.int 60))) = B
    have hB2 : ∀ e, B e = .ok (.int (10 ^ 240)) e := fun e => by rw [← hB]; exact big_at e
    generalize hQ : (10 : Int) ^ 240 = Q at hp hB2 ⊢
    simp [fnOf_at, m7, m3, lenD, ltD, blD, idxD, atI, ix, hl, absD, intD, hB2, modI hp, p18, geD, keepIo, sizeLine_eq]
  · refine ⟨(if 7 * (at_ : Int) < 0 then -(7 * (at_ : Int)) else 7 * (at_ : Int)) % 10 ^ 240, if decide ((10 : Int) ^ 18 ≤ (if 7 * (at_ : Int) < 0 then -(7 * (at_ : Int)) else 7 * (at_ : Int)) % 10 ^ 240) = true then 1 else 0, 3 * (at_ : Int), ?_, fin _⟩
    unfold f__law_pot c__law_pot
    generalize hB : op2 mulD (op2 mulD (op2 mulD (op2 powD (cst (.int 10)) (cst (.int 60))) (op2 powD (cst (.int 10)) (cst (.int 60)))) (op2 powD (cst (.int 10)) (cst (.int 60)))) (op2 powD (cst (.int 10)) (cst (.int 60))) = B
    have hB2 : ∀ e, B e = .ok (.int (10 ^ 240)) e := fun e => by rw [← hB]; exact big_at e
    generalize hQ : (10 : Int) ^ 240 = Q at hp hB2 ⊢
    simp [fnOf_at, m7, m3, lenD, ltD, blD, idxD, atI, hl, absD, intD, hB2, modI hp, p18, geD, keepIo, sizeLine_eq]
end Pf
namespace Pf
open PySem PySem.Spec PyProof.Rows L2
theorem gcd_loop : ∀ (n : Nat) (a : Int) (b : Int), 0 ≤ a → 0 ≤ b → b.toNat ≤ n →
    whM (tb (op2 gtD (vr 1) (cst (.int 0)))) (seqM (parM [0, 1] (consM (vr 1) (consM (op2 modD (op1 intD (vr 0)) (vr 1)) nilM))) nop) [some (.int a), some (.int b)] = .ok .nx [some (.int (Int.gcd a b)), some (.int 0)]
  | n, a, b, ha, hb, hn => by
    by_cases h0 : b = 0
    · subst h0
      have e : ((Int.gcd a 0 : Nat) : Int) = a := by
        rw [Int.gcd_zero_right]
        omega
      rw [e]
      exact whM_stop (by simp [gtD, blD])
    · have hp : 0 < b := by omega
      match n, hn with
      | 0, hn => omega
      | n + 1, hn =>
        have h1 := Int.emod_nonneg a h0
        have h2 := Int.emod_lt_of_pos a hp
        have ih := gcd_loop n b (a % b) hb h1 (by omega)
        have e : Int.gcd b (a % b) = Int.gcd a b := by
          rw [Int.gcd_comm a b, Int.emod_def]
          exact Int.gcd_sub_mul_left_right b a (a / b)
        rw [e] at ih
        refine whM_turn (e1 := [some (.int a), some (.int b)]) (e2 := [some (.int b), some (.int (a % b))]) (by simp [gtD, blD, hp]) ?_ ih (fun z => by cases z)
        simp [intD, modI hp, setE]
theorem gcd_ok {a b : Int} (ha : 0 ≤ a) (hb : 0 ≤ b) : f__law_gcd [.int a, .int b] = .ok (.int (Int.gcd a b)) [none, none] := by
  have h := gcd_loop b.toNat a b ha hb (Nat.le_refl _)
  simp [f__law_gcd, fnOf_at, c__law_gcd, l__law_gcd_1, h, keepIo]
end Pf
namespace Pf
open PySem PySem.Spec PyProof.Rows L2
/-- no function among the values -/
def noF : D → Bool
  | .clo _ _ => false
  | _ => true
def goodI (l : Int) : D → Bool
  | .int i => decide (l ≤ i)
  | _ => false
theorem goodI_of {l : Int} {d : D} (h : goodI l d = true) : ∃ i, d = .int i ∧ l ≤ i := by
  cases d with
  | int i => exact ⟨i, rfl, of_decide_eq_true h⟩
  | _ => cases h
theorem f_is_from_d {d : D} {l : Int} (h : noF d = true) : f_is_from [.int l, d] = .ok (.bl (goodI l d)) [none, none] := by
  cases d <;> first | rfl | cases h
def roomV (p t h : Int) : Int := if h ≤ p + t - (Int.gcd p t : Nat) + h % (Int.gcd p t : Nat) then p + t - (Int.gcd p t : Nat) + h % (Int.gcd p t : Nat) else h
theorem gcd_pos {p t : Int} (hp : 1 ≤ p) : (0 : Int) < (Int.gcd p t : Nat) := by
  have : 0 < Int.gcd p t := Int.gcd_pos_of_ne_zero_left _ (by omega)
  omega
theorem gcdI (p t : Int) : gcdD (.int p) (.int t) = some (.int (Int.gcd p t : Nat)) := rfl
theorem room_ok {p t h : Int} (hp : 1 ≤ p) : f_room_alone [.int p, .int t, .int h] = .ok (.int (roomV p t h)) [none, none, none] := by
  have g := gcd_pos (t := t) hp
  unfold roomV
  by_cases hh : h ≤ p + t - (Int.gcd p t : Nat) + h % (Int.gcd p t : Nat)
  · simp [f_room_alone, fnOf_at, c_room_alone, gcdI, addD, subD, modI g, leD, blD, hh, keepIo]
  · simp [f_room_alone, fnOf_at, c_room_alone, gcdI, addD, subD, modI g, leD, blD, hh, keepIo]
def allGood (a b c : D) : Bool := goodI 1 a && (goodI 1 b && goodI 0 c)
theorem edge_good {p t h : Int} (hp : 1 ≤ p) (ht : 1 ≤ t) (hh : 0 ≤ h) : f_edge_room [.int p, .int t, .int h] = .ok (.int (roomV p t h)) [none, none, none] := by
  have g1 : f_is_from [.int 1, .int p] = .ok (.bl true) [none, none] := by rw [f_is_from_d rfl]; simp [goodI, hp]
  have g2 : f_is_from [.int 1, .int t] = .ok (.bl true) [none, none] := by rw [f_is_from_d rfl]; simp [goodI, ht]
  have g3 : f_is_from [.int 0, .int h] = .ok (.bl true) [none, none] := by rw [f_is_from_d rfl]; simp [goodI, hh]
  simp [f_edge_room, fnOf_at, c_edge_room, argsAt, g1, g2, g3, backA, truD, room_ok hp, keepIo]
theorem edge_bad {a b c : D} (ha : noF a = true) (hb : noF b = true) (hc : noF c = true) (h : allGood a b c = false) : f_edge_room [a, b, c] = .exc ⟨"InvalidNumber", []⟩ [none, none, none] := by
  unfold allGood at h
  cases g1 : goodI 1 a with
  | false => simp [f_edge_room, fnOf_at, c_edge_room, argsAt, f_is_from_d ha, g1, backA, truD, keepIo, raiM]
  | true =>
    cases g2 : goodI 1 b with
    | false => simp [f_edge_room, fnOf_at, c_edge_room, argsAt, f_is_from_d ha, f_is_from_d hb, g1, g2, backA, truD, keepIo, raiM]
    | true =>
      have g3 : goodI 0 c = false := by rw [g1, g2] at h; simpa using h
      simp [f_edge_room, fnOf_at, c_edge_room, argsAt, f_is_from_d ha, f_is_from_d hb, f_is_from_d hc, g1, g2, g3, backA, truD, keepIo, raiM]
def toldV (a b c : D) : D := match a, b, c with
  | .int p, .int t, .int h => if allGood (.int p) (.int t) (.int h) = true then .tup [.str "told", .int (roomV p t h)] else .tup [.str "number", .bl true]
  | _, _, _ => .tup [.str "number", .bl true]
theorem toldV_bad {a b c : D} (h : allGood a b c = false) : toldV a b c = .tup [.str "number", .bl true] := by
  unfold toldV
  split
  · rw [if_neg (by rw [h]; exact Bool.false_ne_true)]
  · rfl
theorem told_ok {a b c : D} (ha : noF a = true) (hb : noF b = true) (hc : noF c = true) : f__law_told [a, b, c] = .ok (toldV a b c) [none, none, none] := by
  cases g : allGood a b c with
  | false =>
    rw [toldV_bad g]
    simp [f__law_told, fnOf_at, c__law_told, sizeLine_eq, tryA, catM, argsAt, edge_bad ha hb hc g, backA, catL, afterClr, keepIo]
  | true =>
    unfold allGood at g
    rw [Bool.and_eq_true, Bool.and_eq_true] at g
    obtain ⟨g1, g2, g3⟩ := g
    obtain ⟨p, rfl, hp⟩ := goodI_of g1
    obtain ⟨t, rfl, ht⟩ := goodI_of g2
    obtain ⟨h, rfl, hh⟩ := goodI_of g3
    have e : toldV (.int p) (.int t) (.int h) = .tup [.str "told", .int (roomV p t h)] := by
      unfold toldV
      exact if_pos (by unfold allGood; rw [g1, g2, g3]; rfl)
    rw [e]
    simp [f__law_told, fnOf_at, c__law_told, sizeLine_eq, tryA, catM, argsAt, edge_good hp ht hh, backA, catL, afterClr, keepIo]
theorem due_test {d : D} {l : Int} {x0 x1 x2 x5 x6 : Option D} (h : noF d = true) : orB (notB (tru (op1 (isiD .int) (vr 3)))) (orB (tru (op1 (isiD .bool) (vr 3))) (tb (op2 ltD (vr 3) (vr 4)))) [x0, x1, x2, some d, some (.int l), x5, x6] = .ok (!goodI l d) [x0, x1, x2, some d, some (.int l), x5, x6] := by
  cases d with
  | int i =>
    have : decide (i < l) = !decide (l ≤ i) := by
      by_cases q : l ≤ i
      · simp [q, show ¬ i < l by omega]
      · simp [q, show i < l by omega]
    simp [isiD, isiB, truD, ltD, blD, goodI, this]
  | clo _ _ => cases h
  | _ => simp [isiD, isiB, truD, goodI]
/-- the law's own answer -/
theorem due_ok {a b c : D} (ha : noF a = true) (hb : noF b = true) (hc : noF c = true) : f__law_due [a, b, c] = .ok (toldV a b c) [none, none, none] := by
  cases g : allGood a b c with
  | false =>
    rw [toldV_bad g]
    unfold allGood at g
    have t1 := fun x0 x1 x2 x5 x6 => due_test (l := 1) (x0 := x0) (x1 := x1) (x2 := x2) (x5 := x5) (x6 := x6) ha
    have t2 := fun x0 x1 x2 x5 x6 => due_test (l := 1) (x0 := x0) (x1 := x1) (x2 := x2) (x5 := x5) (x6 := x6) hb
    have t3 := fun x0 x1 x2 x5 x6 => due_test (l := 0) (x0 := x0) (x1 := x1) (x2 := x2) (x5 := x5) (x6 := x6) hc
    unfold f__law_due c__law_due l__law_due_1
    generalize orB (notB (tru (op1 (isiD .int) (vr 3)))) (orB (tru (op1 (isiD .bool) (vr 3))) (tb (op2 ltD (vr 3) (vr 4)))) = T at t1 t2 t3 ⊢
    cases g1 : goodI 1 a with
    | false =>
      rw [g1] at t1
      simp [fnOf_at, sizeLine_eq, seqD, forM, tgT, tCons, tgN, tNil, t1, keepIo]
    | true =>
      cases g2 : goodI 1 b with
      | false =>
        rw [g1] at t1
        rw [g2] at t2
        simp [fnOf_at, sizeLine_eq, seqD, forM, tgT, tCons, tgN, tNil, t1, t2, keepIo]
      | true =>
        have g3 : goodI 0 c = false := by rw [g1, g2] at g; simpa using g
        rw [g1] at t1
        rw [g2] at t2
        rw [g3] at t3
        simp [fnOf_at, sizeLine_eq, seqD, forM, tgT, tCons, tgN, tNil, t1, t2, t3, keepIo]
  | true =>
    unfold allGood at g
    rw [Bool.and_eq_true, Bool.and_eq_true] at g
    obtain ⟨g1, g2, g3⟩ := g
    obtain ⟨p, rfl, hp⟩ := goodI_of g1
    obtain ⟨t, rfl, ht⟩ := goodI_of g2
    obtain ⟨h, rfl, hh⟩ := goodI_of g3
    have e : toldV (.int p) (.int t) (.int h) = .tup [.str "told", .int (roomV p t h)] := by
      unfold toldV
      exact if_pos (by unfold allGood; rw [g1, g2, g3]; rfl)
    rw [e]
    have gp := gcd_pos (t := t) hp
    have n1 : ¬ p < 1 := by omega
    have n2 : ¬ t < 1 := by omega
    have n3 : ¬ h < 0 := by omega
    unfold roomV
    by_cases q : h ≤ p + t - (Int.gcd p t : Nat) + h % (Int.gcd p t : Nat)
    · simp [f__law_due, fnOf_at, c__law_due, l__law_due_1, sizeLine_eq, seqD, forM, tgT, tCons, tgN, tNil, isiD, isiB, truD, ltD, blD, n1, n2, n3, argsAt, gcd_ok (by omega : 0 ≤ p) (by omega : 0 ≤ t), backA, addD, subD, intD, modI gp, leD, q, keepIo]
    · simp [f__law_due, fnOf_at, c__law_due, l__law_due_1, sizeLine_eq, seqD, forM, tgT, tCons, tgN, tNil, isiD, isiB, truD, ltD, blD, n1, n2, n3, argsAt, gcd_ok (by omega : 0 ≤ p) (by omega : 0 ≤ t), backA, addD, subD, intD, modI gp, leD, q, keepIo]

/-! ### the same -/
theorem eqB (i j : Bool) : eqD (.bl i) (.bl j) = some (.bl (decide (i = j))) := by
  have : eqvD (.bl i) (.bl j) = decide (i = j) := by cases i <;> cases j <;> rfl
  show (if _ then some (D.bl (eqvD (.bl i) (.bl j))) else none) = _
  rw [if_pos ⟨rfl, rfl⟩, this]
theorem neB (i j : Bool) : neD (.bl i) (.bl j) = some (.bl (!decide (i = j))) := by
  have : eqvD (.bl i) (.bl j) = decide (i = j) := by cases i <;> cases j <;> rfl
  show (if _ then some (D.bl (!eqvD (.bl i) (.bl j))) else none) = _
  rw [if_pos ⟨rfl, rfl⟩, this]
theorem same_int (n : Nat) (i : Int) : f__law_same (n + 1) [.int i, .int i] = .ok (.bl true) [none, none] := by
  simp [f__law_same, fnOf_at, c__law_same, isiD, isiB, truD, isD, isND, nonB, blD, neB, eqI, keepIo]
theorem same_bl (n : Nat) (i : Bool) : f__law_same (n + 1) [.bl i, .bl i] = .ok (.bl true) [none, none] := by
  simp [f__law_same, fnOf_at, c__law_same, isiD, isiB, truD, isD, isND, nonB, blD, neB, eqB, keepIo]
theorem same_str (n : Nat) (s : Str) (h : eqD (.str s) (.str s) = some (.bl true)) : f__law_same (n + 1) [.str s, .str s] = .ok (.bl true) [none, none] := by
  simp [f__law_same, fnOf_at, c__law_same, isiD, isiB, truD, isD, isND, nonB, blD, neB, h, keepIo]
theorem same_tup2 (n : Nat) (x y : D) (hx : f__law_same n [x, x] = .ok (.bl true) [none, none]) (hy : f__law_same n [y, y] = .ok (.bl true) [none, none]) : f__law_same (n + 1) [.tup [x, y], .tup [x, y]] = .ok (.bl true) [none, none] := by
  simp [f__law_same, fnOf_at, c__law_same, isiD, isiB, truD, isD, isND, nonB, blD, neB, eqI, lenD, lcM, lcA, rng1D, rngL, lcJ, chk_nil, wipeE, backE, tgN, List.range_succ, argsAt, idxD, atI, ixN, hx, hy, backA, sizeLine_eq, allD, blsD, keepIo]
end Pf
namespace Pf
open PySem PySem.Spec PyProof.Rows L2
theorem atI_of {xs : List D} {r : Int} (h0 : 0 ≤ r) (h1 : r < xs.length) : ∃ d, atI xs r = some d ∧ d ∈ xs := by
  have hl : r.toNat < xs.length := by omega
  refine ⟨xs[r.toNat], ?_, List.getElem_mem hl⟩
  unfold atI ixN
  rw [if_pos h0, if_pos h1]
  simp [hl]
def oddL : List D := [.non, .bl true, .bl false, .str "1", .str "", .tup [], .lst [], .tup [.int 0], .lst [.int 0, .int 1], .int (-1), .int (10 ^ 39), .tup [.non], .str "a b", .int (-(10 ^ 30)), .tup [.int 1, .int 2], .str "0"]
theorem odd_ok {c b k : Int} (hc : 0 ≤ c) : ∃ d c' k', f__law_odd [.lst [.int c, .int b, .int k]] = .ok d [some (.lst [.int c', .int b, .int k'])] ∧ noF d = true ∧ 0 ≤ c' := by
  obtain ⟨r, c', k', hd, r0, r1, c0, _⟩ := draw_ok (c := c) (b := b) (k := k) (m := 16) hc (by decide) (by decide)
  obtain ⟨d, hat, hm⟩ := atI_of (xs := oddL) r0 (by simpa [oddL] using r1)
  have hn : noF d = true := List.all_eq_true.mp (show oddL.all noF = true from rfl) d hm
  refine ⟨d, c', k', ?_, hn, c0⟩
  have p39 : powD (.int 10) (.int 39) = some (.int (10 ^ 39)) := powI (by decide)
  have p30 : powD (.int 10) (.int 30) = some (.int (10 ^ 30)) := powI (by decide)
  have n1 : negD (.int 1) = some (.int (-1)) := rfl
  have n2 : negD (.int (10 ^ 30)) = some (.int (-(10 ^ 30))) := rfl
  unfold oddL at hat
  generalize (10 : Int) ^ 39 = a39 at *
  generalize (10 : Int) ^ 30 = a30 at *
  simp [f__law_odd, fnOf_at, c__law_odd, p39, p30, n1, n2, sizeLine_eq, lenD, argsAt, hd, backA, idxD, hat, keepIo]
theorem eqSs (s : Str) (h : okD (.str s) = true) : eqD (.str s) (.str s) = some (.bl true) := by
  have e : eqvD (.str s) (.str s) = true := by
    show (s == s) = true
    simp
  show (if _ then some (D.bl (eqvD (.str s) (.str s))) else none) = _
  rw [if_pos ⟨h, h⟩, e]
theorem same_told (a b c : D) : f__law_same 20 [toldV a b c, toldV a b c] = .ok (.bl true) [none, none] := by
  have h1 : eqD (.str "told") (.str "told") = some (.bl true) := eqSs _ (by decide +kernel)
  have h2 : eqD (.str "number") (.str "number") = some (.bl true) := eqSs _ (by decide +kernel)
  have t : ∀ i : Int, f__law_same 20 [.tup [.str "told", .int i], .tup [.str "told", .int i]] = .ok (.bl true) [none, none] := fun i => same_tup2 19 _ _ (same_str 18 _ h1) (same_int 18 i)
  have u : f__law_same 20 [.tup [.str "number", .bl true], .tup [.str "number", .bl true]] = .ok (.bl true) [none, none] := same_tup2 19 _ _ (same_str 18 _ h2) (same_bl 18 true)
  unfold toldV
  split
  · split
    · exact t _
    · exact u
  · exact u
end Pf
namespace Pf
open PySem PySem.Spec PyProof.Rows L2
def good3 (d : D) : Prop := ∃ a b c, d = .tup [a, b, c] ∧ noF a = true ∧ noF b = true ∧ noF c = true
theorem row1_ok {s0 s1 s2 s3 s4 s5 s6 s7 : Option D} {a b c : D} (ha : noF a = true) (hb : noF b = true) (hc : noF c = true) : l_law_1 [s0, s1, s2, s3, s4, s5, s6, s7, some a, some b, some c] = .ok .nx [s0, s1, s2, s3, s4, s5, s6, s7, some a, some b, some c] := by
  simp [l_law_1, argsAt, told_ok ha hb hc, due_ok ha hb hc, same_told, backA, truD]
theorem rows_ok {s0 s1 s2 s3 s4 s5 s6 s7 : Option D} : ∀ {rs : List D}, (∀ r ∈ rs, good3 r) → ∀ o8 o9 o10, ∃ p8 p9 p10, forM (tgT 3 (tCons (tgN 8) (tCons (tgN 9) (tCons (tgN 10) tNil)))) l_law_1 rs [s0, s1, s2, s3, s4, s5, s6, s7, o8, o9, o10] = .ok .nx [s0, s1, s2, s3, s4, s5, s6, s7, p8, p9, p10]
  | [], _, o8, o9, o10 => ⟨o8, o9, o10, rfl⟩
  | r :: rs, h, o8, o9, o10 => by
    obtain ⟨a, b, c, rfl, ha, hb, hc⟩ := h r (by simp)
    obtain ⟨p8, p9, p10, q⟩ := rows_ok (s0 := s0) (s1 := s1) (s2 := s2) (s3 := s3) (s4 := s4) (s5 := s5) (s6 := s6) (s7 := s7) (rs := rs) (fun r hr => h r (by simp [hr])) (some a) (some b) (some c)
    refine ⟨p8, p9, p10, ?_⟩
    unfold forM
    simp [tgT, tCons, tgN, tNil, row1_ok ha hb hc, q]

theorem gcd_le {p t : Int} (hp : 1 ≤ p) : ((Int.gcd p t : Nat) : Int) ≤ p := by
  have h : ((Int.gcd p t : Nat) : Int) ∣ p := Int.gcd_dvd_left ..
  exact Int.le_of_dvd (by omega) h
def rowL (r1 r2 h r6 : Int) (d7 d8 d9 : D) : List D := [.tup [.int (1 + r1), .int (1 + r2), .int h], .tup [.int (1 + r2), .int (1 + r1), .int h], .tup [.int ((1 + r1) * (1 + r6)), .int ((1 + r2) * (1 + r6)), .int h], .tup [.int (1 + r1), .int (1 + r2), .int (h * (1 + r6))], .tup [.int (1 + r6), .int (1 + r6 + 1), .int h],
      .tup [.int 0, .int (1 + r2), .int h], .tup [.int (1 + r1), .int 0, .int h], .tup [.int (1 + r1), .int (1 + r2), .int (-1)], .tup [.int (1 + r1), .int (1 + r2), .bl true], .tup [.bl true, .int (1 + r2), .int h], .tup [.int (1 + r1), .int (-(1 + r2)), .int h],
      .tup [d7, .int (1 + r2), .int h], .tup [.int (1 + r1), d8, .int h], .tup [.int (1 + r1), .int (1 + r2), d9], .tup [.int (1 + r1), .int (1 + r1), .int h], .tup [.int 1, .int (1 + r2), .int h]]
theorem body_ok (ns : List Int) (at_ : Nat) (hat : at_ < 1000) (o2 o3 o4 o5 o6 o7 o8 o9 o10 : Option D) : ∃ q2 q3 q4 q5 q6 q7 q8 q9 q10, l_law_2 [some (.scr (ns.map .int)), some (.int (at_ : Nat)), o2, o3, o4, o5, o6, o7, o8, o9, o10] = .ok .nx [some (.scr (ns.map .int)), some (.int (at_ : Nat)), q2, q3, q4, q5, q6, q7, q8, q9, q10] := by
  obtain ⟨c0, b, k0, hpot, hc0⟩ := pot_ok ns at_ hat
  obtain ⟨r1, c1, k1, hd1, a1, b1, hc1, _⟩ := draw_ok (c := c0) (b := b) (k := k0) (m := 12) hc0 (by decide) (by decide)
  obtain ⟨r2, c2, k2, hd2, a2, b2, hc2, _⟩ := draw_ok (c := c1) (b := b) (k := k1) (m := 12) hc1 (by decide) (by decide)
  obtain ⟨r3, c3, k3, hd3, a3, b3, hc3, _⟩ := draw_ok (c := c2) (b := b) (k := k2) (m := 201) hc2 (by decide) (by decide)
  obtain ⟨r4, c4, k4, hd4, a4, b4, hc4, _⟩ := draw_ok (c := c3) (b := b) (k := k3) (m := 3) hc3 (by decide) (by decide)
  obtain ⟨r5, c5, k5, hd5, a5, b5, hc5, _⟩ := draw_ok (c := c4) (b := b) (k := k4) (m := 5) hc4 (by decide) (by decide)
  obtain ⟨r6, c6, k6, hd6, a6, b6, hc6, _⟩ := draw_ok (c := c5) (b := b) (k := k5) (m := 10 ^ 20) hc5 (by decide) (by decide)
  obtain ⟨d7, c7, k7, hd7, n7, hc7⟩ := odd_ok (c := c6) (b := b) (k := k6) hc6
  obtain ⟨d8, c8, k8, hd8, n8, hc8⟩ := odd_ok (c := c7) (b := b) (k := k7) hc7
  obtain ⟨d9, c9, k9, hd9, n9, hc9⟩ := odd_ok (c := c8) (b := b) (k := k8) hc8
  have hg := gcd_ok (a := 1 + r1) (b := 1 + r2) (by omega) (by omega)
  have g1 := gcd_pos (p := 1 + r1) (t := 1 + r2) (by omega)
  have g2 := gcd_le (p := 1 + r1) (t := 1 + r2) (by omega)
  obtain ⟨dh, hix, hmem⟩ := atI_of (xs := [.int r3, .int (1 + r1 + (1 + r2)), .int (1 + r1 + (1 + r2) - 1), .int 0, .int (1 + r1 + (1 + r2) - (Int.gcd (1 + r1) (1 + r2) : Nat) + r4)]) a5 (by simpa using b5)
  have hh : ∃ h : Int, dh = .int h ∧ -18446744073709551616 < h ∧ h < 18446744073709551616 := by
    simp only [List.mem_cons, List.not_mem_nil, or_false] at hmem
    rcases hmem with e | e | e | e | e
    · exact ⟨_, e, by omega, by omega⟩
    · exact ⟨_, e, by omega, by omega⟩
    · exact ⟨_, e, by omega, by omega⟩
    · exact ⟨_, e, by omega, by omega⟩
    · exact ⟨_, e, by omega, by omega⟩
  obtain ⟨h, rfl, h1, h2⟩ := hh
  have p20 : powD (.int 10) (.int 20) = some (.int (10 ^ 20)) := powI (by decide)
  have m1 : mulD (.int (1 + r1)) (.int (1 + r6)) = some (.int ((1 + r1) * (1 + r6))) := mulL (by omega)
  have m2 : mulD (.int (1 + r2)) (.int (1 + r6)) = some (.int ((1 + r2) * (1 + r6))) := mulL (by omega)
  have m3 : mulD (.int h) (.int (1 + r6)) = some (.int (h * (1 + r6))) := mulL ⟨h1, h2⟩
  have e1 : negD (.int 1) = some (.int (-1)) := rfl
  have e2 : negD (.int (1 + r2)) = some (.int (-(1 + r2))) := rfl
  generalize (10 : Int) ^ 20 = a20 at *
  obtain ⟨q8, q9, q10, hr⟩ := rows_ok (s0 := some (.scr (ns.map .int))) (s1 := some (.int (at_ : Nat))) (s2 := some (.lst [.int c9, .int b, .int k9])) (s3 := some (.int (1 + r1))) (s4 := some (.int (1 + r2))) (s5 := some (.int h)) (s6 := some (.int (1 + r6)))
    (s7 := some (.lst (rowL r1 r2 h r6 d7 d8 d9)))
    (rs := rowL r1 r2 h r6 d7 d8 d9)
    (fun r hr => by
      unfold rowL at hr
      simp only [List.mem_cons, List.not_mem_nil, or_false] at hr
      rcases hr with e | e | e | e | e | e | e | e | e | e | e | e | e | e | e | e <;> exact ⟨_, _, _, e, by first | rfl | assumption, by first | rfl | assumption, by first | rfl | assumption⟩) o8 o9 o10
  refine ⟨some (.lst [.int c9, .int b, .int k9]), some (.int (1 + r1)), some (.int (1 + r2)), some (.int h), some (.int (1 + r6)), some (.lst (rowL r1 r2 h r6 d7 d8 d9)), q8, q9, q10, ?_⟩
  unfold rowL at hr ⊢
  simp [l_law_2, argsAt, hpot, backA, hd1, hd2, hd3, hd4, hd5, hd6, hd7, hd8, hd9, hg, addD, subD, setE, sizeLine_eq, idxD, hix, p20, m1, m2, m3, e1, e2, catD, seqD]
  rw [hr]
  rfl

theorem law_true (ns : List Int) (hl : ns.length ≤ 63) (hb : ∀ z ∈ ns, Builtin.Int.intBits z ≤ 1048576) : ∃ e, f_law [.scr (ns.map .int)] = .ok (.bl true) e := by
  have hm : ∃ n : Int, maxD (.int 8) (.int (if (60 : Int) < (ns.length : Int) then 60 else (ns.length : Int))) = some (.int n) ∧ 0 ≤ n ∧ n ≤ 64 := by
    refine ⟨_, rfl, ?_, ?_⟩
    · split <;> split <;> omega
    · split <;> split <;> omega
  obtain ⟨n, hn, n0, n1⟩ := hm
  have hr : rng1D (.int n) = some (rngL 0 n.toNat) := if_pos ⟨by omega, by omega⟩
  obtain ⟨e', h1, o1, o2, o3, o4, o5, o6, o7, o8, o9, o10, rfl⟩ := forM_inv (tg := tgN 1) (b := l_law_2) (fun _ e => ∃ o1 o2 o3 o4 o5 o6 o7 o8 o9 o10, e = [some (.scr (ns.map .int)), o1, o2, o3, o4, o5, o6, o7, o8, o9, o10]) (xs := rngL 0 n.toNat)
    (e := [some (.scr (ns.map .int)), none, none, none, none, none, none, none, none, none, none]) (fun x r e ⟨o1, o2, o3, o4, o5, o6, o7, o8, o9, o10, he⟩ hs => by
      subst he
      have hx : x ∈ rngL 0 n.toNat := hs.subset (by simp)
      unfold rngL at hx
      obtain ⟨i, hi, rfl⟩ := List.mem_map.mp hx
      have hi' : i < n.toNat := by simpa using hi
      obtain ⟨q2, q3, q4, q5, q6, q7, q8, q9, q10, q⟩ := body_ok ns i (by omega) o2 o3 o4 o5 o6 o7 o8 o9 o10
      refine ⟨_, _, rfl, .inl ?_, some (.int (i : Nat)), q2, q3, q4, q5, q6, q7, q8, q9, q10, rfl⟩
      rw [show (0 : Int) + (i : Int) = (i : Int) by omega]
      exact q) ⟨none, none, none, none, none, none, none, none, none, none, rfl⟩
  refine ⟨[none], ?_⟩
  simp [f_law, fnOf_at, c_law, lenD, minD, hn, hr, h1, keepIo]
end Pf
open PySem PySem.W PySem.Calls PyProof.Rows
theorem PySem.Challenge.cw_firingrounds_k21_edge_rooms_holds : PySem.Challenge.rw_firingrounds_k21_edge_rooms.Holds := by
  w_on; o_law
  refine HandSHeadRun.head_imp (r := OpenLaw.row PySem.Challenge.rw_firingrounds_k21_edge_rooms) (q := view (OpenLaw.row PySem.Challenge.rw_firingrounds_k21_edge_rooms).prog [0, 18]) (H := Pf.hk) (ob := Pf.ob) (M := 20000) (loose := Pf.nms) (d := HandSHeadRun.topDef (OpenLaw.row PySem.Challenge.rw_firingrounds_k21_edge_rooms).prog 18) (kwd := []) Pf.ob_eq
    Pf.run (by kernel_rfl) (by kernel_rfl) (by kernel_rfl) (by rfl) (by first | assumption | decide +kernel) (by decide +kernel) ⟨rfl, rfl, rfl, rfl, rfl, by decide +kernel⟩ ?hw ?hc
  case hw => w_witness2
  case hc =>
    refine Pf.walk_ofW (l := PySem.Challenge.rw_firingrounds_k21_edge_rooms) (n := 63) (k := 22) (x := "script") (CX := fun w => L2.CX PySem.Challenge.rw_firingrounds_k21_edge_rooms.prog w) rfl (by decide) (by kernel_rfl) ⟨rfl, by decide, by decide⟩ ?F Pf.noCX
    intro w mg fa h Y G hmg0
    obtain ⟨K, KX, hK, c, cx⟩ := Y
    obtain ⟨fd, T⟩ := Pf.facts KX G c cx
    have hmg : mg ("law" : PySem.Str) = some (.ref fa) := by
      have e : (HandSHeadRun.topDef (OpenLaw.row PySem.Challenge.rw_firingrounds_k21_edge_rooms).prog 18).name = ("law" : PySem.Str) := by kernel_rfl
      rw [← e]
      exact hmg0
    have e := hmg.symm.trans T.g_law
    cases e
    have b := L2.FunD.bindsA (ps := ["script"]) T.F_law fun _ _ _ _ _ _ us hl => match us, hl with | [_], _ => rfl
    exact ⟨K, _, _, KX, fun s v => b s [v] rfl, Pf.law_sp hK Pf.law_true, fun base _ _ => Pf.ok_law T⟩
