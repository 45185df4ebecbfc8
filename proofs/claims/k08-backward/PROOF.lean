import PyProof.Rows.All
import Wide.All
import OpenK.AllK
import Wide.FinOn
import HandS.ForMost
import HandS.Walk
import HandS.Deep
import HandS.TupAny
import HandS.Style
import HandS.Zip
import HandS.IsInst
import KE.SortData
import HandS.ForExc
import HandS.Conv
import HandS.CallSlots
import HandS.TryOnly
import HandS.TupLe
import HandS.WordsDict
import HandS.AnyAll
import HandS.Ends
import HandS.WordsExc
import PySem.Challenge.RW_treelamps_k08_slides_backward
set_option Elab.async false
set_option linter.all false
set_option autoImplicit false
set_option maxRecDepth 100000
set_option maxHeartbeats 1000000
/-! PV.1: data shown by values over the abstract heap -/
namespace PV
open PySem PySem.Spec L2

abbrev AP := Addr → Prop

/-- objects that nothing writes -/
def still : HO → Bool
  | .lst _ => false
  | .dK _ => false
  | .dT _ => false
  | .set _ _ => false
  | .ins _ _ _ => false
  | _ => true

/-- what M does not hold stays; nothing goes -/
structure Keep (M : AP) (H H' : Hp) : Prop where
  stay : ∀ a o, H a = some o → (¬ M a ∨ still o = true) → H' a = some o
  old : ∀ a, H' a = none → H a = none
theorem Keep.refl {M : AP} {H : Hp} : Keep M H H := ⟨fun _ _ h _ => h, fun _ h => h⟩
theorem Keep.mono {M M' : AP} {H H' : Hp} (k : Keep M H H') (h : ∀ a, M a → M' a) : Keep M' H H' := ⟨fun a o e c => k.stay a o e (c.imp (fun n m => n (h a m)) id), k.old⟩
/-- in a row: what the second one writes, the first wrote or was not there -/
theorem Keep.trans {M M' : AP} {H H1 H2 : Hp} (k : Keep M H H1) (k' : Keep M' H1 H2) (h : ∀ a, M' a → M a ∨ H a = none) : Keep M H H2 := ⟨fun a o e c =>
  k'.stay a o (k.stay a o e c) (c.imp (fun n m => (h a m).elim n fun z => by rw [z] at e; cases e) id), fun a z => k.old a (k'.old a z)⟩
theorem Keep.new {M : AP} {H : Hp} {p : Addr} {o : HO} (n : H p = none) : Keep M H (upd H p o) := ⟨fun a u e _ => by
  rw [upd_ne (fun z => by rw [z, n] at e; cases e)]; exact e, fun a z => by
  by_cases q : a = p
  · rw [q, upd_same] at z; cases z
  · rw [upd_ne q] at z; exact z⟩
theorem Keep.write {M : AP} {H : Hp} {p : Addr} {o u : HO} (h : H p = some u) (s : still u = false) (m : M p) : Keep M H (upd H p o) := ⟨fun a w e c => by
  by_cases z : a = p
  · subst z
    rw [h] at e; cases e
    rcases c with c | c
    · exact absurd m c
    · rw [s] at c; cases c
  · rw [upd_ne z]; exact e, fun a z => by
  by_cases q : a = p
  · rw [q, upd_same] at z; cases z
  · rw [upd_ne q] at z; exact z⟩

def keyD : Key → PyData
  | .inl i => .int i
  | .inr s => .str s
def keyT (ks : List Key) : PyData := .tuple (ks.map keyD)

def LsAt (K : PySem.W.Frag) (O : AP) (H : Hp) (a : Addr) (xs : List V) : Prop := ¬ O a ∧ H a = some (.lst xs)
def TpAt (K : PySem.W.Frag) (H : Hp) (a : Addr) (xs : List V) : Prop := H a = some (.tup xs)
theorem LsAt.sq {K : PySem.W.Frag} {O : AP} {H : Hp} {a : Addr} {xs : List V} (h : LsAt K O H a xs) : SqL K H a xs := SqL.of h.2
theorem TpAt.sq {K : PySem.W.Frag} {H : Hp} {a : Addr} {xs : List V} (h : TpAt K H a xs) : SqT K H a xs := SqT.of h

/-- d by the value v, to depth n; the lists and dicts in it do not lie in O -/
def ShN (K : PySem.W.Frag) (O : AP) (H : Hp) : Nat → V → PyData → Prop
  | 0, _, _ => False
  | n + 1, v, d => match d with
    | .none => v = .non
    | .bool b => v = .bl b
    | .int i => v = .int i
    | .str s => v = .str s
    | .list ds => ∃ a xs, v = .ref a ∧ LsAt K O H a xs ∧ xs.length ≤ sizeLine ∧ Paired (ShN K O H n) xs ds
    | .tuple ds => ∃ a xs, v = .ref a ∧ TpAt K H a xs ∧ xs.length ≤ sizeLine ∧ Paired (ShN K O H n) xs ds
    | .dict kvs => ∃ a, v = .ref a ∧ ¬ O a ∧ ((∃ ks, H a = some (.dK ks) ∧ Paired (fun p q => q.1 = keyD p.1 ∧ ShN K O H n p.2 q.2) ks kvs) ∨
        ∃ ks, H a = some (.dT ks) ∧ Paired (fun p q => q.1 = keyT p.1 ∧ ShN K O H n p.2 q.2) ks kvs)
def Sh (K : PySem.W.Frag) (O : AP) (H : Hp) (v : V) (d : PyData) : Prop := ∃ n, ShN K O H n v d
abbrev ShA (K : PySem.W.Frag) (O : AP) (H : Hp) : List V → List PyData → Prop := Paired (Sh K O H)
/-- what stands at a dict's address -/
def DcIs (K : PySem.W.Frag) (O : AP) (H : Hp) (o : HO) (kvs : List (PyData × PyData)) : Prop :=
  (∃ ks, o = .dK ks ∧ Paired (fun p q => q.1 = keyD p.1 ∧ Sh K O H p.2 q.2) ks kvs) ∨ ∃ ks, o = .dT ks ∧ Paired (fun p q => q.1 = keyT p.1 ∧ Sh K O H p.2 q.2) ks kvs

theorem Paired.imp {α β : Type} {F G : α → β → Prop} {l₁ : List α} {l₂ : List β} (h : Paired F l₁ l₂) (f : ∀ a b, F a b → G a b) : Paired G l₁ l₂ := by
  induction h with
  | nil => exact .nil
  | cons r _ ih => exact .cons (f _ _ r) ih
theorem Paired.get {α β : Type} {F : α → β → Prop} {l₁ : List α} {l₂ : List β} (h : Paired F l₁ l₂) : ∀ {i : Nat} {b : β}, l₂[i]? = some b → ∃ a, l₁[i]? = some a ∧ F a b := by
  induction h with
  | nil => intro i b e; simp at e
  | cons r _ ih =>
    intro i b e
    cases i with
    | zero => simp at e; subst e; exact ⟨_, rfl, r⟩
    | succ i => simp at e; simpa using ih e
theorem Paired.get' {α β : Type} {F : α → β → Prop} {l₁ : List α} {l₂ : List β} (h : Paired F l₁ l₂) : ∀ {i : Nat} {a : α}, l₁[i]? = some a → ∃ b, l₂[i]? = some b ∧ F a b := by
  induction h with
  | nil => intro i b e; simp at e
  | cons r _ ih =>
    intro i b e
    cases i with
    | zero => simp at e; subst e; exact ⟨_, rfl, r⟩
    | succ i => simp at e; simpa using ih e
theorem Paired.len {α β : Type} {F : α → β → Prop} {l₁ : List α} {l₂ : List β} (h : Paired F l₁ l₂) : l₁.length = l₂.length := PySem.Paired.length h
theorem Paired.app {α β : Type} {F : α → β → Prop} {l₁ m₁ : List α} {l₂ m₂ : List β} (h : Paired F l₁ l₂) (h' : Paired F m₁ m₂) : Paired F (l₁ ++ m₁) (l₂ ++ m₂) := by
  induction h with
  | nil => exact h'
  | cons r _ ih => exact .cons r ih
theorem Paired.tk {α β : Type} {F : α → β → Prop} {l₁ : List α} {l₂ : List β} (h : Paired F l₁ l₂) : ∀ n, Paired F (l₁.take n) (l₂.take n) := by
  induction h with
  | nil => intro n; simp; exact .nil
  | cons r _ ih => intro n; cases n with
    | zero => exact .nil
    | succ n => exact .cons r (ih n)
theorem Paired.dr {α β : Type} {F : α → β → Prop} {l₁ : List α} {l₂ : List β} (h : Paired F l₁ l₂) : ∀ n, Paired F (l₁.drop n) (l₂.drop n) := by
  induction h with
  | nil => intro n; simp; exact .nil
  | cons r t ih => intro n; cases n with
    | zero => exact .cons r t
    | succ n => exact ih n
theorem Paired.st {α β : Type} {F : α → β → Prop} {l₁ : List α} {l₂ : List β} {a : α} {b : β} (h : Paired F l₁ l₂) (r : F a b) : ∀ i, Paired F (l₁.set i a) (l₂.set i b) := by
  induction h with
  | nil => intro i; simp; exact .nil
  | cons q t ih => intro i; cases i with
    | zero => exact .cons r t
    | succ i => exact .cons q (ih i)
theorem Paired.er {α β : Type} {F : α → β → Prop} {l₁ : List α} {l₂ : List β} (h : Paired F l₁ l₂) : ∀ i, Paired F (l₁.eraseIdx i) (l₂.eraseIdx i) := by
  induction h with
  | nil => intro i; simp; exact .nil
  | cons q t ih => intro i; cases i with
    | zero => exact t
    | succ i => exact .cons q (ih i)
theorem Paired.rv {α β : Type} {F : α → β → Prop} {l₁ : List α} {l₂ : List β} (h : Paired F l₁ l₂) : Paired F l₁.reverse l₂.reverse := by
  induction h with
  | nil => exact .nil
  | cons r _ ih => rw [List.reverse_cons, List.reverse_cons]; exact Paired.app ih (.cons r .nil)
theorem Paired.mapL {α β γ : Type} {F : γ → β → Prop} {f : α → γ} : ∀ {l₁ : List α} {l₂ : List β}, Paired (fun a b => F (f a) b) l₁ l₂ → Paired F (l₁.map f) l₂
  | _, _, .nil => .nil
  | _, _, .cons r t => .cons r (Paired.mapL t)
theorem Paired.mapR {α β γ : Type} {F : α → γ → Prop} {f : β → γ} : ∀ {l₁ : List α} {l₂ : List β}, Paired (fun a b => F a (f b)) l₁ l₂ → Paired F l₁ (l₂.map f)
  | _, _, .nil => .nil
  | _, _, .cons r t => .cons r (Paired.mapR t)

section
variable {K : PySem.W.Frag} {O O' : AP} {H H' : Hp} {v : V} {d : PyData}

theorem ShN.step : ∀ {n : Nat} {v : V} {d : PyData}, ShN K O H n v d → ShN K O H (n + 1) v d
  | 0, _, _, h => h.elim
  | n + 1, v, .none, h => h
  | n + 1, v, .bool _, h => h
  | n + 1, v, .int _, h => h
  | n + 1, v, .str _, h => h
  | n + 1, v, .list ds, ⟨a, xs, e, l, z, p⟩ => ⟨a, xs, e, l, z, Paired.imp p fun _ _ q => ShN.step q⟩
  | n + 1, v, .tuple ds, ⟨a, xs, e, l, z, p⟩ => ⟨a, xs, e, l, z, Paired.imp p fun _ _ q => ShN.step q⟩
  | n + 1, v, .dict kvs, ⟨a, e, o, p⟩ => ⟨a, e, o, p.imp (fun ⟨ks, h, q⟩ => ⟨ks, h, Paired.imp q fun _ _ q => ⟨q.1, ShN.step q.2⟩⟩) fun ⟨ks, h, q⟩ => ⟨ks, h, Paired.imp q fun _ _ q => ⟨q.1, ShN.step q.2⟩⟩⟩
theorem ShN.le {n m : Nat} (h : n ≤ m) (s : ShN K O H n v d) : ShN K O H m v d := by
  induction h with
  | refl => exact s
  | step _ ih => exact ih.step
theorem pairN {α β : Type} {F : Nat → α → β → Prop} (mono : ∀ n m a b, n ≤ m → F n a b → F m a b) {xs : List α} {ds : List β} (h : Paired (fun a b => ∃ n, F n a b) xs ds) : ∃ n, Paired (F n) xs ds := by
  induction h with
  | nil => exact ⟨0, .nil⟩
  | cons r _ ih =>
    obtain ⟨n, r⟩ := r
    obtain ⟨m, t⟩ := ih
    exact ⟨max n m, .cons (mono _ _ _ _ (Nat.le_max_left _ _) r) (Paired.imp t fun _ _ q => mono _ _ _ _ (Nat.le_max_right _ _) q)⟩

theorem sh_none : Sh K O H v .none ↔ v = .non := ⟨fun ⟨n, h⟩ => by cases n with | zero => exact h.elim | succ n => exact h, fun h => ⟨1, h⟩⟩
theorem sh_bool {b : Bool} : Sh K O H v (.bool b) ↔ v = .bl b := ⟨fun ⟨n, h⟩ => by cases n with | zero => exact h.elim | succ n => exact h, fun h => ⟨1, h⟩⟩
theorem sh_int {i : Int} : Sh K O H v (.int i) ↔ v = .int i := ⟨fun ⟨n, h⟩ => by cases n with | zero => exact h.elim | succ n => exact h, fun h => ⟨1, h⟩⟩
theorem sh_str {s : Str} : Sh K O H v (.str s) ↔ v = .str s := ⟨fun ⟨n, h⟩ => by cases n with | zero => exact h.elim | succ n => exact h, fun h => ⟨1, h⟩⟩
theorem sh_list {ds : List PyData} : Sh K O H v (.list ds) ↔ ∃ a xs, v = .ref a ∧ LsAt K O H a xs ∧ xs.length ≤ sizeLine ∧ ShA K O H xs ds := by
  constructor
  · rintro ⟨n, h⟩
    cases n with
    | zero => exact h.elim
    | succ n =>
      obtain ⟨a, xs, e, l, z, p⟩ := h
      exact ⟨a, xs, e, l, z, Paired.imp p fun _ _ q => ⟨n, q⟩⟩
  · rintro ⟨a, xs, e, l, z, p⟩
    obtain ⟨n, q⟩ := pairN (F := ShN K O H) (fun _ _ _ _ h s => ShN.le h s) p
    exact ⟨n + 1, a, xs, e, l, z, q⟩
theorem sh_tuple {ds : List PyData} : Sh K O H v (.tuple ds) ↔ ∃ a xs, v = .ref a ∧ TpAt K H a xs ∧ xs.length ≤ sizeLine ∧ ShA K O H xs ds := by
  constructor
  · rintro ⟨n, h⟩
    cases n with
    | zero => exact h.elim
    | succ n =>
      obtain ⟨a, xs, e, l, z, p⟩ := h
      exact ⟨a, xs, e, l, z, Paired.imp p fun _ _ q => ⟨n, q⟩⟩
  · rintro ⟨a, xs, e, l, z, p⟩
    obtain ⟨n, q⟩ := pairN (F := ShN K O H) (fun _ _ _ _ h s => ShN.le h s) p
    exact ⟨n + 1, a, xs, e, l, z, q⟩
theorem sh_dict {kvs : List (PyData × PyData)} : Sh K O H v (.dict kvs) ↔ ∃ a o, v = .ref a ∧ ¬ O a ∧ H a = some o ∧ DcIs K O H o kvs := by
  constructor
  · rintro ⟨n, h⟩
    cases n with
    | zero => exact h.elim
    | succ n =>
      obtain ⟨a, e, o, p⟩ := h
      rcases p with ⟨ks, h, q⟩ | ⟨ks, h, q⟩
      · exact ⟨a, _, e, o, h, .inl ⟨ks, rfl, Paired.imp q fun _ _ q => ⟨q.1, n, q.2⟩⟩⟩
      · exact ⟨a, _, e, o, h, .inr ⟨ks, rfl, Paired.imp q fun _ _ q => ⟨q.1, n, q.2⟩⟩⟩
  · rintro ⟨a, o, e, no, h, p⟩
    rcases p with ⟨ks, rfl, q⟩ | ⟨ks, rfl, q⟩
    · obtain ⟨n, q⟩ := pairN (F := fun n (p : Key × V) (q : PyData × PyData) => q.1 = keyD p.1 ∧ ShN K O H n p.2 q.2) (fun _ _ _ _ h s => ⟨s.1, ShN.le h s.2⟩) (Paired.imp q fun _ _ ⟨z, n, y⟩ => ⟨n, z, y⟩)
      exact ⟨n + 1, a, e, no, .inl ⟨ks, h, q⟩⟩
    · obtain ⟨n, q⟩ := pairN (F := fun n (p : List Key × V) (q : PyData × PyData) => q.1 = keyT p.1 ∧ ShN K O H n p.2 q.2) (fun _ _ _ _ h s => ⟨s.1, ShN.le h s.2⟩) (Paired.imp q fun _ _ ⟨z, n, y⟩ => ⟨n, z, y⟩)
      exact ⟨n + 1, a, e, no, .inr ⟨ks, h, q⟩⟩

theorem Rd.keep {M : AP} {a : Addr} {u : HO} (k : Keep M H H') (h : Rd H a u) (c : ¬ M a ∨ still u = true) : Rd H' a u := by
  rcases h with h | ⟨o, h⟩
  · exact .inl (k.stay a u h c)
  · exact .inr ⟨o, k.stay a _ h (.inr rfl)⟩
theorem TpAt.keep {M : AP} {a : Addr} {xs : List V} (k : Keep M H H') (h : TpAt K H a xs) : TpAt K H' a xs := k.stay a _ h (.inr rfl)
theorem LsAt.keep {M : AP} {a : Addr} {xs : List V} (k : Keep M H H') (m : ∀ a, M a → O a) (h : LsAt K O H a xs) : LsAt K O H' a xs := ⟨h.1, k.stay a _ h.2 (.inl fun q => h.1 (m a q))⟩
theorem LsAt.weak {a : Addr} {xs : List V} (m : ∀ a, O' a → O a) (h : LsAt K O H a xs) : LsAt K O' H a xs := ⟨fun q => h.1 (m a q), h.2⟩

/-- the heap goes on, O keeps all that is written -/
theorem ShN.keep {M : AP} (k : Keep M H H') (m : ∀ a, M a → O a) : ∀ {n : Nat} {v : V} {d : PyData}, ShN K O H n v d → ShN K O H' n v d
  | 0, _, _, h => h.elim
  | n + 1, v, .none, h => h
  | n + 1, v, .bool _, h => h
  | n + 1, v, .int _, h => h
  | n + 1, v, .str _, h => h
  | n + 1, v, .list ds, ⟨a, xs, e, l, z, p⟩ => ⟨a, xs, e, l.keep k m, z, Paired.imp p fun _ _ q => ShN.keep k m q⟩
  | n + 1, v, .tuple ds, ⟨a, xs, e, l, z, p⟩ => ⟨a, xs, e, l.keep k, z, Paired.imp p fun _ _ q => ShN.keep k m q⟩
  | n + 1, v, .dict kvs, ⟨a, e, o, p⟩ => ⟨a, e, o, p.imp (fun ⟨ks, h, q⟩ => ⟨ks, k.stay a _ h (.inl fun z => o (m a z)), Paired.imp q fun _ _ q => ⟨q.1, ShN.keep k m q.2⟩⟩)
      fun ⟨ks, h, q⟩ => ⟨ks, k.stay a _ h (.inl fun z => o (m a z)), Paired.imp q fun _ _ q => ⟨q.1, ShN.keep k m q.2⟩⟩⟩
theorem Sh.keep {M : AP} (k : Keep M H H') (m : ∀ a, M a → O a) (h : Sh K O H v d) : Sh K O H' v d := h.imp fun _ q => q.keep k m
theorem ShA.keep {M : AP} {vs : List V} {ds : List PyData} (k : Keep M H H') (m : ∀ a, M a → O a) (h : ShA K O H vs ds) : ShA K O H' vs ds := Paired.imp h fun _ _ q => Sh.keep k m q
/-- a smaller O -/
theorem ShN.weak (m : ∀ a, O' a → O a) : ∀ {n : Nat} {v : V} {d : PyData}, ShN K O H n v d → ShN K O' H n v d
  | 0, _, _, h => h.elim
  | n + 1, v, .none, h => h
  | n + 1, v, .bool _, h => h
  | n + 1, v, .int _, h => h
  | n + 1, v, .str _, h => h
  | n + 1, v, .list ds, ⟨a, xs, e, l, z, p⟩ => ⟨a, xs, e, l.weak m, z, Paired.imp p fun _ _ q => ShN.weak m q⟩
  | n + 1, v, .tuple ds, ⟨a, xs, e, l, z, p⟩ => ⟨a, xs, e, l, z, Paired.imp p fun _ _ q => ShN.weak m q⟩
  | n + 1, v, .dict kvs, ⟨a, e, o, p⟩ => ⟨a, e, fun z => o (m a z), p.imp (fun ⟨ks, h, q⟩ => ⟨ks, h, Paired.imp q fun _ _ q => ⟨q.1, ShN.weak m q.2⟩⟩)
      fun ⟨ks, h, q⟩ => ⟨ks, h, Paired.imp q fun _ _ q => ⟨q.1, ShN.weak m q.2⟩⟩⟩
theorem Sh.weak (m : ∀ a, O' a → O a) (h : Sh K O H v d) : Sh K O' H v d := h.imp fun _ q => q.weak m
theorem ShA.weak {vs : List V} {ds : List PyData} (m : ∀ a, O' a → O a) (h : ShA K O H vs ds) : ShA K O' H vs ds := Paired.imp h fun _ _ q => Sh.weak m q
/-- a new address is in no data -/
theorem LsAt.fresh {a : Addr} {xs : List V} {p : AP} (n : ∀ a, p a → H a = none) (h : LsAt K O H a xs) : LsAt K (fun a => O a ∨ p a) H a xs := ⟨fun q => q.elim h.1 (fun q => by
    have z := h.2
    rw [n a q] at z
    exact nomatch z), h.2⟩
theorem ShN.fresh {p : AP} (nn : ∀ a, p a → H a = none) : ∀ {n : Nat} {v : V} {d : PyData}, ShN K O H n v d → ShN K (fun a => O a ∨ p a) H n v d
  | 0, _, _, h => h.elim
  | n + 1, v, .none, h => h
  | n + 1, v, .bool _, h => h
  | n + 1, v, .int _, h => h
  | n + 1, v, .str _, h => h
  | n + 1, v, .list ds, ⟨a, xs, e, l, z, q⟩ => ⟨a, xs, e, l.fresh nn, z, Paired.imp q fun _ _ q => ShN.fresh nn q⟩
  | n + 1, v, .tuple ds, ⟨a, xs, e, l, z, q⟩ => ⟨a, xs, e, l, z, Paired.imp q fun _ _ q => ShN.fresh nn q⟩
  | n + 1, v, .dict kvs, ⟨a, e, o, q⟩ => ⟨a, e, fun z => z.elim o fun z => (by rcases q with ⟨ks, h, _⟩ | ⟨ks, h, _⟩ <;> (rw [nn a z] at h; cases h)), q.imp (fun ⟨ks, h, q⟩ => ⟨ks, h, Paired.imp q fun _ _ q => ⟨q.1, ShN.fresh nn q.2⟩⟩)
      fun ⟨ks, h, q⟩ => ⟨ks, h, Paired.imp q fun _ _ q => ⟨q.1, ShN.fresh nn q.2⟩⟩⟩
theorem Sh.fresh {p : AP} (nn : ∀ a, p a → H a = none) (h : Sh K O H v d) : Sh K (fun a => O a ∨ p a) H v d := h.imp fun _ q => q.fresh nn
theorem ShA.fresh {p : AP} {vs : List V} {ds : List PyData} (nn : ∀ a, p a → H a = none) (h : ShA K O H vs ds) : ShA K (fun a => O a ∨ p a) H vs ds := Paired.imp h fun _ _ q => Sh.fresh nn q
theorem DcIs.keep {M : AP} {o : HO} {kvs : List (PyData × PyData)} (k : Keep M H H') (m : ∀ a, M a → O a) (h : DcIs K O H o kvs) : DcIs K O H' o kvs :=
  h.imp (fun ⟨ks, e, q⟩ => ⟨ks, e, Paired.imp q fun _ _ q => ⟨q.1, q.2.keep k m⟩⟩) fun ⟨ks, e, q⟩ => ⟨ks, e, Paired.imp q fun _ _ q => ⟨q.1, q.2.keep k m⟩⟩
theorem DcIs.weak {o : HO} {kvs : List (PyData × PyData)} (m : ∀ a, O' a → O a) (h : DcIs K O H o kvs) : DcIs K O' H o kvs :=
  h.imp (fun ⟨ks, e, q⟩ => ⟨ks, e, Paired.imp q fun _ _ q => ⟨q.1, q.2.weak m⟩⟩) fun ⟨ks, e, q⟩ => ⟨ks, e, Paired.imp q fun _ _ q => ⟨q.1, q.2.weak m⟩⟩
theorem DcIs.fresh {p : AP} {o : HO} {kvs : List (PyData × PyData)} (nn : ∀ a, p a → H a = none) (h : DcIs K O H o kvs) : DcIs K (fun a => O a ∨ p a) H o kvs :=
  h.imp (fun ⟨ks, e, q⟩ => ⟨ks, e, Paired.imp q fun _ _ q => ⟨q.1, q.2.fresh nn⟩⟩) fun ⟨ks, e, q⟩ => ⟨ks, e, Paired.imp q fun _ _ q => ⟨q.1, q.2.fresh nn⟩⟩
theorem DcIs.still {o : HO} {kvs : List (PyData × PyData)} (h : DcIs K O H o kvs) : still o = false := by rcases h with ⟨ks, rfl, _⟩ | ⟨ks, rfl, _⟩ <;> rfl

/-- the heap goes on, the set may grow by what is new -/
theorem Sh.go {K : PySem.W.Frag} {O O' M : AP} {H H' : Hp} {v : V} {d : PyData} (h : Sh K O H v d) (k : Keep M H H') (m : ∀ a, M a → O a) (n : ∀ a, O' a → O a ∨ H a = none) : Sh K O' H' v d :=
  Sh.weak n (Sh.keep k (fun a z => .inl (m a z)) (Sh.fresh (p := fun a => H a = none) (fun _ z => z) h))
theorem ShA.go {K : PySem.W.Frag} {O O' M : AP} {H H' : Hp} {vs : List V} {ds : List PyData} (h : ShA K O H vs ds) (k : Keep M H H') (m : ∀ a, M a → O a) (n : ∀ a, O' a → O a ∨ H a = none) : ShA K O' H' vs ds :=
  Paired.imp h fun _ _ q => Sh.go q k m n

/- no list and no dict in it: O does not matter -/
mutual
def flat : PyData → Bool
  | .list _ => false
  | .dict _ => false
  | .tuple ds => flatA ds
  | _ => true
def flatA : List PyData → Bool
  | [] => true
  | d :: ds => flat d && flatA ds
end
theorem flatA_mem : ∀ {ds : List PyData}, flatA ds = true → ∀ d ∈ ds, flat d = true
  | [], _, _, h => nomatch h
  | d :: ds, h, e, m => by
    have h' : flat d = true ∧ flatA ds = true := by simpa [flatA] using h
    rcases List.mem_cons.mp m with rfl | m
    · exact h'.1
    · exact flatA_mem h'.2 e m
theorem Paired.imp_mem {α β : Type} {F G : α → β → Prop} {l₁ : List α} {l₂ : List β} (h : Paired F l₁ l₂) : (∀ a b, b ∈ l₂ → F a b → G a b) → Paired G l₁ l₂ := by
  induction h with
  | nil => intro _; exact .nil
  | cons r _ ih => intro f; exact .cons (f _ _ List.mem_cons_self r) (ih fun a b m => f a b (List.mem_cons_of_mem _ m))
theorem ShN.flat : ∀ {n : Nat} {v : V} {d : PyData}, flat d = true → ShN K O H n v d → ShN K O' H n v d
  | 0, _, _, _, h => h.elim
  | n + 1, v, .none, _, h => h
  | n + 1, v, .bool _, _, h => h
  | n + 1, v, .int _, _, h => h
  | n + 1, v, .str _, _, h => h
  | n + 1, v, .list ds, f, _ => by simp [PV.flat] at f
  | n + 1, v, .tuple ds, f, ⟨a, xs, e, l, z, p⟩ => ⟨a, xs, e, l, z, Paired.imp_mem p fun _ b m q => ShN.flat (flatA_mem (by simpa [PV.flat] using f) b m) q⟩
  | n + 1, v, .dict kvs, f, _ => by simp [PV.flat] at f
theorem Sh.flat (f : flat d = true) (h : Sh K O H v d) : Sh K O' H v d := h.imp fun _ q => q.flat f

/- read as data of the layer -/
mutual
def nod : PyData → Bool
  | .dict _ => false
  | .tuple ds => nodA ds
  | .list ds => nodA ds
  | _ => true
def nodA : List PyData → Bool
  | [] => true
  | d :: ds => nod d && nodA ds
end
theorem nodA_mem : ∀ {ds : List PyData}, nodA ds = true → ∀ d ∈ ds, nod d = true
  | [], _, _, h => nomatch h
  | d :: ds, h, e, m => by
    have h' : nod d = true ∧ nodA ds = true := by simpa [nodA] using h
    rcases List.mem_cons.mp m with rfl | m
    · exact h'.1
    · exact nodA_mem h'.2 e m
theorem dpAll_of {xs : List V} {ds : List PyData} (h : Paired (Dp K H) xs ds) : DpAll K H xs ds := by
  induction h with
  | nil => exact .nil
  | cons r _ ih => exact .cons r ih
theorem ShN.dp : ∀ {n : Nat} {v : V} {d : PyData}, nod d = true → ShN K O H n v d → Dp K H v d
  | 0, _, _, _, h => h.elim
  | n + 1, v, .none, _, h => by cases (show v = .non from h); exact .non
  | n + 1, v, .bool b, _, h => by cases (show v = .bl b from h); exact .bl b
  | n + 1, v, .int i, _, h => by cases (show v = .int i from h); exact .int i
  | n + 1, v, .str s, _, h => by cases (show v = .str s from h); exact .str s
  | n + 1, v, .list ds, f, ⟨a, xs, e, l, z, p⟩ => by subst e; exact .lst l.sq (dpAll_of (Paired.imp_mem p fun _ b m q => ShN.dp (nodA_mem (by simpa [nod] using f) b m) q))
  | n + 1, v, .tuple ds, f, ⟨a, xs, e, l, z, p⟩ => by subst e; exact .tup l.sq (dpAll_of (Paired.imp_mem p fun _ b m q => ShN.dp (nodA_mem (by simpa [nod] using f) b m) q))
  | n + 1, v, .dict kvs, f, _ => by simp [nod] at f
theorem Sh.dp (f : nod d = true) (h : Sh K O H v d) : Dp K H v d := let ⟨_, q⟩ := h; q.dp f
end

/-- read at the top, whoever owns it -/
def ShT (K : PySem.W.Frag) (O : AP) (H : Hp) (v : V) : PyData → Prop
  | .list ds => ∃ a xs, v = .ref a ∧ H a = some (.lst xs) ∧ xs.length ≤ sizeLine ∧ ShA K O H xs ds
  | .dict kvs => ∃ a o, v = .ref a ∧ H a = some o ∧ DcIs K O H o kvs
  | d => Sh K O H v d
theorem Sh.top {K : PySem.W.Frag} {O : AP} {H : Hp} {v : V} {d : PyData} (h : Sh K O H v d) : ShT K O H v d := by
  cases d with
  | list ds => obtain ⟨a, xs, e, l, z, p⟩ := sh_list.mp h; exact ⟨a, xs, e, l.2, z, p⟩
  | dict kvs => obtain ⟨a, o, e, _, ho, p⟩ := sh_dict.mp h; exact ⟨a, o, e, ho, p⟩
  | none => exact h
  | bool b => exact h
  | int i => exact h
  | str s => exact h
  | tuple ds => exact h
theorem ShT.dp {K : PySem.W.Frag} {O : AP} {H : Hp} {v : V} {d : PyData} (f : nod d = true) (h : ShT K O H v d) : Dp K H v d := by
  cases d with
  | list ds =>
    obtain ⟨a, xs, rfl, l, z, p⟩ := h
    exact .lst (SqL.of l) (dpAll_of (Paired.imp_mem p fun _ b m q => q.dp (nodA_mem (by simpa [nod] using f) b m)))
  | dict kvs => simp [nod] at f
  | none => exact Sh.dp f h
  | bool b => exact Sh.dp f h
  | int i => exact Sh.dp f h
  | str s => exact Sh.dp f h
  | tuple ds => exact Sh.dp f h
end PV

/-! PV.2: the pure evaluator -/
namespace PV
open PySem

/-- the deck of draws: the cells, the number of draws, the rests -/
structure DS where
  cells : List Int
  cnt : Int
  rests : List Int

inductive R where
  | v (d : PyData) | pl (i : Nat) | fl (ds : List PyData) | fd (t : Bool) (kvs : List (PyData × PyData)) | dk
inductive Slot where
  | un | sh (d : PyData) | ol (ds : List PyData) | od (t : Bool) (kvs : List (PyData × PyData)) | dk
abbrev Env := List Slot
structure M where
  e : Env
  s : DS
inductive Res (α : Type) where
  | ok (a : α) (m : M) | rz (c : Nat) (f : Option PyData) (m : M) | bad
def Res.bind {α β : Type} (r : Res α) (f : α → M → Res β) : Res β := match r with
  | .ok a m => f a m
  | .rz c x m => .rz c x m
  | .bad => .bad
inductive Arg where
  | sh (d : PyData) | dk
inductive FRes where
  | ok (r : R) (s : DS) | rz (c : Nat) (f : Option PyData) (s : DS) | bad

inductive Op where
  | add | sub | mul | fdiv | mod | pow | neg | eq | ne | lt | le | gt | ge | isN | notN | inn | notin
  | idx | sl (lo hi : Bool) | rev | len | tuple | list | lrng | sorted | abs | min2 | max2 | min1 | max1 | sum | any | all | int | str | repr
  | isi (k : Nat) | get | not | idi
inductive MOp where
  | app | pop | popAt | ext | rem | upd | ins | clr
mutual
inductive E where
  | c (d : PyData) | x (i : Nat) | op (o : Op) (es : Es) | call (f : Nat) (es : Es) | tup (es : Es) | lst (es : Es) | emp (t : Bool) | dsp (t : Bool) (k v : E)
  | and2 (a b : E) | or2 (a b : E) | ite (c : T) (a b : E) | chn (o1 o2 : Op) (a b c : E) | mut (m : MOp) (i : Nat) (es : Es)
  | lc (t : Tg) (it : It) (c : T) (elt : E) (own : List Nat) | dc (t : Tg) (it : It) (c : T) (k v : E) (own : List Nat) | ofT (t : T)
inductive Es where
  | nil | cons (e : E) (es : Es)
inductive T where
  | e (e : E) | yes | and (a b : T) | or (a b : T) | not (a : T)
inductive It where
  | e (e : E) | rng (es : Es) | enm (e : E) (k : Int) | zip (es : Es)
inductive Tg where
  | nm (i : Nat) | tp (ts : Tgs)
inductive Tgs where
  | nil | cons (t : Tg) (ts : Tgs)
end
mutual
inductive S where
  | set (t : Tg) (e : E) | par (is : List Nat) (es : Es) | sub (i : Nat) (k e : E) | ex (e : E) | ret (e : E) | retN
  | ite (c : T) (t f : Ss) | lop (t : Tg) (it : It) (b : Ss) | wh (c : T) (b : Ss) | pass | brk | cont | raise (c : Nat) (es : Es)
inductive Ss where
  | nil | cons (s : S) (ss : Ss)
end
inductive Flow where
  | nx | brk | ct | rt (r : R)

def LIM : Nat := 16777216

def deref (e : Env) : R → Option PyData
  | .v d => some d
  | .fl ds => some (.list ds)
  | .fd _ kvs => some (.dict kvs)
  | .pl i => match e[i]? with
    | some (.ol ds) => some (.list ds)
    | some (.od _ kvs) => some (.dict kvs)
    | some (.sh d) => some d
    | _ => none
  | .dk => none
def derefs (e : Env) : List R → Option (List PyData)
  | [] => some []
  | r :: rs => match deref e r, derefs e rs with
    | some d, some ds => some (d :: ds)
    | _, _ => none
/-- as shared data: what was owned is so no more -/
def esc (e : Env) : R → Option (PyData × Env)
  | .v d => some (d, e)
  | .fl ds => some (.list ds, e)
  | .fd _ kvs => some (.dict kvs, e)
  | .pl i => match e[i]? with
    | some (.ol ds) => some (.list ds, e.set i (.sh (.list ds)))
    | some (.od _ kvs) => some (.dict kvs, e.set i (.sh (.dict kvs)))
    | some (.sh d) => some (d, e)
    | _ => none
  | .dk => none
def escs (e : Env) : List R → Option (List PyData × Env)
  | [] => some ([], e)
  | r :: rs => match esc e r with
    | some (d, e1) => match escs e1 rs with
      | some (ds, e2) => some (d :: ds, e2)
      | none => none
    | none => none
def toArgs (e : Env) : List R → Option (List Arg)
  | [] => some []
  | .dk :: rs => (toArgs e rs).map (.dk :: ·)
  | r :: rs => match deref e r, toArgs e rs with
    | some d, some ds => some (.sh d :: ds)
    | _, _ => none
def hasPl : List R → Bool
  | [] => false
  | .pl _ :: _ => true
  | _ :: rs => hasPl rs
def flatR : R → Bool
  | .v d => flat d
  | .fl ds => flatA ds
  | _ => false

def flatO : Option PyData → Bool
  | none => true
  | some d => flat d

/-! values -/
def toKey : PyData → Option L2.Key
  | .int i => some (.inl i)
  | .str s => some (.inr s)
  | _ => none
def toKeys : List PyData → Option (List L2.Key)
  | [] => some []
  | d :: ds => match toKey d, toKeys ds with
    | some k, some ks => some (k :: ks)
    | _, _ => none
def keyOk : Bool → PyData → Bool
  | false, d => (toKey d).isSome
  | true, .tuple ds => (toKeys ds).isSome
  | true, _ => false
noncomputable section
open Classical
def look (kvs : List (PyData × PyData)) (k : PyData) : Option PyData := (kvs.find? fun p => decide (p.1 = k)).map (·.2)
def putD (kvs : List (PyData × PyData)) (k v : PyData) : List (PyData × PyData) :=
  if kvs.any (fun p => decide (p.1 = k)) then kvs.map fun p => if p.1 = k then (k, v) else p else kvs ++ [(k, v)]
end
/-- which kind of keys: all plain, or all tuples -/
def keysK (kvs : List (PyData × PyData)) : Bool := kvs.all fun p => keyOk false p.1
def keysT (kvs : List (PyData × PyData)) : Bool := kvs.all fun p => keyOk true p.1

def lexLe : List Int → List Int → Bool
  | [], _ => true
  | _ :: _, [] => false
  | x :: xs, y :: ys => if x = y then lexLe xs ys else decide (x ≤ y)
def toInts : List PyData → Option (List Int)
  | [] => some []
  | .int i :: ds => (toInts ds).map (i :: ·)
  | _ :: _ => none
def toBls : List PyData → Option (List Bool)
  | [] => some []
  | .bool i :: ds => (toBls ds).map (i :: ·)
  | _ :: _ => none
def truth : PyData → Bool
  | .none => false
  | .bool b => b
  | .int i => i != 0
  | .str s => (s.length : Int) != 0
  | .list ds => !ds.isEmpty
  | .tuple ds => !ds.isEmpty
  | .dict kvs => !kvs.isEmpty
def strFits : PyData → Bool
  | .str s => decide (s.length ≤ LIM)
  | .dict _ => false
  | _ => true
def cutD {α : Type} (xs : List α) (lo hi : Option Int) : List α := (xs.drop (HT.sIx xs.length 0 lo)).take (HT.sIx xs.length xs.length hi - HT.sIx xs.length 0 lo)
/-- the kinds of isinstance: 0 int, 1 bool, 2 str, 3 tuple, 4 list, 5 dict, 6 list or tuple -/
def isKind : Nat → PyData → Bool
  | 0, .int _ => true
  | 0, .bool _ => true
  | 1, .bool _ => true
  | 2, .str _ => true
  | 3, .tuple _ => true
  | 4, .list _ => true
  | 5, .dict _ => true
  | 6, .list _ => true
  | 6, .tuple _ => true
  | _, _ => false
def cmpD (o : Op) (a b : PyData) : Option Bool := match a, b with
  | .int i, .int j => match o with
    | .lt => some (decide (i < j))
    | .le => some (decide (i ≤ j))
    | .gt => some (decide (j < i))
    | .ge => some (decide (j ≤ i))
    | _ => none
  | .tuple xs, .tuple ys => match toInts xs, toInts ys with
    | some ns, some ms => match o with
      | .lt => some (HT.lexLt ns ms)
      | .le => some (lexLe ns ms)
      | .ge => some (lexLe ms ns)
      | _ => none
    | _, _ => none
  | _, _ => none
def pick (xs : List PyData) (i : Int) : Option PyData := L2.atI xs i
noncomputable section
open Classical
/-! the pure operations, one by one -/
def addD : List PyData → Option R
  | [.int i, .int j] => some (.v (.int (i + j)))
  | [.str a, .str b] => if a.length + b.length ≤ LIM then some (.v (.str (a ++ b))) else none
  | [.list a, .list b] => if a.length + b.length ≤ LIM then some (.fl (a ++ b)) else none
  | [.tuple a, .tuple b] => if a.length + b.length ≤ LIM then some (.v (.tuple (a ++ b))) else none
  | _ => none
def subD : List PyData → Option R
  | [.int i, .int j] => some (.v (.int (i - j)))
  | _ => none
def mulD : List PyData → Option R
  | [.int i, .int j] => if (-(2 ^ 64) < i ∧ i < 2 ^ 64) ∨ (-(2 ^ 64) < j ∧ j < 2 ^ 64) then some (.v (.int (i * j))) else none
  | _ => none
def fdivD : List PyData → Option R
  | [.int i, .int j] => if 0 < j ∧ j < 1073741824 then some (.v (.int (i / j))) else none
  | _ => none
def modD : List PyData → Option R
  | [.int i, .int j] => if 0 < j then some (.v (.int (i % j))) else none
  | _ => none
def powD : List PyData → Option R
  | [.int i, .int j] => if 0 ≤ j ∧ j ≤ 1000000 ∧ i.natAbs < 2 ^ 64 then some (.v (.int (i ^ j.toNat))) else none
  | _ => none
def negD : List PyData → Option R
  | [.int i] => some (.v (.int (-i)))
  | _ => none
def eqD : List PyData → Option R
  | [.str a, .str b] => some (.v (.bool (decide (a = b))))
  | [a, b] => if SeqAt.shaped a = true ∧ SeqAt.shaped b = true then some (.v (.bool (PyData.eqv a b))) else none
  | _ => none
def neD : List PyData → Option R
  | [.str a, .str b] => some (.v (.bool (!decide (a = b))))
  | [a, b] => if SeqAt.shaped a = true ∧ SeqAt.shaped b = true then some (.v (.bool (!PyData.eqv a b))) else none
  | _ => none
def cmpR (o : Op) : List PyData → Option R
  | [a, b] => (cmpD o a b).map fun b => .v (.bool b)
  | _ => none
def isND : List PyData → Option R
  | [a] => some (.v (.bool (match a with | .none => true | _ => false)))
  | _ => none
def notND : List PyData → Option R
  | [a] => some (.v (.bool (match a with | .none => false | _ => true)))
  | _ => none
/-- a dict that is not empty shows by its keys which kind it is -/
def dkOk (kvs : List (PyData × PyData)) (k : PyData) : Bool := !kvs.isEmpty && ((keysK kvs && keyOk false k) || (keysT kvs && keyOk true k))
def hasD (a : PyData) : PyData → Option Bool
  | .list ds => if SeqAt.shaped a = true ∧ SeqAt.shaped (.list ds) = true then some (ds.any fun z => PyData.eqv z a) else none
  | .tuple ds => if SeqAt.shaped a = true ∧ SeqAt.shaped (.tuple ds) = true then some (ds.any fun z => PyData.eqv z a) else none
  | .dict kvs => if dkOk kvs a = true then some (look kvs a).isSome else none
  | _ => none
def inD : List PyData → Option R
  | [a, b] => (hasD a b).map fun c => .v (.bool c)
  | _ => none
def notinD : List PyData → Option R
  | [a, b] => (hasD a b).map fun c => .v (.bool (!c))
  | _ => none
def idxD : List PyData → Option R
  | [.list xs, .int i] => (pick xs i).map .v
  | [.tuple xs, .int i] => (pick xs i).map .v
  | [.dict kvs, k] => if dkOk kvs k = true then (look kvs k).map .v else none
  | _ => none
def slD (lo hi : Bool) : List PyData → Option R
  | [.list xs] => if lo = false ∧ hi = false then some (.fl (cutD xs none none)) else none
  | [.tuple xs] => if lo = false ∧ hi = false then some (.v (.tuple (cutD xs none none))) else none
  | [.list xs, .int i] => if lo = true ∧ hi = false then some (.fl (cutD xs (some i) none)) else if lo = false ∧ hi = true then some (.fl (cutD xs none (some i))) else none
  | [.tuple xs, .int i] => if lo = true ∧ hi = false then some (.v (.tuple (cutD xs (some i) none))) else if lo = false ∧ hi = true then some (.v (.tuple (cutD xs none (some i)))) else none
  | [.list xs, .int i, .int j] => if lo = true ∧ hi = true then some (.fl (cutD xs (some i) (some j))) else none
  | [.tuple xs, .int i, .int j] => if lo = true ∧ hi = true then some (.v (.tuple (cutD xs (some i) (some j)))) else none
  | _ => none
def revD : List PyData → Option R
  | [.list xs] => some (.fl xs.reverse)
  | [.tuple xs] => some (.v (.tuple xs.reverse))
  | _ => none
def lenD : List PyData → Option R
  | [.list xs] => some (.v (.int xs.length))
  | [.tuple xs] => some (.v (.int xs.length))
  | [.str s] => if s.length ≤ LIM then some (.v (.int s.length)) else none
  | _ => none
def tupleD : List PyData → Option R
  | [.list xs] => some (.v (.tuple xs))
  | [.tuple xs] => some (.v (.tuple xs))
  | _ => none
def listD : List PyData → Option R
  | [.list xs] => some (.fl xs)
  | [.tuple xs] => some (.fl xs)
  | _ => none
def lrngD : List PyData → Option R
  | [.int n] => if 0 ≤ n ∧ n ≤ 16777216 then some (.fl ((List.range n.toNat).map fun (i : Nat) => .int (0 + (i : Int)))) else none
  | _ => none
def srt (xs : List PyData) : Option R := if PySem.W.AllAlike xs ∧ PySem.W.Sortable xs ∧ (∀ d ∈ xs, nod d = true ∧ d.depth ≤ 20) then some (.fl (xs.mergeSort (PySem.W.dataLe false id))) else none
def sortedD : List PyData → Option R
  | [.list xs] => srt xs
  | [.tuple xs] => srt xs
  | [.dict kvs] => srt (kvs.map (·.1))
  | _ => none
def absD : List PyData → Option R
  | [.int i] => some (.v (.int (if i < 0 then -i else i)))
  | _ => none
def min2D : List PyData → Option R
  | [.int i, .int j] => some (.v (.int (if j < i then j else i)))
  | _ => none
def max2D : List PyData → Option R
  | [.int i, .int j] => some (.v (.int (if j > i then j else i)))
  | _ => none
def min1D : List PyData → Option R
  | [.list xs] => match toInts xs with
    | some (n :: ns) => some (.v (.int (ns.foldl min n)))
    | _ => none
  | _ => none
def max1D : List PyData → Option R
  | [.list xs] => match toInts xs with
    | some (n :: ns) => some (.v (.int (ns.foldl max n)))
    | _ => none
  | _ => none
def sumD : List PyData → Option R
  | [.list xs] => (toInts xs).map fun ns => .v (.int ns.sum)
  | _ => none
def anyD : List PyData → Option R
  | [.list xs] => (toBls xs).map fun bs => .v (.bool (bs.any id))
  | _ => none
def allD : List PyData → Option R
  | [.list xs] => (toBls xs).map fun bs => .v (.bool (bs.all id))
  | _ => none
def intD : List PyData → Option R
  | [.int i] => some (.v (.int i))
  | [.bool b] => some (.v (.int (if b then 1 else 0)))
  | _ => none
def strD : List PyData → Option R
  | [.int i] => if i.natAbs.log2 < 1920 then some (.v (.str (toString i))) else none
  | _ => none
def reprD : List PyData → Option R
  | [d] => if d.showable = true ∧ nod d = true ∧ d.shown.length ≤ LIM ∧ d.depth ≤ 60 then some (.v (.str d.shown)) else none
  | _ => none
def isiD (k : Nat) : List PyData → Option R
  | [d] => some (.v (.bool (isKind k d)))
  | _ => none
def getD1 : List PyData → Option R
  | [.dict kvs, k] => if dkOk kvs k = true then some (.v ((look kvs k).getD .none)) else none
  | _ => none
def notD : List PyData → Option R
  | [.bool b] => some (.v (.bool (!b)))
  | _ => none
def idiD : List PyData → Option R
  | [.int i] => some (.v (.int i))
  | _ => none
def opD : Op → List PyData → Option R
  | .idi => idiD
  | .add => addD | .sub => subD | .mul => mulD | .fdiv => fdivD | .mod => modD | .pow => powD | .neg => negD | .eq => eqD | .ne => neD
  | .lt => cmpR .lt | .le => cmpR .le | .gt => cmpR .gt | .ge => cmpR .ge | .isN => isND | .notN => notND | .inn => inD | .notin => notinD
  | .idx => idxD | .sl lo hi => slD lo hi | .rev => revD | .len => lenD | .tuple => tupleD | .list => listD | .lrng => lrngD | .sorted => sortedD
  | .abs => absD | .min2 => min2D | .max2 => max2D | .min1 => min1D | .max1 => max1D | .sum => sumD | .any => anyD | .all => allD | .int => intD
  | .str => strD | .repr => reprD | .isi k => isiD k | .get => getD1 | .not => notD

/-- a dict of one's own, asked -/
def dictOp (e : Env) : Op → List R → Option R
  | .inn, [.v k, .pl i] => match e[i]? with
    | some (.od t kvs) => if keyOk t k = true then some (.v (.bool (look kvs k).isSome)) else none
    | _ => none
  | .notin, [.v k, .pl i] => match e[i]? with
    | some (.od t kvs) => if keyOk t k = true then some (.v (.bool (!(look kvs k).isSome))) else none
    | _ => none
  | .idx, [.pl i, .v k] => match e[i]? with
    | some (.od t kvs) => if keyOk t k = true then (look kvs k).map .v else none
    | _ => none
  | .get, [.pl i, .v k] => match e[i]? with
    | some (.od t kvs) => if keyOk t k = true then some (.v ((look kvs k).getD .none)) else none
    | _ => none
  | _, _ => none
def opE (e : Env) (o : Op) (rs : List R) : Option R := match dictOp e o rs with
  | some r => some r
  | none => match derefs e rs with
    | some ds => opD o ds
    | none => none

/-- the operations that write slot i's own list or dict -/
def mutD (o : MOp) (i : Nat) (rs : List R) (m : M) : Res R := match o, rs with
  | .app, [r] => match esc m.e r with
    | some (d, e) => match e[i]? with
      | some (.ol ds) => if ds.length < LIM then .ok (.v .none) ⟨e.set i (.ol (ds ++ [d])), m.s⟩ else .bad
      | _ => .bad
    | none => .bad
  | .pop, [] => match m.e[i]? with
    | some (.ol ds) => match ds[ds.length - 1]? with
      | some d => .ok (.v d) ⟨m.e.set i (.ol ds.dropLast), m.s⟩
      | none => .bad
    | _ => .bad
  | .popAt, [.v (.int k)] => match m.e[i]? with
    | some (.ol ds) => match L2.ixN ds.length k with
      | some j => match ds[j]? with
        | some d => .ok (.v d) ⟨m.e.set i (.ol (ds.eraseIdx j)), m.s⟩
        | none => .bad
      | none => .bad
    | _ => .bad
  | .ext, [.fl zs] => match m.e[i]? with
    | some (.ol ds) => if ds.length + zs.length ≤ LIM then .ok (.v .none) ⟨m.e.set i (.ol (ds ++ zs)), m.s⟩ else .bad
    | _ => .bad
  | .ext, [.pl j] => match m.e[i]?, m.e[j]? with
    | some (.ol ds), some (.ol zs) => if i ≠ j ∧ ds.length + zs.length ≤ LIM then .ok (.v .none) ⟨m.e.set i (.ol (ds ++ zs)), m.s⟩ else .bad
    | _, _ => .bad
  | .rem, [.v (.int k)] => match m.e[i]? with
    | some (.ol ds) => match toInts ds with
      | some ns => if k ∈ ns then .ok (.v .none) ⟨m.e.set i (.ol ((ns.erase k).map .int)), m.s⟩ else .bad
      | none => .bad
    | _ => .bad
  | _, _ => .bad
end
def isOwn : Option Slot → Bool
  | some (.ol _) => true
  | some (.od _ _) => true
  | _ => false
def mutOk : MOp → Option Slot → Bool
  | .upd, some (.od _ _) => true
  | .upd, _ => false
  | _, some (.ol _) => true
  | _, _ => false
def clear (e : Env) : List Nat → Env
  | [] => e
  | i :: is => (clear e is).set i .un
/-- the block's own slots as they were ahead -/
def back (e e0 : Env) : List Nat → Env
  | [] => e
  | i :: is => (back e e0 is).set i ((e0[i]?).getD .un)
/-- the source's list stands as it was -/
abbrev Src := Option (Nat × List PyData)
def srcOk (m : M) : Src → Prop
  | none => True
  | some (i, ds) => m.e[i]? = some (.ol ds)
def items (e : Env) : R → Option (List PyData × Src)
  | .v (.list ds) => some (ds, none)
  | .v (.tuple ds) => some (ds, none)
  | .fl ds => some (ds, none)
  | .pl i => match e[i]? with
    | some (.ol ds) => some (ds, some (i, ds))
    | some (.sh (.list ds)) => some (ds, none)
    | _ => none
  | _ => none
def rngD : List R → Option (List PyData)
  | [.v (.int j)] => if -(2 ^ 62) ≤ j ∧ j < 2 ^ 62 then some ((List.range j.toNat).map fun (k : Nat) => .int (0 + (k : Int))) else none
  | [.v (.int i), .v (.int j)] => if -(2 ^ 62) ≤ i ∧ i < 2 ^ 62 ∧ -(2 ^ 62) ≤ j ∧ j < 2 ^ 62 then some ((List.range (j - i).toNat).map fun (k : Nat) => .int (i + (k : Int))) else none
  | _ => none
/- a target takes a value -/
mutual
def bind1 (e : Env) : Tg → PyData → Option Env
  | .nm i, d => some (e.set i (.sh d))
  | .tp ts, .tuple ds => bindL e ts ds
  | .tp _, _ => none
def bindL (e : Env) : Tgs → List PyData → Option Env
  | .nil, [] => some e
  | .cons t ts, d :: ds => match bind1 e t d with
    | some e1 => bindL e1 ts ds
    | none => none
  | _, _ => none
end
section
variable {m : M}
noncomputable section
open Classical
def lcL (src : Src) (own : List Nat) (bd : PyData → M → Res Bool) (el : M → Res R) : List PyData → List PyData → M → Res (List PyData)
  | [], acc, m => if srcOk m src then .ok acc m else .bad
  | d :: ds, acc, m => if srcOk m src then
      match bd d m with
      | .ok true m1 => match el m1 with
        | .ok r m2 => match esc m2.e r with
          | some (x, e3) => lcL src own bd el ds (acc ++ [x]) ⟨clear e3 own, m2.s⟩
          | none => .bad
        | _ => .bad
      | .ok false m1 => lcL src own bd el ds acc ⟨clear m1.e own, m1.s⟩
      | _ => .bad
    else .bad
def dcL (src : Src) (own : List Nat) (bd : PyData → M → Res Bool) (ek ev : M → Res R) (t : Bool) : List PyData → List (PyData × PyData) → M → Res (List (PyData × PyData))
  | [], acc, m => if srcOk m src then .ok acc m else .bad
  | d :: ds, acc, m => if srcOk m src then
      match bd d m with
      | .ok true m1 => match ek m1 with
        | .ok (.v k) m2 => match ev m2 with
          | .ok (.v x) m3 => if keyOk t k = true then dcL src own bd ek ev t ds (putD acc k x) ⟨clear m3.e own, m3.s⟩ else .bad
          | _ => .bad
        | _ => .bad
      | .ok false m1 => dcL src own bd ek ev t ds acc ⟨clear m1.e own, m1.s⟩
      | _ => .bad
    else .bad
def lopL (src : Src) (bd : PyData → M → Res Flow) : List PyData → M → Res Flow
  | [], m => if srcOk m src then .ok .nx m else .bad
  | d :: ds, m => if srcOk m src then
      match bd d m with
      | .ok .nx m1 => lopL src bd ds m1
      | .ok .ct m1 => lopL src bd ds m1
      | .ok .brk m1 => .ok .nx m1
      | .ok (.rt r) m1 => .ok (.rt r) m1
      | .rz c f m1 => .rz c f m1
      | .bad => .bad
    else .bad
end
end
def whL (c : M → Res Bool) (b : M → Res Flow) : Nat → M → Res Flow
  | 0, _ => .bad
  | n + 1, m => match c m with
    | .ok true m1 => match b m1 with
      | .ok .nx m2 => whL c b n m2
      | .ok .ct m2 => whL c b n m2
      | .ok .brk m2 => .ok .nx m2
      | .ok (.rt r) m2 => .ok (.rt r) m2
      | .rz x f m2 => .rz x f m2
      | .bad => .bad
    | .ok false m1 => .ok .nx m1
    | .rz x f m1 => .rz x f m1
    | .bad => .bad
def zipD : List (List PyData) → List PyData
  | [xs, ys] => List.zipWith (fun a b => .tuple [a, b]) xs ys
  | _ => []
def enumD (k : Int) (xs : List PyData) : List PyData := (xs.zipIdx).map fun p => .tuple [.int (k + (p.2 : Int)), p.1]

noncomputable section
variable (cl : Nat → List Arg → DS → FRes)
mutual
def ev : E → M → Res R
  | .c d, m => .ok (.v d) m
  | .x i, m => match m.e[i]? with
    | some (.sh d) => .ok (.v d) m
    | some (.ol _) => .ok (.pl i) m
    | some (.od _ _) => .ok (.pl i) m
    | some .dk => .ok .dk m
    | _ => .bad
  | .op o es, m => match evs es m with
    | .ok rs m1 => match opE m1.e o rs with
      | some r => .ok r m1
      | none => .bad
    | .rz c f m1 => .rz c f m1
    | .bad => .bad
  | .call f es, m => match evs es m with
    | .ok rs m1 => match toArgs m1.e rs with
      | some as => match cl f as m1.s with
        | .ok r s => if hasPl rs = true ∧ flatR r = false then .bad else match r with
          | .pl _ => .bad
          | .dk => .bad
          | r => .ok r ⟨m1.e, s⟩
        | .rz c f s => if hasPl rs = true ∧ flatO f = false then .bad else .rz c f ⟨m1.e, s⟩
        | .bad => .bad
      | none => .bad
    | .rz c f m1 => .rz c f m1
    | .bad => .bad
  | .tup es, m => match evs es m with
    | .ok rs m1 => match escs m1.e rs with
      | some (ds, e) => if ds.length ≤ LIM then .ok (.v (.tuple ds)) ⟨e, m1.s⟩ else .bad
      | none => .bad
    | .rz c f m1 => .rz c f m1
    | .bad => .bad
  | .lst es, m => match evs es m with
    | .ok rs m1 => match escs m1.e rs with
      | some (ds, e) => if ds.length ≤ LIM then .ok (.fl ds) ⟨e, m1.s⟩ else .bad
      | none => .bad
    | .rz c f m1 => .rz c f m1
    | .bad => .bad
  | .emp t, m => .ok (.fd t []) m
  | .dsp t k v, m => match ev k m with
    | .ok (.v dk) m1 => match ev v m1 with
      | .ok (.v dv) m2 => if keyOk t dk = true then .ok (.fd t [(dk, dv)]) m2 else .bad
      | _ => .bad
    | _ => .bad
  | .and2 a b, m => match ev a m with
    | .ok (.v (.bool true)) m1 => ev b m1
    | .ok (.v (.bool false)) m1 => .ok (.v (.bool false)) m1
    | .ok _ _ => .bad
    | .rz c f m1 => .rz c f m1
    | .bad => .bad
  | .or2 a b, m => match ev a m with
    | .ok (.v (.bool true)) m1 => .ok (.v (.bool true)) m1
    | .ok (.v (.bool false)) m1 => ev b m1
    | .ok _ _ => .bad
    | .rz c f m1 => .rz c f m1
    | .bad => .bad
  | .ite c a b, m => match evT c m with
    | .ok true m1 => ev a m1
    | .ok false m1 => ev b m1
    | .rz c f m1 => .rz c f m1
    | .bad => .bad
  | .chn o1 o2 a b c, m => match ev a m with
    | .ok (.v da) m1 => match ev b m1 with
      | .ok (.v db) m2 => match opD o1 [da, db] with
        | some (.v (.bool true)) => match ev c m2 with
          | .ok (.v dc) m3 => match opD o2 [db, dc] with
            | some r => .ok r m3
            | none => .bad
          | .ok _ _ => .bad
          | .rz c f m3 => .rz c f m3
          | .bad => .bad
        | some (.v (.bool false)) => .ok (.v (.bool false)) m2
        | _ => .bad
      | .ok _ _ => .bad
      | .rz c f m2 => .rz c f m2
      | .bad => .bad
    | .ok _ _ => .bad
    | .rz c f m1 => .rz c f m1
    | .bad => .bad
  | .mut o i es, m => if mutOk o m.e[i]? = true then match evs es m with
      | .ok rs m1 => mutD o i rs m1
      | .rz c f m1 => .rz c f m1
      | .bad => .bad
    else .bad
  | .lc t it c elt own, m => match evI it m with
      | .ok (ds, src) m1 => if own.all (fun i => !isOwn m1.e[i]?) = true ∧ ds.length ≤ LIM then match lcL src own (fun d m => match bind1 m.e t d with
            | some e => evT c ⟨e, m.s⟩
            | none => .bad) (fun m => ev elt m) ds [] ⟨clear m1.e own, m1.s⟩ with
        | .ok acc m2 => .ok (.fl acc) ⟨back m2.e m1.e own, m2.s⟩
        | _ => .bad
        else .bad
      | .rz c f m1 => .rz c f m1
      | .bad => .bad
  | .dc t it c k v own, m => match evI it m with
      | .ok (ds, src) m1 => if own.all (fun i => !isOwn m1.e[i]?) = true ∧ ds.length ≤ LIM then match dcL src own (fun d m => match bind1 m.e t d with
            | some e => evT c ⟨e, m.s⟩
            | none => .bad) (fun m => ev k m) (fun m => ev v m) false ds [] ⟨clear m1.e own, m1.s⟩ with
        | .ok acc m2 => .ok (.fd false acc) ⟨back m2.e m1.e own, m2.s⟩
        | _ => .bad
        else .bad
      | .rz c f m1 => .rz c f m1
      | .bad => .bad
  | .ofT t, m => match evT t m with
    | .ok b m1 => .ok (.v (.bool b)) m1
    | .rz c f m1 => .rz c f m1
    | .bad => .bad
def evs : Es → M → Res (List R)
  | .nil, m => .ok [] m
  | .cons e es, m => match ev e m with
    | .ok r m1 => match evs es m1 with
      | .ok rs m2 => .ok (r :: rs) m2
      | .rz c f m2 => .rz c f m2
      | .bad => .bad
    | .rz c f m1 => .rz c f m1
    | .bad => .bad
def evT : T → M → Res Bool
  | .yes, m => .ok true m
  | .e e, m => match ev e m with
    | .ok r m1 => match deref m1.e r with
      | some d => if strFits d = true then .ok (truth d) m1 else .bad
      | none => .bad
    | .rz c f m1 => .rz c f m1
    | .bad => .bad
  | .and a b, m => match evT a m with
    | .ok true m1 => evT b m1
    | .ok false m1 => .ok false m1
    | .rz c f m1 => .rz c f m1
    | .bad => .bad
  | .or a b, m => match evT a m with
    | .ok true m1 => .ok true m1
    | .ok false m1 => evT b m1
    | .rz c f m1 => .rz c f m1
    | .bad => .bad
  | .not a, m => match evT a m with
    | .ok b m1 => .ok (!b) m1
    | .rz c f m1 => .rz c f m1
    | .bad => .bad
def evI : It → M → Res (List PyData × Src)
  | .e e, m => match ev e m with
    | .ok r m1 => match items m1.e r with
      | some p => .ok p m1
      | none => .bad
    | .rz c f m1 => .rz c f m1
    | .bad => .bad
  | .rng es, m => match evs es m with
    | .ok rs m1 => match rngD rs with
      | some ds => .ok (ds, none) m1
      | none => .bad
    | .rz c f m1 => .rz c f m1
    | .bad => .bad
  | .enm e k, m => match ev e m with
    | .ok r m1 => match items m1.e r with
      | some (ds, src) => .ok (enumD k ds, src) m1
      | none => .bad
    | .rz c f m1 => .rz c f m1
    | .bad => .bad
  | .zip es, m => match evs es m with
    | .ok [.v (.tuple xs), .v (.tuple ys)] m1 => .ok (zipD [xs, ys], none) m1
    | .ok [.v (.list xs), .v (.list ys)] m1 => .ok (zipD [xs, ys], none) m1
    | .ok [.fl xs, .fl ys] m1 => .ok (zipD [xs, ys], none) m1
    | .ok [.v (.list xs), .fl ys] m1 => .ok (zipD [xs, ys], none) m1
    | .ok [.fl xs, .v (.list ys)] m1 => .ok (zipD [xs, ys], none) m1
    | .ok _ _ => .bad
    | .rz c f m1 => .rz c f m1
    | .bad => .bad
end
/-- slot i takes what an expression gave -/
def setR (i : Nat) (r : R) (e : Env) : Option Env := match r with
  | .fl ds => some (e.set i (.ol ds))
  | .fd t kvs => some (e.set i (.od t kvs))
  | .dk => some (e.set i .dk)
  | r => match esc e r with
    | some (d, e1) => some (e1.set i (.sh d))
    | none => none
/- which slots a statement writes -/
mutual
def asgT : Tg → Nat → Bool
  | .nm i, j => i == j
  | .tp ts, j => asgTs ts j
def asgTs : Tgs → Nat → Bool
  | .nil, _ => false
  | .cons t ts, j => asgT t j || asgTs ts j
end
mutual
def asgS : S → Nat → Bool
  | .set t _, j => asgT t j
  | .par is _, j => is.contains j
  | .ite _ t f, j => asgSs t j || asgSs f j
  | .lop t _ b, j => asgT t j || asgSs b j
  | .wh _ b, j => asgSs b j
  | _, _ => false
def asgSs : Ss → Nat → Bool
  | .nil, _ => false
  | .cons s ss, j => asgS s j || asgSs ss j
end
def srcFree (A : Nat → Bool) : Src → Bool
  | none => true
  | some (i, _) => !A i
def setRs : List Nat → List R → Env → Option Env
  | [], [], e => some e
  | i :: is, r :: rs, e => match setR i r e with
    | some e1 => setRs is rs e1
    | none => none
  | _, _, _ => none
def noPl : List R → Bool
  | [] => true
  | .pl _ :: _ => false
  | _ :: rs => noPl rs
mutual
def ex : S → M → Res Flow
  | .set (.nm i) e, m => match ev cl e m with
    | .ok r m1 => match setR i r m1.e with
      | some e => .ok .nx ⟨e, m1.s⟩
      | none => .bad
    | .rz c f m1 => .rz c f m1
    | .bad => .bad
  | .set t e, m => match ev cl e m with
    | .ok r m1 => match esc m1.e r with
      | some (d, e1) => match bind1 e1 t d with
        | some e => .ok .nx ⟨e, m1.s⟩
        | none => .bad
      | none => .bad
    | .rz c f m1 => .rz c f m1
    | .bad => .bad
  | .par is es, m => match evs cl es m with
    | .ok rs m1 => if noPl rs = true then match setRs is rs m1.e with
        | some e => .ok .nx ⟨e, m1.s⟩
        | none => .bad
      else .bad
    | .rz c f m1 => .rz c f m1
    | .bad => .bad
  | .sub i k e, m => match ev cl e m with
    | .ok r m1 => match esc m1.e r with
      | some (d, e1) => if isOwn e1[i]? = true then match ev cl k ⟨e1, m1.s⟩ with
          | .ok (.v dk) m2 => match m2.e[i]?, dk with
            | some (.ol ds), .int j => match L2.ixN ds.length j with
              | some n => .ok .nx ⟨m2.e.set i (.ol (ds.set n d)), m2.s⟩
              | none => .bad
            | some (.od t kvs), k => if keyOk t k = true ∧ kvs.length < LIM then .ok .nx ⟨m2.e.set i (.od t (putD kvs k d)), m2.s⟩ else .bad
            | _, _ => .bad
          | .ok _ _ => .bad
          | .rz c f m2 => .rz c f m2
          | .bad => .bad
        else .bad
      | none => .bad
    | .rz c f m1 => .rz c f m1
    | .bad => .bad
  | .ex e, m => match ev cl e m with
    | .ok _ m1 => .ok .nx m1
    | .rz c f m1 => .rz c f m1
    | .bad => .bad
  | .ret e, m => match ev cl e m with
    | .ok r m1 => .ok (.rt r) m1
    | .rz c f m1 => .rz c f m1
    | .bad => .bad
  | .retN, m => .ok (.rt (.v .none)) m
  | .ite c t f, m => match evT cl c m with
    | .ok true m1 => exs t m1
    | .ok false m1 => exs f m1
    | .rz c f m1 => .rz c f m1
    | .bad => .bad
  | .lop t it b, m => match evI cl it m with
    | .ok (ds, src) m1 => if srcFree (fun j => asgT t j || asgSs b j) src = true then lopL src (fun d m => match bind1 m.e t d with
        | some e => exs b ⟨e, m.s⟩
        | none => .bad) ds m1 else .bad
    | .rz c f m1 => .rz c f m1
    | .bad => .bad
  | .wh c b, m => whL (fun m => evT cl c m) (fun m => exs b m) 100000 m
  | .pass, m => .ok .nx m
  | .brk, m => .ok .brk m
  | .cont, m => .ok .ct m
  | .raise _ _, _ => .bad
def exs : Ss → M → Res Flow
  | .nil, m => .ok .nx m
  | .cons s ss, m => match ex s m with
    | .ok .nx m1 => exs ss m1
    | r => r
end
end
/-- a def: its slots, its parameters, its body -/
structure FD where
  ns : Nat
  np : Nat
  body : Ss
def slotA : Arg → Slot
  | .sh d => .sh d
  | .dk => .dk
def finR (r : R) (m : M) : FRes := match r with
  | .pl i => match m.e[i]? with
    | some (.ol ds) => .ok (.fl ds) m.s
    | some (.od t kvs) => .ok (.fd t kvs) m.s
    | some (.sh d) => .ok (.v d) m.s
    | _ => .bad
  | .dk => .bad
  | r => .ok r m.s
noncomputable def runB (cl : Nat → List Arg → DS → FRes) (fd : FD) (as : List Arg) (s : DS) : FRes :=
  if as.length = fd.np then match exs cl fd.body ⟨as.map slotA ++ List.replicate (fd.ns - fd.np) .un, s⟩ with
    | .ok .nx m => .ok (.v .none) m.s
    | .ok (.rt r) m => finR r m
    | .ok _ _ => .bad
    | .rz c f m => .rz c f m.s
    | .bad => .bad
  else .bad
inductive FSem where
  | prim (g : List Arg → DS → FRes) | df (fd : FD)
noncomputable def run (tb : Nat → Option FSem) : Nat → Nat → List Arg → DS → FRes
  | 0, _, _, _ => .bad
  | n + 1, f, as, s => match tb f with
    | some (.prim g) => g as s
    | some (.df fd) => runB (run tb n) fd as s
    | none => .bad
end PV

/-! PV.3: slots, owned lists and dicts, the deck, against the abstract heap -/
namespace PV
open PySem PySem.Spec L2

abbrev Gd := Addr × Addr × Addr
def DkS (g : Gd) : AP := fun a => a = g.1 ∨ a = g.2.1 ∨ a = g.2.2
structure DkRep (g : Gd) (s : DS) (H : Hp) : Prop where
  cells : H g.2.1 = some (.lst (s.cells.map V.int))
  ne : g.1 ≠ g.2.1
  top : (g.2.2 = g.1 ∧ H g.1 = some (.lst [.ref g.2.1, .int s.cnt])) ∨ (g.2.2 ≠ g.1 ∧ g.2.2 ≠ g.2.1 ∧ H g.1 = some (.lst [.ref g.2.1, .int s.cnt, .ref g.2.2]) ∧ H g.2.2 = some (.lst (s.rests.map V.int)))
theorem DkRep.keep {g : Gd} {s : DS} {H H' : Hp} {M : AP} (h : DkRep g s H) (k : Keep M H H') (m : ∀ a, M a → ¬ DkS g a) : DkRep g s H' := by
  have n : ∀ a, DkS g a → ¬ M a := fun a d z => m a z d
  refine ⟨k.stay _ _ h.cells (.inl (n _ (.inr (.inl rfl)))), h.ne, ?_⟩
  rcases h.top with ⟨e, t⟩ | ⟨e1, e2, t1, t2⟩
  · exact .inl ⟨e, k.stay _ _ t (.inl (n _ (.inl rfl)))⟩
  · exact .inr ⟨e1, e2, k.stay _ _ t1 (.inl (n _ (.inl rfl))), k.stay _ _ t2 (.inl (n _ (.inr (.inr rfl))))⟩

def own (e : Env) (σ : St) : AP := fun a => ∃ i : Nat, isOwn e[i]? = true ∧ σ[i]? = some (some (.ref a))
def Ow (O : AP) (e : Env) (σ : St) : AP := fun a => O a ∨ own e σ a
def plus (O : AP) (F : List Addr) : AP := fun a => O a ∨ a ∈ F
def Mu (g : Gd) (e : Env) (σ : St) : AP := fun a => own e σ a ∨ DkS g a
def DcT (K : PySem.W.Frag) (O : AP) (H : Hp) : Bool → HO → List (PyData × PyData) → Prop
  | false, o, kvs => ∃ ks, o = .dK ks ∧ Paired (fun p q => q.1 = keyD p.1 ∧ Sh K O H p.2 q.2) ks kvs
  | true, o, kvs => ∃ ks, o = .dT ks ∧ Paired (fun p q => q.1 = keyT p.1 ∧ Sh K O H p.2 q.2) ks kvs
theorem DcT.is {K : PySem.W.Frag} {O : AP} {H : Hp} {t : Bool} {o : HO} {kvs : List (PyData × PyData)} (h : DcT K O H t o kvs) : DcIs K O H o kvs := by
  cases t with
  | false => exact .inl h
  | true => exact .inr h
theorem DcT.go {K : PySem.W.Frag} {O O' M : AP} {H H' : Hp} {t : Bool} {o : HO} {kvs : List (PyData × PyData)} (h : DcT K O H t o kvs) (k : Keep M H H') (m : ∀ a, M a → O a) (n : ∀ a, O' a → O a ∨ H a = none) : DcT K O' H' t o kvs := by
  cases t with
  | false => obtain ⟨ks, e, q⟩ := h; exact ⟨ks, e, Paired.imp q fun _ _ q => ⟨q.1, q.2.go k m n⟩⟩
  | true => obtain ⟨ks, e, q⟩ := h; exact ⟨ks, e, Paired.imp q fun _ _ q => ⟨q.1, q.2.go k m n⟩⟩
theorem DcT.weak {K : PySem.W.Frag} {O O' : AP} {H : Hp} {t : Bool} {o : HO} {kvs : List (PyData × PyData)} (h : DcT K O H t o kvs) (n : ∀ a, O' a → O a) : DcT K O' H t o kvs :=
  h.go (M := fun _ => False) Keep.refl (fun _ z => z.elim) fun a z => .inl (n a z)

def SlotR (K : PySem.W.Frag) (g : Gd) (O0 O : AP) (σ : St) (H : Hp) (i : Nat) : Slot → Prop
  | .un => True
  | .sh d => ∃ v, σ[i]? = some (some v) ∧ Sh K O H v d
  | .ol ds => ∃ p xs, σ[i]? = some (some (.ref p)) ∧ ¬ O0 p ∧ H p = some (.lst xs) ∧ xs.length ≤ sizeLine ∧ ShA K O H xs ds
  | .od t kvs => ∃ p o, σ[i]? = some (some (.ref p)) ∧ ¬ O0 p ∧ H p = some o ∧ DcT K O H t o kvs
  | .dk => σ[i]? = some (some (.ref g.1))
structure Rep (K : PySem.W.Frag) (g : Gd) (O0 : AP) (e : Env) (σ : St) (H : Hp) : Prop where
  len : e.length = σ.length
  at' : ∀ (i : Nat) s, e[i]? = some s → SlotR K g O0 (Ow O0 e σ) σ H i s
  inj : ∀ (i j : Nat) a, isOwn e[i]? = true → isOwn e[j]? = true → σ[i]? = some (some (.ref a)) → σ[j]? = some (some (.ref a)) → i = j

section
variable {K : PySem.W.Frag} {g : Gd} {O0 O0' M : AP} {e e' : Env} {σ σ' : St} {H H' : Hp}

theorem isOwn_cases {s : Option Slot} (h : isOwn s = true) : (∃ ds, s = some (.ol ds)) ∨ ∃ t kvs, s = some (.od t kvs) := by
  cases s with
  | none => simp [isOwn] at h
  | some s => cases s with
    | ol ds => exact .inl ⟨ds, rfl⟩
    | od t kvs => exact .inr ⟨t, kvs, rfl⟩
    | un => simp [isOwn] at h
    | sh d => simp [isOwn] at h
    | dk => simp [isOwn] at h
/-- an owned object: it stands, it is no still one, and O0 has it not -/
theorem Rep.owned (r : Rep K g O0 e σ H) {a : Addr} (h : own e σ a) : ¬ O0 a ∧ ∃ o, H a = some o ∧ still o = false := by
  obtain ⟨i, h1, h2⟩ := h
  rcases isOwn_cases h1 with ⟨ds, e1⟩ | ⟨t, kvs, e1⟩
  · obtain ⟨p, xs, q, n, hp, _⟩ := r.at' i _ e1
    rw [h2] at q; cases q
    exact ⟨n, _, hp, rfl⟩
  · obtain ⟨p, o, q, n, hp, d⟩ := r.at' i _ e1
    rw [h2] at q; cases q
    exact ⟨n, _, hp, d.is.still⟩
theorem SlotR.go {O O' : AP} {i : Nat} {s : Slot} (h : SlotR K g O0 O σ H i s) (k : Keep M H H') (m : ∀ a, M a → O0 a) (mo : ∀ a, O0 a → O a) (n0 : ∀ a, O0' a → O0 a ∨ H a = none) (n : ∀ a, O' a → O a ∨ H a = none) : SlotR K g O0' O' σ H' i s := by
  cases s with
  | un => trivial
  | sh d => obtain ⟨v, q, z⟩ := h; exact ⟨v, q, z.go k (fun a z => mo a (m a z)) n⟩
  | ol ds =>
    obtain ⟨p, xs, q, c, hp, z, s⟩ := h
    exact ⟨p, xs, q, fun z => (n0 p z).elim c fun z => by (rw [hp] at z; cases z), k.stay p _ hp (.inl fun z => c (m p z)), z, s.go k (fun a z => mo a (m a z)) n⟩
  | od t kvs =>
    obtain ⟨p, o, q, c, hp, s⟩ := h
    exact ⟨p, o, q, fun z => (n0 p z).elim c fun z => by (rw [hp] at z; cases z), k.stay p _ hp (.inl fun z => c (m p z)), s.go k (fun a z => mo a (m a z)) n⟩
  | dk => exact h
/-- the heap goes on, nothing owned is written -/
theorem Rep.go (r : Rep K g O0 e σ H) (k : Keep M H H') (m : ∀ a, M a → O0 a) (n : ∀ a, O0' a → O0 a ∨ H a = none) : Rep K g O0' e σ H' :=
  ⟨r.len, fun i s h => (r.at' i s h).go k m (fun _ z => .inl z) n fun a z => z.elim (fun z => (n a z).imp .inl id) fun z => .inl (.inr z), r.inj⟩
theorem Rep.weak (r : Rep K g O0 e σ H) (n : ∀ a, O0' a → O0 a) : Rep K g O0' e σ H := r.go (M := fun _ => False) Keep.refl (fun _ z => z.elim) fun a z => .inl (n a z)

theorem get_set {α : Type} {l : List α} {i j : Nat} {a b : α} (h : (l.set i a)[j]? = some b) : (j = i ∧ b = a ∧ i < l.length) ∨ (j ≠ i ∧ l[j]? = some b) := by
  by_cases z : i = j
  · subst z
    rw [List.getElem?_set] at h
    split at h
    · split at h
      · exact .inl ⟨rfl, (Option.some.inj h).symm, by assumption⟩
      · cases h
    · exact absurd rfl ‹¬ _›
  · rw [List.getElem?_set_ne z] at h
    exact .inr ⟨fun q => z q.symm, h⟩
theorem isOwn_set {i j : Nat} {s : Slot} (h : isOwn (e.set i s)[j]? = true) : (j = i ∧ isOwn (some s) = true) ∨ (j ≠ i ∧ isOwn e[j]? = true) := by
  cases q : (e.set i s)[j]? with
  | none => rw [q] at h; simp [isOwn] at h
  | some u =>
    rw [q] at h
    rcases get_set q with ⟨z, y, _⟩ | ⟨z, y⟩
    · subst y; exact .inl ⟨z, h⟩
    · exact .inr ⟨z, by rw [y]; exact h⟩
/-- a slot that owns nothing is written -/
theorem own_set {i : Nat} {s : Slot} (ns : isOwn (some s) = false) {x : Option V} {a : Addr} (h : own (e.set i s) (σ.set i x) a) : own e σ a := by
  obtain ⟨j, h1, h2⟩ := h
  rcases isOwn_set h1 with ⟨z, y⟩ | ⟨z, y⟩
  · rw [ns] at y; cases y
  · rcases get_set h2 with ⟨q, _, _⟩ | ⟨_, q⟩
    · exact absurd q z
    · exact ⟨j, y, q⟩
theorem own_set' {i : Nat} {s : Slot} (ns : isOwn (some s) = false) {a : Addr} (h : own (e.set i s) σ a) : own e σ a := by
  obtain ⟨j, h1, h2⟩ := h
  rcases isOwn_set h1 with ⟨z, y⟩ | ⟨z, y⟩
  · rw [ns] at y; cases y
  · exact ⟨j, y, h2⟩
theorem SlotR.weak {O O' : AP} {i : Nat} {s : Slot} (h : SlotR K g O0 O σ H i s) (n : ∀ a, O' a → O a) (mo : ∀ a, O0 a → O a) : SlotR K g O0 O' σ H i s := h.go (M := fun _ => False) Keep.refl (fun _ z => z.elim) mo (fun _ z => .inl z) fun a z => .inl (n a z)
theorem SlotR.other {O : AP} {i j : Nat} {s : Slot} {x : Option V} (h : SlotR K g O0 O σ H j s) (n : j ≠ i) : SlotR K g O0 O (σ.set i x) H j s := by
  have q : (σ.set i x)[j]? = σ[j]? := List.getElem?_set_ne (Ne.symm n)
  cases s with
  | un => trivial
  | sh d => obtain ⟨v, h1, h2⟩ := h; exact ⟨v, by rw [q]; exact h1, h2⟩
  | ol ds => obtain ⟨p, xs, h1, h2⟩ := h; exact ⟨p, xs, by rw [q]; exact h1, h2⟩
  | od t kvs => obtain ⟨p, xs, h1, h2⟩ := h; exact ⟨p, xs, by rw [q]; exact h1, h2⟩
  | dk => show (σ.set i x)[j]? = _; rw [q]; exact h
/-- slot i takes a value that owns nothing -/
theorem Rep.setN (r : Rep K g O0 e σ H) {i : Nat} {s : Slot} {x : Option V} (ns : isOwn (some s) = false) (hs : i < e.length → SlotR K g O0 (Ow O0 e σ) (σ.set i x) H i s) : Rep K g O0 (e.set i s) (σ.set i x) H := by
  have ow : ∀ a, Ow O0 (e.set i s) (σ.set i x) a → Ow O0 e σ a := fun a z => z.imp id fun z => own_set ns z
  refine ⟨by simp [r.len], fun j u h => ?_, fun j k a h1 h2 h3 h4 => ?_⟩
  · rcases get_set h with ⟨rfl, rfl, l⟩ | ⟨z, y⟩
    · exact (hs l).weak ow fun _ z => .inl z
    · exact ((r.at' j u y).other z).weak ow fun _ z => .inl z
  · rcases isOwn_set h1 with ⟨z, y⟩ | ⟨z, y⟩
    · rw [ns] at y; cases y
    · rcases isOwn_set h2 with ⟨z', y'⟩ | ⟨z', y'⟩
      · rw [ns] at y'; cases y'
      · rcases get_set h3 with ⟨q, _⟩ | ⟨_, q⟩
        · exact absurd q z
        · rcases get_set h4 with ⟨q', _⟩ | ⟨_, q'⟩
          · exact absurd q' z'
          · exact r.inj j k a y y' q q'
theorem set_same {α : Type} : ∀ {l : List α} {i : Nat} {a : α}, l[i]? = some a → l.set i a = l
  | [], _, _, h => by simp at h
  | x :: l, 0, a, h => by simp at h; subst h; rfl
  | x :: l, i + 1, a, h => by
    show x :: l.set i a = x :: l
    rw [set_same (by simpa using h)]
theorem Rep.setSh (r : Rep K g O0 e σ H) {i : Nat} {v : V} {d : PyData} (h : Sh K (Ow O0 e σ) H v d) : Rep K g O0 (e.set i (.sh d)) (σ.set i (some v)) H :=
  r.setN rfl fun l => ⟨v, by rw [List.getElem?_set_self (by rw [← r.len]; exact l)], h⟩
theorem Rep.setUn (r : Rep K g O0 e σ H) {i : Nat} {x : Option V} : Rep K g O0 (e.set i .un) (σ.set i x) H := r.setN rfl fun _ => trivial
theorem Rep.setDk (r : Rep K g O0 e σ H) {i : Nat} : Rep K g O0 (e.set i .dk) (σ.set i (some (.ref g.1))) H := r.setN rfl fun l => by
  show (σ.set i (some (V.ref g.1)))[i]? = _
  rw [List.getElem?_set_self (by rw [← r.len]; exact l)]
/-- the env forgets slot i, the frame does not -/
theorem Rep.drop (r : Rep K g O0 e σ H) {i : Nat} : Rep K g O0 (e.set i .un) σ H := by
  have ow : ∀ a, Ow O0 (e.set i .un) σ a → Ow O0 e σ a := fun a z => z.imp id fun z => own_set' rfl z
  refine ⟨by simp [r.len], fun j u h => ?_, fun j k a h1 h2 h3 h4 => ?_⟩
  · rcases get_set h with ⟨rfl, rfl, l⟩ | ⟨z, y⟩
    · trivial
    · exact (r.at' j u y).weak ow fun _ z => .inl z
  · rcases isOwn_set h1 with ⟨z, y⟩ | ⟨z, y⟩
    · simp [isOwn] at y
    · rcases isOwn_set h2 with ⟨z', y'⟩ | ⟨z', y'⟩
      · simp [isOwn] at y'
      · exact r.inj j k a y y' h3 h4
/-- slot i takes a new list or dict of its own, at p -/
theorem Rep.setOwn {p : Addr} (r : Rep K g (plus O0 [p]) e σ H) (n0 : ¬ O0 p) (no : ¬ own e σ p) {i : Nat} {s : Slot}
    (hs : i < e.length → SlotR K g O0 (Ow (plus O0 [p]) e σ) (σ.set i (some (.ref p))) H i s) : Rep K g O0 (e.set i s) (σ.set i (some (.ref p))) H := by
  have ow' : ∀ a, own (e.set i s) (σ.set i (some (.ref p))) a → a = p ∨ own e σ a := fun a ⟨j, h1, h2⟩ => by
    rcases isOwn_set h1 with ⟨z, y⟩ | ⟨z, y⟩
    · rcases get_set h2 with ⟨_, q, _⟩ | ⟨q, _⟩
      · cases q; exact .inl rfl
      · exact absurd z q
    · rcases get_set h2 with ⟨q, _, _⟩ | ⟨_, q⟩
      · exact absurd q z
      · exact .inr ⟨j, y, q⟩
  have ow : ∀ a, Ow O0 (e.set i s) (σ.set i (some (.ref p))) a → Ow (plus O0 [p]) e σ a := fun a z => by
    rcases z with z | z
    · exact .inl (.inl z)
    · rcases ow' a z with z | z
      · exact .inl (.inr (by simp [z]))
      · exact .inr z
  refine ⟨by simp [r.len], fun j u h => ?_, fun j k a h1 h2 h3 h4 => ?_⟩
  · rcases get_set h with ⟨rfl, rfl, l⟩ | ⟨z, y⟩
    · exact (hs l).weak ow fun a z => .inl (.inl z)
    · exact (((r.at' j u y).go (M := fun _ => False) (O0' := O0) (O' := Ow (plus O0 [p]) e σ) Keep.refl (fun _ z => z.elim) (fun _ z => .inl z) (fun a z => .inl (.inl z)) fun a z => .inl z).other z).weak ow fun a z => .inl (.inl z)
  · have at_i : ∀ j, isOwn (e.set i s)[j]? = true → (σ.set i (some (.ref p)))[j]? = some (some (.ref a)) → (j = i ∧ a = p) ∨ (j ≠ i ∧ isOwn e[j]? = true ∧ σ[j]? = some (some (.ref a))) := fun j h1 h2 => by
      rcases isOwn_set h1 with ⟨z, y⟩ | ⟨z, y⟩
      · rcases get_set h2 with ⟨_, q, _⟩ | ⟨q, _⟩
        · cases q; exact .inl ⟨z, rfl⟩
        · exact absurd z q
      · rcases get_set h2 with ⟨q, _, _⟩ | ⟨_, q⟩
        · exact absurd q z
        · exact .inr ⟨z, y, q⟩
    rcases at_i j h1 h3 with ⟨z, y⟩ | ⟨z, y, q⟩
    · rcases at_i k h2 h4 with ⟨z', _⟩ | ⟨_, y', q'⟩
      · rw [z, z']
      · exact absurd ⟨k, y', by rw [q', y]⟩ no
    · rcases at_i k h2 h4 with ⟨_, y'⟩ | ⟨_, y', q'⟩
      · exact absurd ⟨j, y, by rw [q, y']⟩ no
      · exact r.inj j k a y y' q q'
theorem own_eq {i : Nat} {s u : Slot} (h : e[i]? = some u) (c : isOwn (some s) = isOwn (some u)) {a : Addr} : own (e.set i s) σ a ↔ own e σ a := by
  have l : i < e.length := (List.getElem?_eq_some_iff.mp h).1
  constructor
  · rintro ⟨j, h1, h2⟩
    rcases isOwn_set h1 with ⟨z, y⟩ | ⟨z, y⟩
    · exact ⟨j, by rw [z, h, ← c]; exact y, h2⟩
    · exact ⟨j, y, h2⟩
  · rintro ⟨j, h1, h2⟩
    refine ⟨j, ?_, h2⟩
    by_cases z : j = i
    · subst z
      rw [List.getElem?_set_self l, c, ← h]; exact h1
    · rw [List.getElem?_set_ne (Ne.symm z)]; exact h1
/-- what slot i owns, at p, is written: before, the new content must be readable -/
theorem Rep.write (r : Rep K g O0 e σ H) {i : Nat} {s u : Slot} {p : Addr} {o : HO} (hi : e[i]? = some u) (hu : isOwn (some u) = true) (hs : isOwn (some s) = true) (hp : σ[i]? = some (some (.ref p)))
    (new : Keep (own e σ) H (upd H p o) → SlotR K g O0 (Ow O0 e σ) σ (upd H p o) i s) : Rep K g O0 (e.set i s) σ (upd H p o) := by
  have oi : own e σ p := ⟨i, by rw [hi]; exact hu, hp⟩
  obtain ⟨n0, o', ho, st⟩ := r.owned oi
  have k : Keep (own e σ) H (upd H p o) := Keep.write ho st oi
  have ow : ∀ a, own (e.set i s) σ a ↔ own e σ a := fun a => own_eq hi (by rw [hs, hu])
  refine ⟨by simp [r.len], fun j w h => ?_, fun j l a h1 h2 h3 h4 => ?_⟩
  · have wk : ∀ a, Ow O0 (e.set i s) σ a → Ow O0 e σ a := fun a z => z.imp id (ow a).mp
    rcases get_set h with ⟨rfl, rfl, l⟩ | ⟨z, y⟩
    · exact (new k).weak wk fun _ z => .inl z
    · refine SlotR.weak (O := Ow O0 e σ) ?_ wk fun _ z => .inl z
      have q := r.at' j w y
      cases w with
      | un => trivial
      | sh d => obtain ⟨v, h1, h2⟩ := q; exact ⟨v, h1, h2.go k (fun _ z => .inr z) fun _ z => .inl z⟩
      | ol ds =>
        obtain ⟨p2, xs, h1, h2, h3, h4, h5⟩ := q
        have ne : p2 ≠ p := fun z' => z (r.inj j i p (by rw [y]; rfl) (by rw [hi]; exact hu) (by rw [h1, z']) hp)
        exact ⟨p2, xs, h1, h2, by rw [upd_ne ne]; exact h3, h4, h5.go k (fun _ z => .inr z) fun _ z => .inl z⟩
      | od t kvs =>
        obtain ⟨p2, xs, h1, h2, h3, h5⟩ := q
        have ne : p2 ≠ p := fun z' => z (r.inj j i p (by rw [y]; rfl) (by rw [hi]; exact hu) (by rw [h1, z']) hp)
        exact ⟨p2, xs, h1, h2, by rw [upd_ne ne]; exact h3, h5.go k (fun _ z => .inr z) fun _ z => .inl z⟩
      | dk => exact q
  · have c : ∀ j, isOwn (e.set i s)[j]? = true → isOwn e[j]? = true := fun j h => by
      rcases isOwn_set h with ⟨z, y⟩ | ⟨z, y⟩
      · rw [z, hi]; exact hu
      · exact y
    exact r.inj j l a (c j h1) (c l h2) h3 h4
/-- what slot i owns is shared from now on -/
theorem Rep.share (r : Rep K g O0 e σ H) {i : Nat} {d : PyData} (hi : (∃ ds, e[i]? = some (.ol ds) ∧ d = .list ds) ∨ ∃ t kvs, e[i]? = some (.od t kvs) ∧ d = .dict kvs) :
    ∃ v, σ[i]? = some (some v) ∧ Sh K (Ow O0 (e.set i (.sh d)) σ) H v d ∧ Rep K g O0 (e.set i (.sh d)) σ H := by
  have ow : ∀ a, Ow O0 (e.set i (.sh d)) σ a → Ow O0 e σ a := fun a z => z.imp id fun z => own_set' rfl z
  have main : ∃ v, σ[i]? = some (some v) ∧ Sh K (Ow O0 (e.set i (.sh d)) σ) H v d := by
    have nope : ∀ p, isOwn e[i]? = true → σ[i]? = some (some (.ref p)) → ¬ O0 p → ¬ Ow O0 (e.set i (.sh d)) σ p := fun p ho hp n0 z => by
      rcases z with z | ⟨j, h1, h2⟩
      · exact n0 z
      · rcases isOwn_set h1 with ⟨_, y⟩ | ⟨z, y⟩
        · simp [isOwn] at y
        · exact z (r.inj j i p y ho h2 hp)
    rcases hi with ⟨ds, h, rfl⟩ | ⟨t, kvs, h, rfl⟩
    · obtain ⟨p, xs, h1, h2, h3, h4, h5⟩ := r.at' i _ h
      exact ⟨.ref p, h1, sh_list.mpr ⟨p, xs, rfl, ⟨nope p (by rw [h]; rfl) h1 h2, h3⟩, h4, h5.weak ow⟩⟩
    · obtain ⟨p, o, h1, h2, h3, h5⟩ := r.at' i _ h
      exact ⟨.ref p, h1, sh_dict.mpr ⟨p, o, rfl, nope p (by rw [h]; rfl) h1 h2, h3, h5.is.weak ow⟩⟩
  obtain ⟨v, h1, h2⟩ := main
  refine ⟨v, h1, h2, by simp [r.len], fun j u h => ?_, fun j k a h1 h2 h3 h4 => ?_⟩
  · rcases get_set h with ⟨rfl, rfl, l⟩ | ⟨z, y⟩
    · exact ⟨v, h1, h2⟩
    · exact (r.at' j u y).weak ow fun _ z => .inl z
  · rcases isOwn_set h1 with ⟨z, y⟩ | ⟨z, y⟩
    · simp [isOwn] at y
    · rcases isOwn_set h2 with ⟨z', y'⟩ | ⟨z', y'⟩
      · simp [isOwn] at y'
      · exact r.inj j k a y y' h3 h4
end

/-! what an expression gives -/
def RV1 (K : PySem.W.Frag) (g : Gd) (O : AP) (σ : St) (H : Hp) (v : V) (F : List Addr) : R → Prop
  | .v d => F = [] ∧ Sh K O H v d
  | .pl i => F = [] ∧ σ[i]? = some (some v)
  | .dk => F = [] ∧ v = .ref g.1
  | .fl ds => ∃ p xs, F = [p] ∧ v = .ref p ∧ H p = some (.lst xs) ∧ xs.length ≤ sizeLine ∧ ShA K O H xs ds
  | .fd t kvs => ∃ p o, F = [p] ∧ v = .ref p ∧ H p = some o ∧ DcT K O H t o kvs
inductive RVs (K : PySem.W.Frag) (g : Gd) (O : AP) (σ : St) (H : Hp) : List V → List Addr → List R → Prop
  | nil : RVs K g O σ H [] [] []
  | cons {v vs F1 F2 r rs} : RV1 K g O σ H v F1 r → RVs K g O σ H vs F2 rs → (∀ p ∈ F1, p ∉ F2) → RVs K g O σ H (v :: vs) (F1 ++ F2) (r :: rs)

/-- from (e, H) to (m.e, H'), the frame as it was, F new -/
structure Stp (K : PySem.W.Frag) (g : Gd) (O0 : AP) (e : Env) (σ : St) (H : Hp) (F : List Addr) (m : M) (H' : Hp) : Prop where
  keep : Keep (Mu g e σ) H H'
  own : ∀ a, own m.e σ a → PV.own e σ a
  new : ∀ p ∈ F, H p = none ∧ ¬ O0 p ∧ ¬ PV.own m.e σ p ∧ H' p ≠ none
  rep : Rep K g (plus O0 F) m.e σ H'
  dk : DkRep g m.s H'

section
variable {K : PySem.W.Frag} {g : Gd} {O O' O0 M : AP} {e : Env} {σ : St} {H H1 H' : Hp} {v : V} {F F1 F2 : List Addr} {r : R} {m1 m2 : PV.M}
theorem RV1.go (h : RV1 K g O σ H v F r) (k : Keep M H H') (m : ∀ a, M a → O a) (hf : ∀ p ∈ F, ¬ M p) (n : ∀ a, O' a → O a ∨ H a = none) : RV1 K g O' σ H' v F r := by
  cases r with
  | v d => exact ⟨h.1, h.2.go k m n⟩
  | pl i => exact h
  | dk => exact h
  | fl ds => obtain ⟨p, xs, rfl, q, hp, z, s⟩ := h; exact ⟨p, xs, rfl, q, k.stay p _ hp (.inl (hf p (by simp))), z, s.go k m n⟩
  | fd t kvs => obtain ⟨p, o, rfl, q, hp, s⟩ := h; exact ⟨p, o, rfl, q, k.stay p _ hp (.inl (hf p (by simp))), s.go k m n⟩
theorem RVs.go {vs : List V} {rs : List R} (h : RVs K g O σ H vs F rs) (k : Keep M H H') (m : ∀ a, M a → O a) (hf : ∀ p ∈ F, ¬ M p) (n : ∀ a, O' a → O a ∨ H a = none) : RVs K g O' σ H' vs F rs := by
  induction h with
  | nil => exact .nil
  | cons q _ d ih => exact .cons (q.go k m (fun p hp => hf p (List.mem_append_left _ hp)) n) (ih fun p hp => hf p (List.mem_append_right _ hp)) d
theorem Stp.refl {s : DS} (r : Rep K g O0 e σ H) (d : DkRep g s H) : Stp K g O0 e σ H [] ⟨e, s⟩ H :=
  ⟨Keep.refl, fun _ z => z, (fun _ z => nomatch z), r.weak fun a z => z.elim id (fun z => nomatch z), d⟩
theorem mu_sub (own : ∀ a, PV.own m1.e σ a → PV.own e σ a) : ∀ a, Mu g m1.e σ a → Mu g e σ a := fun a z => z.imp (own a) id
theorem Stp.trans (a : Stp K g O0 e σ H F1 m1 H1) (b : Stp K g (plus O0 F1) m1.e σ H1 F2 m2 H') : Stp K g O0 e σ H (F1 ++ F2) m2 H' := by
  refine ⟨a.keep.trans b.keep fun x z => .inl (mu_sub a.own x z), fun x z => a.own x (b.own x z), fun p hp => ?_, b.rep.weak fun x z => ?_, b.dk⟩
  · rcases List.mem_append.mp hp with hp | hp
    · obtain ⟨h1, h2, h3, h4⟩ := a.new p hp
      exact ⟨h1, h2, fun z => h3 (b.own p z), fun z => h4 (b.keep.old p z)⟩
    · obtain ⟨h1, h2, h3, h4⟩ := b.new p hp
      exact ⟨a.keep.old p h1, fun z => h2 (.inl z), h3, h4⟩
  · rcases z with z | z
    · exact .inl (.inl z)
    · rcases List.mem_append.mp z with z | z
      · exact .inl (.inr z)
      · exact .inr z
/-- what is new is in no writer's hand -/
theorem Stp.noMu (a : Stp K g O0 e σ H F m1 H1) (hd : ∀ x, DkS g x → O0 x) : ∀ p ∈ F, ¬ Mu g m1.e σ p := fun p hp z => by
  obtain ⟨_, h2, h3, _⟩ := a.new p hp
  exact z.elim h3 fun z => h2 (hd p z)
theorem Stp.repO (a : Stp K g O0 e σ H F m1 H1) : Rep K g O0 m1.e σ H1 := a.rep.weak fun _ z => .inl z
/-- the new ones are forgotten (they are shared) -/
theorem Stp.forget (a : Stp K g O0 e σ H F m1 H1) : Stp K g O0 e σ H [] m1 H1 :=
  ⟨a.keep, a.own, (fun _ z => nomatch z), a.rep.weak fun x z => z.elim .inl (fun z => nomatch z), a.dk⟩
end
end PV

/-! PV.4: readings by the pure evaluator; sequences -/
namespace PV
open PySem PySem.Spec L2

abbrev XC := Nat → Option (Value × Option Str)
def XcR (xc : XC) (K : PySem.W.Frag) (O : AP) (H : Hp) (c : Nat) (f : Option PyData) (cls : Value) (dd : Option Addr) : Prop :=
  ∃ fn, xc c = some (cls, fn) ∧ match fn, f with
    | none, none => dd = none
    | some n, some d => ∃ a v, dd = some a ∧ H a = some (.xd [(n, v)]) ∧ Sh K O H v d
    | _, _ => False
theorem XcR.weak {xc : XC} {K : PySem.W.Frag} {O O' : AP} {H : Hp} {c : Nat} {f : Option PyData} {cls : Value} {dd : Option Addr} (h : XcR xc K O H c f cls dd) (n : ∀ a, O' a → O a) : XcR xc K O' H c f cls dd := by
  obtain ⟨fn, e, h⟩ := h
  refine ⟨fn, e, ?_⟩
  cases fn with
  | none => cases f with
    | none => exact h
    | some d => exact h.elim
  | some m => cases f with
    | none => exact h.elim
    | some d => obtain ⟨a, v, h1, h2, h3⟩ := h; exact ⟨a, v, h1, h2, h3.weak n⟩

structure Good (K : PySem.W.Frag) (g : Gd) (O0 : AP) (e : Env) (s : DS) (σ : L2.St) (H : Hp) : Prop where
  dk0 : ∀ a, DkS g a → O0 a
  oe : ∀ a, O0 a → H a ≠ none
  rep : Rep K g O0 e σ H
  dk : DkRep g s H

section
variable {K : PySem.W.Frag} {g : Gd} {O0 : AP} {e : Env} {s : DS} {σ : L2.St} {H H' : Hp} {F : List Addr} {m : M}
theorem Good.step (G : Good K g O0 e s σ H) (t : Stp K g O0 e σ H F m H') : Good K g (plus O0 F) m.e m.s σ H' :=
  ⟨fun a z => .inl (G.dk0 a z), fun a z => z.elim (fun z q => G.oe a z (t.keep.old a q)) fun z => (t.new a z).2.2.2, t.rep, t.dk⟩
theorem Good.step0 (G : Good K g O0 e s σ H) (t : Stp K g O0 e σ H F m H') : Good K g O0 m.e m.s σ H' :=
  ⟨G.dk0, fun a z q => G.oe a z (t.keep.old a q), t.repO, t.dk⟩
theorem Good.stp (G : Good K g O0 e s σ H) : Stp K g O0 e σ H [] ⟨e, s⟩ H := Stp.refl G.rep G.dk
theorem Good.mu (G : Good K g O0 e s σ H) : ∀ a, Mu g e σ a → Ow O0 e σ a := fun a z => z.elim .inr fun z => .inl (G.dk0 a z)
/-- new objects, nothing else -/
theorem Good.pure (G : Good K g O0 e s σ H) (k : Keep (fun _ => False) H H') (hF : ∀ p ∈ F, H p = none ∧ H' p ≠ none) : Stp K g O0 e σ H F ⟨e, s⟩ H' := by
  refine ⟨k.mono fun _ z => z.elim, fun _ z => z, fun p hp => ?_, G.rep.go k (fun _ z => z.elim) fun a z => z.imp id fun z => (hF a z).1, G.dk.keep k fun _ z => z.elim⟩
  obtain ⟨h1, h2⟩ := hF p hp
  refine ⟨h1, fun z => G.oe p z h1, fun z => ?_, h2⟩
  obtain ⟨_, o, ho, _⟩ := G.rep.owned z
  rw [h1] at ho; cases ho
end

def PostE (xc : XC) (K : PySem.W.Frag) (W : WX) (g : Gd) (O0 : AP) (e : Env) (σ : L2.St) (H : Hp) (Q : VK) : Res R → Prop
  | .ok r m => ∀ v H' F, Stp K g O0 e σ H F m H' → RV1 K g (Ow (plus O0 F) m.e σ) σ H' v F r → Q v H'
  | .rz c f m => ∀ cls dd H', Stp K g O0 e σ H [] m H' → XcR xc K (Ow O0 m.e σ) H' c f cls dd → W cls dd σ H'
  | .bad => False
def tE (xc : XC) (K : PySem.W.Frag) (W : WX) (f : M → Res R) : TE := fun σ H Q => ∃ g O0 e s, Good K g O0 e s σ H ∧ PostE xc K W g O0 e σ H Q (f ⟨e, s⟩)
def PostEs (xc : XC) (K : PySem.W.Frag) (W : WX) (g : Gd) (O0 : AP) (e : Env) (σ : L2.St) (H : Hp) (Q : List V → Hp → Prop) : Res (List R) → Prop
  | .ok rs m => ∀ vs H' F, Stp K g O0 e σ H F m H' → RVs K g (Ow (plus O0 F) m.e σ) σ H' vs F rs → Q vs H'
  | .rz c f m => ∀ cls dd H', Stp K g O0 e σ H [] m H' → XcR xc K (Ow O0 m.e σ) H' c f cls dd → W cls dd σ H'
  | .bad => False
def tEs (xc : XC) (K : PySem.W.Frag) (W : WX) (f : M → Res (List R)) : TA := fun σ H Q => ∃ g O0 e s, Good K g O0 e s σ H ∧ PostEs xc K W g O0 e σ H Q (f ⟨e, s⟩)
def PostT (xc : XC) (K : PySem.W.Frag) (W : WX) (g : Gd) (O0 : AP) (e : Env) (σ : L2.St) (H : Hp) (Q : Bool → Hp → Prop) : Res Bool → Prop
  | .ok b m => ∀ H', Stp K g O0 e σ H [] m H' → Q b H'
  | .rz c f m => ∀ cls dd H', Stp K g O0 e σ H [] m H' → XcR xc K (Ow O0 m.e σ) H' c f cls dd → W cls dd σ H'
  | .bad => False
def tT (xc : XC) (K : PySem.W.Frag) (W : WX) (f : M → Res Bool) : TT := fun σ H Q => ∃ g O0 e s, Good K g O0 e s σ H ∧ PostT xc K W g O0 e σ H Q (f ⟨e, s⟩)

theorem PEimp {X : Cx} {e : Expr} {t t' : TE} (h : PE X e t) (i : ∀ σ H Q, t' σ H Q → t σ H Q) : PE X e t' := ⟨fun pins s σ H Q I z => h.run pins s σ H Q I (i σ H Q z)⟩
theorem PAimp {X : Cx} {e : List Expr} {t t' : TA} (h : PA X e t) (i : ∀ σ H Q, t' σ H Q → t σ H Q) : PA X e t' := ⟨fun pos pins s σ H Q I z => h.run pos pins s σ H Q I (i σ H Q z)⟩
theorem PTimp {X : Cx} {e : Expr} {t t' : TT} (h : PT X e t) (i : ∀ σ H Q, t' σ H Q → t σ H Q) : PT X e t' := ⟨fun pins s σ H Q I z => h.run pins s σ H Q I (i σ H Q z)⟩
theorem PWimp {X : Cx} {e : Expr} {t t' : TT} (h : PW X e t) (i : ∀ σ H Q, t' σ H Q → t σ H Q) : PW X e t' := ⟨fun wh pins s σ H Q I z => h.run wh pins s σ H Q I (i σ H Q z)⟩
theorem PSimp {X : Cx} {st : Stmt} {t t' : TS} (h : PS X st t) (i : ∀ D σ H, t' D σ H → t D σ H) : PS X st t' := ⟨fun pins s σ H D I z => h.run pins s σ H D I (i D σ H z)⟩
theorem PSsimp {X : Cx} {st : List Stmt} {t t' : TS} (h : PSs X st t) (i : ∀ D σ H, t' D σ H → t D σ H) : PSs X st t' := ⟨fun pins s σ H D I z => h.run pins s σ H D I (i D σ H z)⟩

section
variable {xc : XC} {K : PySem.W.Frag} {W : WX} {g : Gd} {O0 : AP} {e : Env} {s : DS} {σ : L2.St} {H H1 H' : Hp} {F : List Addr} {m m1 : M}
/-- a raise further on is a raise -/
theorem rz_of {c : Nat} {f : Option PyData} (t1 : Stp K g O0 e σ H F m1 H1) (h : ∀ cls dd H', Stp K g O0 e σ H [] m H' → XcR xc K (Ow O0 m.e σ) H' c f cls dd → W cls dd σ H') :
    ∀ cls dd H', Stp K g (plus O0 F) m1.e σ H1 [] m H' → XcR xc K (Ow (plus O0 F) m.e σ) H' c f cls dd → W cls dd σ H' := fun cls dd H' t2 x =>
  h cls dd H' (t1.trans t2).forget (x.weak fun a z => z.imp .inl id)
theorem rz_of0 {c : Nat} {f : Option PyData} (t1 : Stp K g O0 e σ H [] m1 H1) (h : ∀ cls dd H', Stp K g O0 e σ H [] m H' → XcR xc K (Ow O0 m.e σ) H' c f cls dd → W cls dd σ H') :
    ∀ cls dd H', Stp K g O0 m1.e σ H1 [] m H' → XcR xc K (Ow O0 m.e σ) H' c f cls dd → W cls dd σ H' := fun cls dd H' t2 x =>
  h cls dd H' (by
    have t2' : Stp K g (plus O0 []) m1.e σ H1 [] m H' := ⟨t2.keep, t2.own, (fun _ z => nomatch z), t2.rep.weak fun a z => (by rcases z with (z | z) | z; exact .inl z; exact nomatch z; exact nomatch z), t2.dk⟩
    exact t1.trans t2') x
theorem Stp.trans0 {m2 : M} (t1 : Stp K g O0 e σ H [] m1 H1) (t2 : Stp K g O0 m1.e σ H1 F m2 H') : Stp K g O0 e σ H F m2 H' := by
  have t2' : Stp K g (plus O0 []) m1.e σ H1 F m2 H' := ⟨t2.keep, t2.own, fun p hp => (by
    obtain ⟨h1, h2, h3, h4⟩ := t2.new p hp
    exact ⟨h1, fun z => z.elim h2 (fun z => nomatch z), h3, h4⟩), t2.rep.weak fun a z => (by rcases z with (z | z) | z; exact .inl z; exact nomatch z; exact .inr z), t2.dk⟩
  exact t1.trans t2'
/-- the first of a row, when the rest is done -/
theorem rv_later {v : V} {F1 F2 : List Addr} {r : R} {m1 m2 : M} {H2 : Hp} (G : Good K g O0 e s σ H) (t1 : Stp K g O0 e σ H F1 m1 H1) (h : RV1 K g (Ow (plus O0 F1) m1.e σ) σ H1 v F1 r) (t2 : Stp K g (plus O0 F1) m1.e σ H1 F2 m2 H2) :
    RV1 K g (Ow (plus O0 (F1 ++ F2)) m2.e σ) σ H2 v F1 r := by
  refine h.go t2.keep (G.step t1).mu (t1.noMu G.dk0) fun a z => ?_
  rcases z with (z | z) | z
  · exact .inl (.inl (.inl z))
  · rcases List.mem_append.mp z with z | z
    · exact .inl (.inl (.inr z))
    · exact .inr (t2.new a z).1
  · exact .inl (.inr (t2.own a z))
theorem rvs_ext {vs : List V} {F1 F2 : List Addr} {rs : List R} {m2 : M} {H2 : Hp} (h : RVs K g (Ow (plus (plus O0 F1) F2) m2.e σ) σ H2 vs F2 rs) : RVs K g (Ow (plus O0 (F1 ++ F2)) m2.e σ) σ H2 vs F2 rs := by
  refine h.go (M := fun _ => False) Keep.refl (fun _ z => z.elim) (fun _ _ z => z) fun a z => ?_
  rcases z with (z | z) | z
  · exact .inl (.inl (.inl (.inl z)))
  · rcases List.mem_append.mp z with z | z
    · exact .inl (.inl (.inl (.inr z)))
    · exact .inl (.inl (.inr z))
  · exact .inl (.inr z)
theorem apart {F1 F2 : List Addr} {m1 m2 : M} {H2 : Hp} (t1 : Stp K g O0 e σ H F1 m1 H1) (t2 : Stp K g (plus O0 F1) m1.e σ H1 F2 m2 H2) : ∀ p ∈ F1, p ∉ F2 := fun p h1 h2 => (t1.new p h1).2.2.2 (t2.new p h2).1

/-- e, then es -/
theorem cons_ok {f : M → Res R} {fs : M → Res (List R)} {Q : List V → Hp → Prop}
    (h : tEs xc K W (fun m => match f m with
      | .ok r m1 => match fs m1 with
        | .ok rs m2 => .ok (r :: rs) m2
        | .rz c f m2 => .rz c f m2
        | .bad => .bad
      | .rz c f m1 => .rz c f m1
      | .bad => .bad) σ H Q) : tE xc K W f σ H fun x H1 => tEs xc K W fs σ H1 fun xs H2 => Q (x :: xs) H2 := by
  obtain ⟨g, O0, e, s, G, h⟩ := h
  refine ⟨g, O0, e, s, G, ?_⟩
  cases hf : f ⟨e, s⟩ with
  | ok r m1 =>
    simp only [hf] at h
    intro v H1 F1 t1 rv1
    refine ⟨g, plus O0 F1, m1.e, m1.s, G.step t1, ?_⟩
    cases hfs : fs ⟨m1.e, m1.s⟩ with
    | ok rs m2 =>
      have hfs' : fs m1 = .ok rs m2 := hfs
      simp only [hfs'] at h
      intro vs H2 F2 t2 rvs
      exact h (v :: vs) H2 (F1 ++ F2) (t1.trans t2) (.cons (rv_later G t1 rv1 t2) (rvs_ext rvs) (apart t1 t2))
    | rz c f m2 =>
      have hfs' : fs m1 = .rz c f m2 := hfs
      simp only [hfs'] at h
      exact rz_of t1 h
    | bad =>
      have hfs' : fs m1 = .bad := hfs
      simp only [hfs'] at h
      exact h
  | rz c f m1 => simp only [hf] at h; exact h
  | bad => simp only [hf] at h; exact h
theorem nil_ok {Q : List V → Hp → Prop} (h : tEs xc K W (fun m => .ok [] m) σ H Q) : Q [] H := by
  obtain ⟨g, O0, e, s, G, h⟩ := h
  exact h [] H [] G.stp .nil
end

/-! readable at the moment -/
section
variable {xc : XC} {K : PySem.W.Frag} {W : WX} {g : Gd} {O O' O0 : AP} {e : Env} {s : DS} {σ : L2.St} {H H1 H' : Hp} {F : List Addr} {m m1 : M}
theorem RV1.val {v : V} {r : R} {d : PyData} (h : RV1 K g (Ow (plus O0 F) e σ) σ H v F r) (rep : Rep K g (plus O0 F) e σ H) (hd : deref e r = some d) : ShT K (Ow O0 e σ) H v d := by
  have wk : ∀ a, Ow O0 e σ a → Ow (plus O0 F) e σ a := fun a z => z.imp .inl id
  cases r with
  | v d' =>
    obtain rfl : d' = d := by simpa [deref] using hd
    exact (h.2.weak wk).top
  | fl ds =>
    obtain rfl : PyData.list ds = d := by simpa [deref] using hd
    obtain ⟨p, xs, _, rfl, hp, z, q⟩ := h
    exact ⟨p, xs, rfl, hp, z, q.weak wk⟩
  | fd t kvs =>
    obtain rfl : PyData.dict kvs = d := by simpa [deref] using hd
    obtain ⟨p, o, _, rfl, hp, q⟩ := h
    exact ⟨p, o, rfl, hp, q.is.weak wk⟩
  | dk => simp [deref] at hd
  | pl i =>
    obtain ⟨_, hi⟩ := h
    cases hs : e[i]? with
    | none => simp [deref, hs] at hd
    | some sl =>
      have q := rep.at' i sl hs
      cases sl with
      | un => simp [deref, hs] at hd
      | dk => simp [deref, hs] at hd
      | sh d' =>
        obtain rfl : d' = d := by simpa [deref, hs] using hd
        obtain ⟨v', h1, h2⟩ := q
        rw [hi] at h1; cases h1
        exact (h2.weak wk).top
      | ol ds =>
        obtain rfl : PyData.list ds = d := by simpa [deref, hs] using hd
        obtain ⟨p, xs, h1, _, h3, h4, h5⟩ := q
        rw [hi] at h1; cases h1
        exact ⟨p, xs, rfl, h3, h4, h5.weak wk⟩
      | od t kvs =>
        obtain rfl : PyData.dict kvs = d := by simpa [deref, hs] using hd
        obtain ⟨p, o, h1, _, h3, h5⟩ := q
        rw [hi] at h1; cases h1
        exact ⟨p, o, rfl, h3, h5.is.weak wk⟩
/-- a value of a row is read alone -/
theorem RV1.alone {v : V} {r : R} {F1 : List Addr} (h : RV1 K g O σ H v F1 r) (hs : ∀ p ∈ F1, p ∈ F) (rep : Rep K g (plus O0 F) e σ H) (ho : O = Ow (plus O0 F) e σ) : RV1 K g (Ow (plus O0 F1) e σ) σ H v F1 r ∧ Rep K g (plus O0 F1) e σ H := by
  subst ho
  exact ⟨h.go (M := fun _ => False) Keep.refl (fun _ z => z.elim) (fun _ _ z => z) fun a z => .inl (z.imp (fun z => z.imp id fun z => hs a z) id), rep.weak fun a z => z.imp id fun z => hs a z⟩
theorem RVs.vals : ∀ {vs : List V} {F1 : List Addr} {rs : List R} {ds : List PyData}, RVs K g (Ow (plus O0 F) e σ) σ H vs F1 rs → (∀ p ∈ F1, p ∈ F) → Rep K g (plus O0 F) e σ H → derefs e rs = some ds → Paired (ShT K (Ow O0 e σ) H) vs ds
  | _, _, _, ds, .nil, _, _, hd => by
    obtain rfl : ds = [] := by simpa [derefs] using hd.symm
    exact .nil
  | _, _, _, ds, @RVs.cons _ _ _ _ _ v vs F1 F2 r rs h t _, hs, rep, hd => by
    cases h1 : deref e r with
    | none => simp [derefs, h1] at hd
    | some d =>
      cases h2 : derefs e rs with
      | none => simp [derefs, h1, h2] at hd
      | some ds' =>
        obtain rfl : d :: ds' = ds := by simpa [derefs, h1, h2] using hd
        obtain ⟨q1, q2⟩ := h.alone (fun p hp => hs p (List.mem_append_left _ hp)) rep rfl
        exact .cons (q1.val q2 h1) (RVs.vals t (fun p hp => hs p (List.mem_append_right _ hp)) rep h2)
theorem RVs.vals' {vs : List V} {rs : List R} {ds : List PyData} (h : RVs K g (Ow (plus O0 F) e σ) σ H vs F rs) (rep : Rep K g (plus O0 F) e σ H) (hd : derefs e rs = some ds) : Paired (ShT K (Ow O0 e σ) H) vs ds := RVs.vals h (fun _ z => z) rep hd
end

/-! an operation by values -/
section
variable {xc : XC} {K : PySem.W.Frag} {W : WX} {g : Gd} {O O' O0 : AP} {e e0 : Env} {s : DS} {σ : L2.St} {H H0 H1 H' : Hp} {F : List Addr} {m m1 : M}
/-- the end of an operation is the end of the expression -/
theorem post_op {r : R} {Q : VK} (hQ : ∀ v H' F', Stp K g O0 e0 σ H0 F' m H' → RV1 K g (Ow (plus O0 F') m.e σ) σ H' v F' r → Q v H') (G0 : Good K g O0 e0 s σ H0) (t : Stp K g O0 e0 σ H0 F m H)
    {v : V} {F' : List Addr} (k : Keep (fun _ => False) H H') (hF : ∀ p ∈ F', H p = none ∧ H' p ≠ none) (rv : RV1 K g (plus (Ow O0 m.e σ) F') σ H' v F' r) : Q v H' := by
  have G := G0.step0 t
  refine hQ v H' F' (t.forget.trans0 (G.pure k hF)) (rv.go (M := fun _ => False) Keep.refl (fun _ z => z.elim) (fun _ _ z => z) fun a z => .inl ?_)
  rcases z with (z | z) | z
  · exact .inl (.inl z)
  · exact .inr z
  · exact .inl (.inr z)
/-- what an operation on values makes -/
def RO (K : PySem.W.Frag) (O : AP) (H : Hp) (v : V) (F : List Addr) : R → Prop
  | .v d => F = [] ∧ Sh K O H v d
  | .fl ds => ∃ p xs, F = [p] ∧ v = .ref p ∧ H p = some (.lst xs) ∧ xs.length ≤ sizeLine ∧ ShA K O H xs ds
  | .fd t kvs => ∃ p o, F = [p] ∧ v = .ref p ∧ H p = some o ∧ DcT K O H t o kvs
  | _ => False
theorem RO.rv {v : V} {r : R} (h : RO K O H v F r) : RV1 K g O σ H v F r := by
  cases r with
  | v d => exact h
  | fl ds => exact h
  | fd t kvs => exact h
  | pl i => exact h.elim
  | dk => exact h.elim
/-- a value, a new list: the two ends -/
theorem RO.sh {v : V} {d : PyData} (h : Sh K O H v d) : RO K (plus O []) H v [] (.v d) := ⟨rfl, h.weak fun _ z => z.elim id (fun z => nomatch z)⟩
theorem RO.new {p : Addr} {xs : List V} {ds : List PyData} (n : H p = none) (hz : xs.length ≤ sizeLine) (h : ShA K O H xs ds) : RO K (plus O [p]) (upd H p (.lst xs)) (.ref p) [p] (.fl ds) :=
  ⟨p, xs, rfl, rfl, upd_same, hz, h.go (Keep.new (M := fun _ => False) n) (fun _ z => z.elim) fun a z => z.imp id fun z => by rw [List.mem_singleton.mp z]; exact n⟩
theorem RO.tup {p : Addr} {xs : List V} {ds : List PyData} (n : H p = none) (hz : xs.length ≤ sizeLine) (h : ShA K O H xs ds) : RO K (plus O []) (upd H p (.tup xs)) (.ref p) [] (.v (.tuple ds)) :=
  RO.sh (sh_tuple.mpr ⟨p, xs, rfl, upd_same, hz, h.go (Keep.new (M := fun _ => False) n) (fun _ z => z.elim) fun a z => .inl z⟩)
theorem newF {p : Addr} {o : HO} (n : H p = none) : ∀ q ∈ [p], H q = none ∧ upd H p o q ≠ none := fun q hq => by
  rw [List.mem_singleton.mp hq]; exact ⟨n, by rw [upd_same]; simp⟩
theorem nilF : ∀ q ∈ ([] : List Addr), H q = none ∧ H' q ≠ none := fun _ z => nomatch z
/-- what an operation on values must do -/
def OpV (K : PySem.W.Frag) (r : List V → Hp → VK → Prop) (op : List PyData → Option R) : Prop :=
  ∀ (O : AP) (H : Hp) (vs : List V) (ds : List PyData) (z : R) (Q : VK), Paired (ShT K O H) vs ds → op ds = some z →
    (∀ v H' F, Keep (fun _ => False) H H' → (∀ p ∈ F, H p = none ∧ H' p ≠ none) → RO K (plus O F) H' v F z → Q v H') → r vs H Q
/-- .. to be used behind a row of operands -/
theorem OpV.use {r : List V → Hp → VK → Prop} {op : List PyData → Option R} (ho : OpV K r op) {fs : M → Res (List R)} {Q : VK}
    (h : tE xc K W (fun m => match fs m with
      | .ok rs m1 => match derefs m1.e rs with
        | some ds => match op ds with
          | some r => .ok r m1
          | none => .bad
        | none => .bad
      | .rz c f m1 => .rz c f m1
      | .bad => .bad) σ H Q) : tEs xc K W fs σ H fun vs H1 => r vs H1 Q := by
  obtain ⟨g, O0, e, s, G, h⟩ := h
  refine ⟨g, O0, e, s, G, ?_⟩
  cases hf : fs ⟨e, s⟩ with
  | ok rs m1 =>
    simp only [hf] at h
    intro vs H1 F1 t1 rvs
    cases hd : derefs m1.e rs with
    | none => simp only [hd] at h; exact h.elim
    | some ds =>
      simp only [hd] at h
      cases hz : op ds with
      | none => simp only [hz] at h; exact h.elim
      | some z =>
        simp only [hz] at h
        exact ho _ H1 vs ds z Q (rvs.vals' t1.rep hd) hz fun v H' F k hF rv => post_op h G t1 k hF rv.rv
  | rz c f m1 => simp only [hf] at h; exact h
  | bad => simp only [hf] at h; exact h
end
end PV

/-! PV.5: the operations by values -/
namespace PV
open PySem PySem.Spec L2

def V1 (r : V → Hp → VK → Prop) : List V → Hp → VK → Prop := fun vs H Q => ∃ x, vs = [x] ∧ r x H Q
def V2 (r : R2) : List V → Hp → VK → Prop := fun vs H Q => ∃ x y, vs = [x, y] ∧ r x y H Q
theorem p1 {F : V → PyData → Prop} {vs : List V} {d : PyData} (h : Paired F vs [d]) : ∃ x, vs = [x] ∧ F x d := by
  cases h with
  | cons r t => cases t; exact ⟨_, rfl, r⟩
theorem p2 {F : V → PyData → Prop} {vs : List V} {d e : PyData} (h : Paired F vs [d, e]) : ∃ x y, vs = [x, y] ∧ F x d ∧ F y e := by
  cases h with
  | cons r t => obtain ⟨y, rfl, q⟩ := p1 t; exact ⟨_, y, rfl, r, q⟩
theorem p3 {F : V → PyData → Prop} {vs : List V} {d e f : PyData} (h : Paired F vs [d, e, f]) : ∃ x y z, vs = [x, y, z] ∧ F x d ∧ F y e ∧ F z f := by
  cases h with
  | cons r t => obtain ⟨y, z, rfl, q⟩ := p2 t; exact ⟨_, y, z, rfl, r, q⟩

section
variable {K : PySem.W.Frag} {O : AP} {H : Hp} {v x : V}
theorem t_int {i : Int} (h : ShT K O H v (.int i)) : v = .int i := sh_int.mp h
theorem t_str {i : Str} (h : ShT K O H v (.str i)) : v = .str i := sh_str.mp h
theorem t_bool {i : Bool} (h : ShT K O H v (.bool i)) : v = .bl i := sh_bool.mp h
theorem t_none (h : ShT K O H v .none) : v = .non := sh_none.mp h
theorem t_list {ds : List PyData} (h : ShT K O H v (.list ds)) : ∃ a xs, v = .ref a ∧ H a = some (.lst xs) ∧ xs.length ≤ sizeLine ∧ ShA K O H xs ds := h
theorem t_tup {ds : List PyData} (h : ShT K O H v (.tuple ds)) : ∃ a xs, v = .ref a ∧ SqT K H a xs ∧ xs.length ≤ sizeLine ∧ ShA K O H xs ds := by
  obtain ⟨a, xs, e, t, z, q⟩ := sh_tuple.mp h
  exact ⟨a, xs, e, t.sq, z, q⟩
theorem t_dict {kvs : List (PyData × PyData)} (h : ShT K O H v (.dict kvs)) : ∃ a o, v = .ref a ∧ H a = some o ∧ DcIs K O H o kvs := h
/-- a tuple's data is shared data -/
theorem t_tup' {ds : List PyData} (h : ShT K O H v (.tuple ds)) : Sh K O H v (.tuple ds) := h
theorem LIM_eq : LIM = sizeLine := by rw [sizeLine_eq]; rfl

/-- the end of an operation that gives a value -/
theorem fin_v {Q : VK} {d : PyData} (hQ : ∀ v H' F, Keep (fun _ => False) H H' → (∀ p ∈ F, H p = none ∧ H' p ≠ none) → RO K (plus O F) H' v F (.v d) → Q v H') (h : Sh K O H v d) : Q v H :=
  hQ v H [] Keep.refl nilF (RO.sh h)
theorem fin_l {Q : VK} {ds : List PyData} {xs : List V} (hQ : ∀ v H' F, Keep (fun _ => False) H H' → (∀ p ∈ F, H p = none ∧ H' p ≠ none) → RO K (plus O F) H' v F (.fl ds) → Q v H') (hz : xs.length ≤ sizeLine) (h : ShA K O H xs ds) :
    ∀ p, H p = none → Q (.ref p) (upd H p (.lst xs)) := fun p n => hQ _ _ [p] (Keep.new n) (newF n) (RO.new n hz h)
theorem fin_t {Q : VK} {ds : List PyData} {xs : List V} (hQ : ∀ v H' F, Keep (fun _ => False) H H' → (∀ p ∈ F, H p = none ∧ H' p ≠ none) → RO K (plus O F) H' v F (.v (.tuple ds)) → Q v H') (hz : xs.length ≤ sizeLine) (h : ShA K O H xs ds) :
    ∀ p, H p = none → Q (.ref p) (upd H p (.tup xs)) := fun p n => hQ _ _ [] (Keep.new n) (fun _ z => nomatch z) (RO.tup n hz h)
end

section
variable {X : Cx} {K : PySem.W.Frag}
/-! + - * // % ** -/
def rAddAll (K : PySem.W.Frag) : R2 := fun x y H Q => (((rI0 fun i j => .int (i + j)) x y H Q ∨ ∃ i j, x = .str i ∧ y = .str j ∧ i.length + j.length ≤ sizeLine ∧ Q (.str (i ++ j)) H) ∨ rCat x y H Q) ∨ rCatA K x y H Q
theorem o_add : OpR X (binaryOp .Add) (rAddAll X.K) := ((op_add.or op_add_str).or op_cat).or op_catA
theorem v_add : OpV K (V2 (rAddAll K)) addD := by
  intro O H vs ds z Q hp hz hQ
  unfold addD at hz
  split at hz
  · obtain ⟨x, y, rfl, h1, h2⟩ := p2 hp
    cases hz
    exact ⟨x, y, rfl, .inl (.inl (.inl ⟨_, _, t_int h1, t_int h2, fin_v hQ (sh_int.mpr rfl)⟩))⟩
  · obtain ⟨x, y, rfl, h1, h2⟩ := p2 hp
    split at hz
    · rename_i hl
      rw [LIM_eq] at hl
      cases hz
      exact ⟨x, y, rfl, .inl (.inl (.inr ⟨_, _, t_str h1, t_str h2, hl, fin_v hQ (sh_str.mpr rfl)⟩))⟩
    · cases hz
  · obtain ⟨x, y, rfl, h1, h2⟩ := p2 hp
    split at hz
    · rename_i hl
      rw [LIM_eq] at hl
      cases hz
      obtain ⟨a, xs, e1, g1, z1, s1⟩ := t_list h1
      obtain ⟨b, ys, e2, g2, z2, s2⟩ := t_list h2
      have hl' : xs.length + ys.length ≤ sizeLine := by rw [Paired.len s1, Paired.len s2]; exact hl
      exact ⟨x, y, rfl, .inl (.inr ⟨a, b, xs, ys, e1, e2, g1, g2, hl', fin_l hQ (by rw [List.length_append]; exact hl') (Paired.app s1 s2)⟩)⟩
    · cases hz
  · obtain ⟨x, y, rfl, h1, h2⟩ := p2 hp
    split at hz
    · rename_i hl
      rw [LIM_eq] at hl
      cases hz
      obtain ⟨a, xs, e1, g1, z1, s1⟩ := t_tup h1
      obtain ⟨b, ys, e2, g2, z2, s2⟩ := t_tup h2
      have hl' : xs.length + ys.length ≤ sizeLine := by rw [Paired.len s1, Paired.len s2]; exact hl
      refine ⟨x, y, rfl, .inr ⟨a, b, xs, ys, e1, e2, g1, g2, hl', fun e => ?_, fun _ e => ?_, fun _ _ => fin_t hQ (by rw [List.length_append]; exact hl') (Paired.app s1 s2)⟩⟩
      · subst e
        cases s1
        rw [← e2]
        exact fin_v hQ (t_tup' h2)
      · subst e
        cases s2
        rw [← e1]
        exact fin_v hQ (by rw [List.append_nil]; exact t_tup' h1)
    · cases hz
  · cases hz
theorem v_sub : OpV K (V2 (rI0 fun i j => .int (i - j))) subD := by
  intro O H vs ds z Q hp hz hQ
  unfold subD at hz
  split at hz
  · obtain ⟨x, y, rfl, h1, h2⟩ := p2 hp
    cases hz
    exact ⟨x, y, rfl, _, _, t_int h1, t_int h2, fin_v hQ (sh_int.mpr rfl)⟩
  · cases hz
theorem flat_rep {α β : Type} {F : α → β → Prop} {xs : List α} {ys : List β} (h : Paired F xs ys) : ∀ k, Paired F (List.replicate k xs).flatten (List.replicate k ys).flatten
  | 0 => .nil
  | k + 1 => by rw [List.replicate_succ, List.replicate_succ, List.flatten_cons, List.flatten_cons]; exact Paired.app h (flat_rep h k)
def rMulAll : R2 := fun x y H Q => (rI CMul fun i j => .int (i * j)) x y H Q ∨ rRep x y H Q
theorem o_mul : OpR X (binaryOp .Mult) rMulAll := op_mul.or op_rep
theorem v_mul : OpV K (V2 rMulAll) mulD := by
  intro O H vs ds z Q hp hz hQ
  unfold mulD at hz
  split at hz
  · obtain ⟨x, y, rfl, h1, h2⟩ := p2 hp
    split at hz
    · rename_i hl
      cases hz
      exact ⟨x, y, rfl, .inl ⟨_, _, t_int h1, t_int h2, hl, fin_v hQ (sh_int.mpr rfl)⟩⟩
    · cases hz
  · cases hz
theorem v_fdiv : OpV K (V2 (rI CDiv fun i j => .int (i / j))) fdivD := by
  intro O H vs ds z Q hp hz hQ
  unfold fdivD at hz
  split at hz
  · obtain ⟨x, y, rfl, h1, h2⟩ := p2 hp
    split at hz
    · rename_i hl
      cases hz
      exact ⟨x, y, rfl, _, _, t_int h1, t_int h2, hl, fin_v hQ (sh_int.mpr rfl)⟩
    · cases hz
  · cases hz
theorem v_mod : OpV K (V2 (rI (fun _ j => 0 < j) fun i j => .int (i % j))) modD := by
  intro O H vs ds z Q hp hz hQ
  unfold modD at hz
  split at hz
  · obtain ⟨x, y, rfl, h1, h2⟩ := p2 hp
    split at hz
    · rename_i hl
      cases hz
      exact ⟨x, y, rfl, _, _, t_int h1, t_int h2, hl, fin_v hQ (sh_int.mpr rfl)⟩
    · cases hz
  · cases hz
theorem v_pow : OpV K (V2 (rI CPow fun i j => .int (i ^ j.toNat))) powD := by
  intro O H vs ds z Q hp hz hQ
  unfold powD at hz
  split at hz
  · obtain ⟨x, y, rfl, h1, h2⟩ := p2 hp
    split at hz
    · rename_i hl
      cases hz
      exact ⟨x, y, rfl, _, _, t_int h1, t_int h2, hl, fin_v hQ (sh_int.mpr rfl)⟩
    · cases hz
  · cases hz
theorem v_neg : OpV K (V1 (rU fun i => .int (-i))) negD := by
  intro O H vs ds z Q hp hz hQ
  unfold negD at hz
  split at hz
  · obtain ⟨x, rfl, h1⟩ := p1 hp
    cases hz
    exact ⟨x, rfl, _, t_int h1, fin_v hQ (sh_int.mpr rfl)⟩
  · cases hz

/-! == != < <= > >= -/
mutual
theorem nod_lay : ∀ d : PyData, d.canLay0 = true → nod d = true
  | .none, _ => rfl
  | .bool _, _ => rfl
  | .int _, _ => rfl
  | .str _, _ => rfl
  | .list ds, h => by simp only [nod]; exact nodA_lay ds (by simpa [PyData.canLay0] using h)
  | .tuple ds, h => by simp only [nod]; exact nodA_lay ds (by simpa [PyData.canLay0] using h)
  | .dict _, h => by simp [PyData.canLay0] at h
theorem nodA_lay : ∀ ds : List PyData, PyData.canLayAll0 ds = true → nodA ds = true
  | [], _ => rfl
  | d :: ds, h => by
    have h' : d.canLay0 = true ∧ PyData.canLayAll0 ds = true := by simpa [PyData.canLayAll0] using h
    simp only [nodA, nod_lay d h'.1, nodA_lay ds h'.2, Bool.and_self]
end
theorem nod_shaped {d : PyData} (h : SeqAt.shaped d = true) : nod d = true := nod_lay d (SeqAt.canLay_of_shaped h)
def rEqAll (K : PySem.W.Frag) : R2 := fun x y H Q => rEqD K x y H Q ∨ rEq x y H Q
def rNeAll (K : PySem.W.Frag) : R2 := fun x y H Q => rNeD K x y H Q ∨ rNe x y H Q
theorem o_eq (hu : X.A.units + 64 < cLine) : OpR X (compareOp .Eq) (rEqAll X.K) := (op_eqD hu).or op_eq
theorem o_ne (hu : X.A.units + 64 < cLine) : OpR X (compareOp .NotEq) (rNeAll X.K) := (op_neD hu).or op_ne
theorem dec_str {a b : Str} : decide (V.str a = V.str b) = decide (a = b) := decide_eq_decide.mpr ⟨fun h => by cases h; rfl, fun h => by rw [h]⟩
theorem v_eq : OpV K (V2 (rEqAll K)) eqD := by
  intro O H vs ds z Q hp hz hQ
  unfold eqD at hz
  split at hz
  · obtain ⟨x, y, rfl, h1, h2⟩ := p2 hp
    cases hz
    rw [t_str h1, t_str h2]
    exact ⟨_, _, rfl, .inr ⟨rfl, by rw [dec_str]; exact fin_v hQ (sh_bool.mpr rfl)⟩⟩
  · obtain ⟨x, y, rfl, h1, h2⟩ := p2 hp
    split at hz
    · rename_i hl
      cases hz
      exact ⟨x, y, rfl, .inl ⟨_, _, h1.dp (nod_shaped hl.1), h2.dp (nod_shaped hl.2), hl.1, hl.2, fin_v hQ (sh_bool.mpr rfl)⟩⟩
    · cases hz
  · cases hz
theorem v_ne : OpV K (V2 (rNeAll K)) neD := by
  intro O H vs ds z Q hp hz hQ
  unfold neD at hz
  split at hz
  · obtain ⟨x, y, rfl, h1, h2⟩ := p2 hp
    cases hz
    rw [t_str h1, t_str h2]
    exact ⟨_, _, rfl, .inr ⟨rfl, by rw [dec_str]; exact fin_v hQ (sh_bool.mpr rfl)⟩⟩
  · obtain ⟨x, y, rfl, h1, h2⟩ := p2 hp
    split at hz
    · rename_i hl
      cases hz
      exact ⟨x, y, rfl, .inl ⟨_, _, h1.dp (nod_shaped hl.1), h2.dp (nod_shaped hl.2), hl.1, hl.2, fin_v hQ (sh_bool.mpr rfl)⟩⟩
    · cases hz
  · cases hz
theorem toInts_sh {O : AP} {H : Hp} : ∀ {ds : List PyData} {ns : List Int} {xs : List V}, toInts ds = some ns → ShA K O H xs ds → xs = ns.map V.int ∧ ds = ns.map PyData.int
  | [], ns, _, h, .nil => by cases h; exact ⟨rfl, rfl⟩
  | .int i :: ds, ns, _, h, .cons r t => by
    cases hn : toInts ds with
    | none => simp [toInts, hn] at h
    | some ms =>
      obtain rfl : i :: ms = ns := by simpa [toInts, hn] using h
      obtain ⟨e1, e2⟩ := toInts_sh hn t
      exact ⟨by rw [sh_int.mp r, e1]; rfl, by rw [e2]; rfl⟩
  | .none :: _, _, _, h, _ => by simp [toInts] at h
  | .bool _ :: _, _, _, h, _ => by simp [toInts] at h
  | .str _ :: _, _, _, h, _ => by simp [toInts] at h
  | .list _ :: _, _, _, h, _ => by simp [toInts] at h
  | .tuple _ :: _, _, _, h, _ => by simp [toInts] at h
  | .dict _ :: _, _, _, h, _ => by simp [toInts] at h
theorem toBls_sh {O : AP} {H : Hp} : ∀ {ds : List PyData} {ns : List Bool} {xs : List V}, toBls ds = some ns → ShA K O H xs ds → xs = ns.map V.bl
  | [], ns, _, h, .nil => by cases h; rfl
  | .bool i :: ds, ns, _, h, .cons r t => by
    cases hn : toBls ds with
    | none => simp [toBls, hn] at h
    | some ms =>
      obtain rfl : i :: ms = ns := by simpa [toBls, hn] using h
      rw [sh_bool.mp r, toBls_sh hn t]; rfl
  | .none :: _, _, _, h, _ => by simp [toBls] at h
  | .int _ :: _, _, _, h, _ => by simp [toBls] at h
  | .str _ :: _, _, _, h, _ => by simp [toBls] at h
  | .list _ :: _, _, _, h, _ => by simp [toBls] at h
  | .tuple _ :: _, _, _, h, _ => by simp [toBls] at h
  | .dict _ :: _, _, _, h, _ => by simp [toBls] at h

/-! tuples of ints in order: all four -/
theorem ints_at {its : List Value} {ns : List Int} (r : Vals (ns.map V.int) its) : ∀ (j : Nat) (h1 : j < its.toArray.size), ∃ t, its.toArray[j] = .int (ns.getD j 0) t := fun j h1 =>
  PyProof.Rows.IntsAre.int_at (Vals.ints r) _ _ (by simp at h1; simp [h1])

theorem lexAt_le (ns ms : List Int) : ∀ (k i : Nat), k = min ns.length ms.length - i → i ≤ min ns.length ms.length →
    Ob.lexAt (fun j => decide (ns.getD j 0 = ms.getD j 0)) (fun j => decide (ns.getD j 0 ≤ ms.getD j 0)) (decide (ns.length ≤ ms.length)) i k = lexLe (ns.drop i) (ms.drop i)
  | 0, i, h, hi => by
    rw [Ob.lexAt_zero]
    by_cases c : ns.length ≤ ms.length
    · have e : ns.drop i = [] := List.drop_eq_nil_of_le (by omega)
      rw [e, decide_eq_true c]; rfl
    · have e : ms.drop i = [] := List.drop_eq_nil_of_le (by omega)
      rw [e, decide_eq_false c]
      cases q : ns.drop i with
      | nil =>
        have := List.drop_eq_nil_iff.mp q
        omega
      | cons x xs => rfl
  | k + 1, i, h, hi => by
    have h1 : i < ns.length := by omega
    have h2 : i < ms.length := by omega
    rw [Ob.lexAt_succ, lexAt_le ns ms k (i + 1) (by omega) (by omega)]
    rw [List.drop_eq_getElem_cons h1, List.drop_eq_getElem_cons h2]
    have g1 : ns.getD i 0 = ns[i] := by simp [h1]
    have g2 : ms.getD i 0 = ms[i] := by simp [h2]
    rw [g1, g2]
    show _ = if ns[i] = ms[i] then lexLe _ _ else decide (ns[i] ≤ ms[i])
    by_cases c : ns[i] = ms[i]
    · rw [if_pos c, decide_eq_true c, if_pos rfl]
    · rw [if_neg c, decide_eq_false c, if_neg Bool.false_ne_true]
def rLeTt (K : PySem.W.Frag) : R2 := fun x y H Q => ∃ (a b : Addr) (ns ms : List Int), x = .ref a ∧ y = .ref b ∧ SqT K H a (ns.map V.int) ∧ SqT K H b (ms.map V.int) ∧ Q (.bl (lexLe ns ms)) H
def rGeTt (K : PySem.W.Frag) : R2 := fun x y H Q => ∃ (a b : Addr) (ns ms : List Int), x = .ref a ∧ y = .ref b ∧ SqT K H a (ns.map V.int) ∧ SqT K H b (ms.map V.int) ∧ Q (.bl (lexLe ms ns)) H
theorem o_leT (hu : X.A.units < cLine) : OpR X (compareOp .LtE) (rLeTt X.K) := by
  intro pins s σ H x y v u Q I rx ry h
  obtain ⟨a, b, ns, ms, h1, h2, h3, h4, q⟩ := h
  refine op_leT hu pins s σ H x y v u Q I rx ry ⟨a, b, ns, ms, h1, h2, h3, h4, ?_⟩
  rw [lexAt_le ns ms _ 0 (by omega) (by omega)]
  exact q
theorem o_geT (hu : X.A.units < cLine) : OpR X (compareOp .GtE) (rGeTt X.K) := by
  intro pins s σ H x y v u Q I rx ry h
  obtain ⟨a, b, ns, ms, rfl, rfl, ha, hb, q⟩ := h
  cases rx; cases ry
  obtain ⟨its, r1, p1, _⟩ := I.tuple ha
  obtain ⟨its2, r2, p2, _⟩ := I.tuple hb
  have e1 : its.toArray.size = ns.length := by rw [List.size_toArray]; exact (Vals.ints r1).length
  have e2 : its2.toArray.size = ms.length := by rw [List.size_toArray]; exact (Vals.ints r2).length
  have R := Ob.RcOp.tuples_ge (A := X.A) (s := s) (e := fun j => decide (ms.getD j 0 = ns.getD j 0)) (r := fun j => decide (ms.getD j 0 ≤ ns.getD j 0)) p1 p2 hu (fun j h1 h2 => by
    obtain ⟨t, et⟩ := ints_at r1 j h1
    obtain ⟨t', et'⟩ := ints_at r2 j h2
    rw [et, et']
    have z : (ns.getD j 0 == ms.getD j 0) = decide (ms.getD j 0 = ns.getD j 0) := by
      by_cases c : ms.getD j 0 = ns.getD j 0
      · rw [decide_eq_true c]; exact beq_iff_eq.mpr c.symm
      · rw [decide_eq_false c]; exact beq_eq_false_iff_ne.mpr fun z => c z.symm
    rw [← z]
    exact SeqAt.EqAt.int_int _ _ _ _) (fun j h1 h2 _ => by
    obtain ⟨t, et⟩ := ints_at r1 j h1
    obtain ⟨t', et'⟩ := ints_at r2 j h2
    rw [et, et']
    exact Ob.RcOp.ge_int _ _ _ _)
  rw [e1, e2] at R
  have z : wpAny (model X.prog X.w) X.A (compareOp .GtE (.ref a) (.ref b)) (EP X pins σ Q) X.xe s := R X.prog X.w X.xe (EP X pins σ Q) ⟨.bl _, H, I, rfl, (by
    have c : decide (ns.length ≥ ms.length) = decide (ms.length ≤ ns.length) := rfl
    rw [c, Nat.min_comm, lexAt_le ms ns _ 0 (by omega) (by omega)]
    exact q)⟩
  exact z
def rLtAll (K : PySem.W.Frag) : R2 := fun x y H Q => (rI0 fun i j => .bl (decide (i < j))) x y H Q ∨ rLtT K x y H Q
def rLeAll (K : PySem.W.Frag) : R2 := fun x y H Q => (rI0 fun i j => .bl (decide (i ≤ j))) x y H Q ∨ rLeTt K x y H Q
def rGeAll (K : PySem.W.Frag) : R2 := fun x y H Q => (rI0 fun i j => .bl (decide (j ≤ i))) x y H Q ∨ rGeTt K x y H Q
theorem o_lt (hu : X.A.units < cLine) : OpR X (compareOp .Lt) (rLtAll X.K) := op_lt.or (op_ltT hu)
theorem o_le (hu : X.A.units < cLine) : OpR X (compareOp .LtE) (rLeAll X.K) := op_le.or (o_leT hu)
theorem o_ge (hu : X.A.units < cLine) : OpR X (compareOp .GtE) (rGeAll X.K) := op_ge.or (o_geT hu)
/-- two ints, or two tuples of ints -/
theorem cmp_inv {o : Op} {a b : PyData} {c : Bool} (h : cmpD o a b = some c) :
    (∃ i j, a = .int i ∧ b = .int j) ∨ ∃ xs ys ns ms, a = .tuple xs ∧ b = .tuple ys ∧ toInts xs = some ns ∧ toInts ys = some ms := by
  unfold cmpD at h
  split at h
  · exact .inl ⟨_, _, rfl, rfl⟩
  · split at h
    · exact .inr ⟨_, _, _, _, rfl, rfl, by assumption, by assumption⟩
    · cases h
  · cases h
theorem v_cmp {o : Op} {r : R2} (hI : ∀ (i j : Int) (b : Bool) (H : Hp) (Q : VK), cmpD o (.int i) (.int j) = some b → Q (.bl b) H → r (.int i) (.int j) H Q)
    (hT : ∀ (a b : Addr) (ns ms : List Int) (c : Bool) (H : Hp) (Q : VK), cmpD o (.tuple (ns.map .int)) (.tuple (ms.map .int)) = some c → SqT K H a (ns.map V.int) → SqT K H b (ms.map V.int) → Q (.bl c) H → r (.ref a) (.ref b) H Q) : OpV K (V2 r) (cmpR o) := by
  intro O H vs ds z Q hp hz hQ
  unfold cmpR at hz
  split at hz
  · rename_i a b
    obtain ⟨x, y, rfl, h1, h2⟩ := p2 hp
    cases hc : cmpD o a b with
    | none => rw [hc] at hz; cases hz
    | some c =>
      rw [hc] at hz
      cases hz
      have fin : Q (.bl c) H := fin_v hQ (sh_bool.mpr rfl)
      rcases cmp_inv hc with ⟨i, j, rfl, rfl⟩ | ⟨xs, ys, ns, ms, rfl, rfl, e1, e2⟩
      · rw [t_int h1, t_int h2]
        exact ⟨_, _, rfl, hI i j c H Q hc fin⟩
      · obtain ⟨a, us, rfl, g1, _, s1⟩ := t_tup h1
        obtain ⟨b, ws, rfl, g2, _, s2⟩ := t_tup h2
        obtain ⟨q1, q1'⟩ := toInts_sh e1 s1
        obtain ⟨q2, q2'⟩ := toInts_sh e2 s2
        subst q1 q2
        rw [q1', q2'] at hc
        exact ⟨_, _, rfl, hT a b ns ms c H Q hc g1 g2 fin⟩
  · cases hz
theorem toInts_map : ∀ ns : List Int, toInts (ns.map .int) = some ns
  | [] => rfl
  | n :: ns => by show (toInts (ns.map .int)).map (n :: ·) = _; rw [toInts_map ns]; rfl
theorem v_lt : OpV K (V2 (rLtAll K)) (cmpR .lt) := v_cmp (fun i j b H Q h q => .inl ⟨i, j, rfl, rfl, by cases h; exact q⟩) fun a b ns ms c H Q h g1 g2 q => .inr ⟨a, b, ns, ms, rfl, rfl, g1, g2, by
  simp only [cmpD, toInts_map] at h
  cases h; exact q⟩
theorem v_le : OpV K (V2 (rLeAll K)) (cmpR .le) := v_cmp (fun i j b H Q h q => .inl ⟨i, j, rfl, rfl, by cases h; exact q⟩) fun a b ns ms c H Q h g1 g2 q => .inr ⟨a, b, ns, ms, rfl, rfl, g1, g2, by
  simp only [cmpD, toInts_map] at h
  cases h; exact q⟩
theorem v_ge : OpV K (V2 (rGeAll K)) (cmpR .ge) := v_cmp (fun i j b H Q h q => .inl ⟨i, j, rfl, rfl, by cases h; exact q⟩) fun a b ns ms c H Q h g1 g2 q => .inr ⟨a, b, ns, ms, rfl, rfl, g1, g2, by
  simp only [cmpD, toInts_map] at h
  cases h; exact q⟩
theorem v_gt : OpV K (V2 (rI0 fun i j => .bl (decide (j < i)))) (cmpR .gt) := v_cmp (fun i j b H Q h q => ⟨i, j, rfl, rfl, by cases h; exact q⟩) fun a b ns ms c H Q h g1 g2 q => by
  simp only [cmpD, toInts_map] at h
  cases h

/-! is None -/
theorem v_isN : OpV K (V1 fun x H Q => Q (.bl (decide (x = .non))) H) isND := by
  intro O H vs ds z Q hp hz hQ
  unfold isND at hz
  split at hz
  · rename_i a
    obtain ⟨x, rfl, h1⟩ := p1 hp
    cases hz
    refine ⟨x, rfl, fin_v hQ (sh_bool.mpr ?_)⟩
    cases a with
    | none => rw [t_none h1]; rfl
    | bool b => rw [t_bool h1]; rfl
    | int i => rw [t_int h1]; rfl
    | str s => rw [t_str h1]; rfl
    | list ds => obtain ⟨a, xs, rfl, _⟩ := t_list h1; rfl
    | tuple ds => obtain ⟨a, xs, rfl, _⟩ := t_tup h1; rfl
    | dict kvs => obtain ⟨a, o, rfl, _⟩ := t_dict h1; rfl
  · cases hz
theorem v_notN : OpV K (V1 fun x H Q => Q (.bl (!decide (x = .non))) H) notND := by
  intro O H vs ds z Q hp hz hQ
  unfold notND at hz
  split at hz
  · rename_i a
    obtain ⟨x, rfl, h1⟩ := p1 hp
    cases hz
    refine ⟨x, rfl, fin_v hQ (sh_bool.mpr ?_)⟩
    cases a with
    | none => rw [t_none h1]; rfl
    | bool b => rw [t_bool h1]; rfl
    | int i => rw [t_int h1]; rfl
    | str s => rw [t_str h1]; rfl
    | list ds => obtain ⟨a, xs, rfl, _⟩ := t_list h1; rfl
    | tuple ds => obtain ⟨a, xs, rfl, _⟩ := t_tup h1; rfl
    | dict kvs => obtain ⟨a, o, rfl, _⟩ := t_dict h1; rfl
  · cases hz

/-! dicts, asked -/
theorem toKey_sh {O : AP} {H : Hp} {d : PyData} {k : Key} {v : V} (h : toKey d = some k) (s : Sh K O H v d) : v = kV k ∧ d = keyD k := by
  cases d with
  | int i => cases h; exact ⟨sh_int.mp s, rfl⟩
  | str i => cases h; exact ⟨sh_str.mp s, rfl⟩
  | none => cases h
  | bool b => cases h
  | list ds => cases h
  | tuple ds => cases h
  | dict kvs => cases h
theorem toKeys_sh {O : AP} {H : Hp} : ∀ {ds : List PyData} {ks : List Key} {vs : List V}, toKeys ds = some ks → ShA K O H vs ds → vs = ks.map kV ∧ ds = ks.map keyD
  | [], ks, _, h, .nil => by cases h; exact ⟨rfl, rfl⟩
  | d :: ds, ks, _, h, .cons r t => by
    cases h1 : toKey d with
    | none => simp [toKeys, h1] at h
    | some k =>
      cases h2 : toKeys ds with
      | none => simp [toKeys, h1, h2] at h
      | some ks' =>
        obtain rfl : k :: ks' = ks := by simpa [toKeys, h1, h2] using h
        obtain ⟨e1, e2⟩ := toKey_sh h1 r
        obtain ⟨e3, e4⟩ := toKeys_sh h2 t
        exact ⟨by rw [e1, e3]; rfl, by rw [e2, e4]; rfl⟩
theorem keyD_inj {a b : Key} (h : keyD a = keyD b) : a = b := by
  cases a <;> cases b <;> simp [keyD] at h <;> rw [h]
theorem keyT_inj {a b : List Key} (h : keyT a = keyT b) : a = b := by
  have h' : a.map keyD = b.map keyD := by simpa [keyT] using h
  exact (List.map_inj_right (fun x y => keyD_inj)).mp h'
open Classical in
theorem look_rel {κ : Type} [DecidableEq κ] {O : AP} {H : Hp} {f : κ → PyData} (inj : ∀ a b, f a = f b → a = b) {k : κ} : ∀ {ks : List (κ × V)} {kvs : List (PyData × PyData)},
    Paired (fun p q => q.1 = f p.1 ∧ Sh K O H p.2 q.2) ks kvs → (valV ks k = none ∧ look kvs (f k) = none) ∨ ∃ v d, valV ks k = some v ∧ look kvs (f k) = some d ∧ Sh K O H v d
  | _, _, .nil => .inl ⟨rfl, rfl⟩
  | _, _, @Paired.cons _ _ _ p q ks kvs r t => by
    unfold valV look
    rw [List.find?_cons, List.find?_cons]
    by_cases c : p.1 = k
    · have c' : q.1 = f k := by rw [r.1, c]
      rw [decide_eq_true c, decide_eq_true c']
      exact .inr ⟨_, _, rfl, rfl, r.2⟩
    · have c' : ¬ q.1 = f k := fun z => c (inj _ _ (by rw [← r.1, z]))
      rw [decide_eq_false c, decide_eq_false c']
      exact look_rel inj t
/-- the dict at a, asked for the key y -/
theorem dget_of {O : AP} {H : Hp} {a : Addr} {t : Bool} {o : HO} {kvs : List (PyData × PyData)} {y : V} {k : PyData} (ho : H a = some o) (h : DcT K O H t o kvs) (hk : keyOk t k = true) (hy : Sh K O H y k) :
    (DGet H a y none ∧ look kvs k = none) ∨ ∃ v d, DGet H a y (some v) ∧ look kvs k = some d ∧ Sh K O H v d := by
  cases t with
  | false =>
    obtain ⟨ks, rfl, q⟩ := h
    cases hk' : toKey k with
    | none => simp [keyOk, hk'] at hk
    | some kk =>
      obtain ⟨e1, e2⟩ := toKey_sh hk' hy
      subst e1 e2
      rcases look_rel (K := K) (fun _ _ => keyD_inj) (k := kk) q with ⟨z1, z2⟩ | ⟨v, d, z1, z2, z3⟩
      · exact .inl ⟨by rw [← z1]; exact DGet.k ho, z2⟩
      · exact .inr ⟨v, d, by rw [← z1]; exact DGet.k ho, z2, z3⟩
  | true =>
    obtain ⟨ks, rfl, q⟩ := h
    cases k with
    | tuple ds =>
      cases hk' : toKeys ds with
      | none => simp [keyOk, hk'] at hk
      | some kk =>
        obtain ⟨b, xs, rfl, ht, _, sx⟩ := sh_tuple.mp hy
        obtain ⟨e1, e2⟩ := toKeys_sh hk' sx
        subst e1 e2
        rcases look_rel (K := K) (fun _ _ => keyT_inj) (k := kk) q with ⟨z1, z2⟩ | ⟨v, d, z1, z2, z3⟩
        · exact .inl ⟨by rw [← z1]; exact DGet.t ho ht, z2⟩
        · exact .inr ⟨v, d, by rw [← z1]; exact DGet.t ho ht, z2, z3⟩
    | none => simp [keyOk] at hk
    | bool b => simp [keyOk] at hk
    | int i => simp [keyOk] at hk
    | str s => simp [keyOk] at hk
    | list ds => simp [keyOk] at hk
    | dict kvs => simp [keyOk] at hk

/-! in, not in -/
def rInT (K : PySem.W.Frag) : R2 := fun x y H Q => ∃ d ds, Dp K H x d ∧ Dp K H y (.tuple ds) ∧ SeqAt.shaped d = true ∧ SeqAt.shaped (.tuple ds) = true ∧ Q (.bl (ds.any fun z => PyData.eqv z d)) H
def rNotInT (K : PySem.W.Frag) : R2 := fun x y H Q => ∃ d ds, Dp K H x d ∧ Dp K H y (.tuple ds) ∧ SeqAt.shaped d = true ∧ SeqAt.shaped (.tuple ds) = true ∧ Q (.bl (!ds.any fun z => PyData.eqv z d)) H
theorem roomD {A : Around} {xs : List PyData} {d : PyData} (hd : SeqAt.shaped d = true) (hu : A.units + 65 < cLine) : A.units + 1 + min (PyData.depthAll xs) d.depth < cLine := by
  have h : d.canLay0 = true ∧ d.depth ≤ 64 := by simpa [SeqAt.shaped] using hd
  have := Nat.min_le_right (PyData.depthAll xs) d.depth
  omega
theorem o_inT (hu : X.A.units + 65 < cLine) : OpR X (compareOp .In) (rInT X.K) := by
  intro pins s σ H x y v u Q I rx ry h
  obtain ⟨d, ds, hd, he, sd, se, q⟩ := h
  obtain ⟨as, r1⟩ := Dp.reads I d x v hd rx
  obtain ⟨bs, r2⟩ := Dp.reads I (.tuple ds) y u he ry
  exact SeqAt.in_tuple_reads r2 r1 (by simpa [PyData.canLay0] using SeqAt.canLay_of_shaped se) (SeqAt.canLay_of_shaped sd) (roomD sd hu) ⟨.bl _, H, I, rfl, q⟩
theorem o_notInT (hu : X.A.units + 65 < cLine) : OpR X (compareOp .NotIn) (rNotInT X.K) := by
  intro pins s σ H x y v u Q I rx ry h
  obtain ⟨d, ds, hd, he, sd, se, q⟩ := h
  obtain ⟨as, r1⟩ := Dp.reads I d x v hd rx
  obtain ⟨bs, r2⟩ := Dp.reads I (.tuple ds) y u he ry
  exact SeqAt.notIn_tuple_reads r2 r1 (by simpa [PyData.canLay0] using SeqAt.canLay_of_shaped se) (SeqAt.canLay_of_shaped sd) (roomD sd hu) ⟨.bl _, H, I, rfl, q⟩
def rInDc : R2 := fun x y H Q => ∃ a o, y = .ref a ∧ DGet H a x o ∧ Q (.bl o.isSome) H
def rNotInDc : R2 := fun x y H Q => ∃ a o, y = .ref a ∧ DGet H a x o ∧ Q (.bl (!o.isSome)) H
theorem o_inDc (hu : X.A.units + 65 < cLine) : OpR X (compareOp .In) rInDc := by
  intro pins s σ H x y v u Q I rx ry h
  obtain ⟨a, o, rfl, g, q⟩ := h
  cases ry
  exact d_in (by omega) I g rx fun s3 I3 => ⟨.bl o.isSome, H, I3, rfl, q⟩
theorem o_notInDc (hu : X.A.units + 65 < cLine) : OpR X (compareOp .NotIn) rNotInDc := by
  intro pins s σ H x y v u Q I rx ry h
  obtain ⟨a, o, rfl, g, q⟩ := h
  cases ry
  exact d_notIn (by omega) I g rx fun s3 I3 => ⟨.bl (!o.isSome), H, I3, rfl, q⟩
def rInAll (K : PySem.W.Frag) : R2 := fun x y H Q => (rInD K x y H Q ∨ rInT K x y H Q) ∨ rInDc x y H Q
def rNotInAll (K : PySem.W.Frag) : R2 := fun x y H Q => (rNotInD K x y H Q ∨ rNotInT K x y H Q) ∨ rNotInDc x y H Q
theorem o_in (hu : X.A.units + 65 < cLine) : OpR X (compareOp .In) (rInAll X.K) := ((op_inD hu).or (o_inT hu)).or (o_inDc hu)
theorem o_notin (hu : X.A.units + 65 < cLine) : OpR X (compareOp .NotIn) (rNotInAll X.K) := ((op_notInD hu).or (o_notInT hu)).or (o_notInDc hu)
/-- a key is flat data -/
theorem key_sh {O : AP} {H : Hp} {t : Bool} {k : PyData} {y : V} (hk : keyOk t k = true) (h : ShT K O H y k) : Sh K O H y k := by
  cases k with
  | list ds => cases t <;> simp [keyOk, toKey] at hk
  | dict kvs => cases t <;> simp [keyOk, toKey] at hk
  | none => exact h
  | bool b => exact h
  | int i => exact h
  | str s => exact h
  | tuple ds => exact h
theorem keyOk_td (k : Key) : keyOk true (keyD k) = false := by cases k <;> rfl
theorem keyOk_ft (k : List Key) : keyOk false (keyT k) = false := rfl
/-- a dict that is not empty shows its kind -/
theorem dkOk_t {O : AP} {H : Hp} {o : HO} {kvs : List (PyData × PyData)} {k : PyData} (h : dkOk kvs k = true) (hd : DcIs K O H o kvs) : ∃ t, DcT K O H t o kvs ∧ keyOk t k = true := by
  have h' : kvs.isEmpty = false ∧ (keysK kvs = true ∧ keyOk false k = true ∨ keysT kvs = true ∧ keyOk true k = true) := by simpa [dkOk] using h
  rcases hd with hd | hd
  · refine ⟨false, hd, ?_⟩
    rcases h'.2 with z | z
    · exact z.2
    · obtain ⟨ks, _, q⟩ := hd
      cases q with
      | nil => simp at h'
      | cons r _ =>
        have zz := z.1
        simp only [keysT, List.all_cons, Bool.and_eq_true] at zz
        have z1 := zz.1
        rw [r.1, keyOk_td] at z1
        cases z1
  · refine ⟨true, hd, ?_⟩
    rcases h'.2 with z | z
    · obtain ⟨ks, _, q⟩ := hd
      cases q with
      | nil => simp at h'
      | cons r _ =>
        have zz := z.1
        simp only [keysK, List.all_cons, Bool.and_eq_true] at zz
        have z1 := zz.1
        rw [r.1, keyOk_ft] at z1
        cases z1
    · exact z.2
theorem has_in {O : AP} {H : Hp} {a b : PyData} {x y : V} {c : Bool} {Q : VK} (h : hasD a b = some c) (h1 : ShT K O H x a) (h2 : ShT K O H y b) (q : Q (.bl c) H) : rInAll K x y H Q := by
  unfold hasD at h
  split at h
  · split at h
    · rename_i hl
      cases h
      exact .inl (.inl ⟨_, _, h1.dp (nod_shaped hl.1), h2.dp (nod_shaped hl.2), hl.1, hl.2, q⟩)
    · cases h
  · split at h
    · rename_i hl
      cases h
      exact .inl (.inr ⟨_, _, h1.dp (nod_shaped hl.1), h2.dp (nod_shaped hl.2), hl.1, hl.2, q⟩)
    · cases h
  · split at h
    · rename_i hl
      cases h
      obtain ⟨p, o, rfl, ho, hd⟩ := t_dict h2
      obtain ⟨t, hd', hk⟩ := dkOk_t hl hd
      rcases dget_of ho hd' hk (key_sh hk h1) with ⟨z1, z2⟩ | ⟨v, d, z1, z2, _⟩
      · exact .inr ⟨p, _, rfl, z1, by rw [z2] at q; exact q⟩
      · exact .inr ⟨p, _, rfl, z1, by rw [z2] at q; exact q⟩
    · cases h
  · cases h
theorem has_notin {O : AP} {H : Hp} {a b : PyData} {x y : V} {c : Bool} {Q : VK} (h : hasD a b = some c) (h1 : ShT K O H x a) (h2 : ShT K O H y b) (q : Q (.bl (!c)) H) : rNotInAll K x y H Q := by
  unfold hasD at h
  split at h
  · split at h
    · rename_i hl
      cases h
      exact .inl (.inl ⟨_, _, h1.dp (nod_shaped hl.1), h2.dp (nod_shaped hl.2), hl.1, hl.2, q⟩)
    · cases h
  · split at h
    · rename_i hl
      cases h
      exact .inl (.inr ⟨_, _, h1.dp (nod_shaped hl.1), h2.dp (nod_shaped hl.2), hl.1, hl.2, q⟩)
    · cases h
  · split at h
    · rename_i hl
      cases h
      obtain ⟨p, o, rfl, ho, hd⟩ := t_dict h2
      obtain ⟨t, hd', hk⟩ := dkOk_t hl hd
      rcases dget_of ho hd' hk (key_sh hk h1) with ⟨z1, z2⟩ | ⟨v, d, z1, z2, _⟩
      · exact .inr ⟨p, _, rfl, z1, by rw [z2] at q; exact q⟩
      · exact .inr ⟨p, _, rfl, z1, by rw [z2] at q; exact q⟩
    · cases h
  · cases h
theorem v_in : OpV K (V2 (rInAll K)) inD := by
  intro O H vs ds z Q hp hz hQ
  unfold inD at hz
  split at hz
  · rename_i a b
    obtain ⟨x, y, rfl, h1, h2⟩ := p2 hp
    cases hc : hasD a b with
    | none => rw [hc] at hz; cases hz
    | some c =>
      rw [hc] at hz
      cases hz
      exact ⟨x, y, rfl, has_in hc h1 h2 (fin_v hQ (sh_bool.mpr rfl))⟩
  · cases hz
theorem v_notin : OpV K (V2 (rNotInAll K)) notinD := by
  intro O H vs ds z Q hp hz hQ
  unfold notinD at hz
  split at hz
  · rename_i a b
    obtain ⟨x, y, rfl, h1, h2⟩ := p2 hp
    cases hc : hasD a b with
    | none => rw [hc] at hz; cases hz
    | some c =>
      rw [hc] at hz
      cases hz
      exact ⟨x, y, rfl, has_notin hc h1 h2 (fin_v hQ (sh_bool.mpr rfl))⟩
  · cases hz
end
end PV

/-! PV.6: more operations by values -/
namespace PV
open PySem PySem.Spec L2

section
variable {X : Cx} {K : PySem.W.Frag}
/-! items -/
def rIxDc : R2 := fun x y H Q => ∃ a v, x = .ref a ∧ DGet H a y (some v) ∧ Q v H
theorem ix_dc (hu : X.A.units + 65 < cLine) : IxR X rIxDc := by
  intro value slice pins s σ H x y v u Q I rx ry h hs
  obtain ⟨a, w, rfl, g, q⟩ := h
  cases rx
  exact PyProof.Rows.tail_any (dict_typeIs I g) PySem.F.slot_dict_getitem.lookup (d_getItem (by omega) I g ry fun w' s3 I3 rw' => ⟨w, H, I3, rw', q⟩) hs
def rIxAll (K : PySem.W.Frag) : R2 := fun x y H Q => (rIxL K x y H Q ∨ rIxT K x y H Q) ∨ rIxDc x y H Q
theorem ix_all (hu : X.A.units + 65 < cLine) : IxR X (rIxAll X.K) := (ix_list.or ix_tup).or (ix_dc hu)
theorem pick_sh {O : AP} {H : Hp} {xs : List V} {ds : List PyData} {i : Int} {d : PyData} (h : ShA K O H xs ds) (hp : pick ds i = some d) : ∃ v, atI xs i = some v ∧ Sh K O H v d := by
  unfold pick atI at hp
  unfold atI
  rw [Paired.len h]
  cases hx : ixN ds.length i with
  | none => rw [hx] at hp; cases hp
  | some j =>
    rw [hx] at hp
    obtain ⟨v, e, s⟩ := Paired.get h (show ds[j]? = some d from hp)
    exact ⟨v, e, s⟩
theorem v_idx : OpV K (V2 (rIxAll K)) idxD := by
  intro O H vs ds z Q hp hz hQ
  unfold idxD at hz
  split at hz
  · obtain ⟨x, y, rfl, h1, h2⟩ := p2 hp
    rename_i xs i
    cases hc : pick xs i with
    | none => rw [hc] at hz; cases hz
    | some d =>
      rw [hc] at hz; cases hz
      obtain ⟨a, us, rfl, g, _, s⟩ := t_list h1
      obtain ⟨v, e, sv⟩ := pick_sh s hc
      exact ⟨_, _, rfl, .inl (.inl ⟨a, us, i, v, rfl, t_int h2, SqL.of g, e, fin_v hQ sv⟩)⟩
  · obtain ⟨x, y, rfl, h1, h2⟩ := p2 hp
    rename_i xs i
    cases hc : pick xs i with
    | none => rw [hc] at hz; cases hz
    | some d =>
      rw [hc] at hz; cases hz
      obtain ⟨a, us, rfl, g, _, s⟩ := t_tup h1
      obtain ⟨v, e, sv⟩ := pick_sh s hc
      exact ⟨_, _, rfl, .inl (.inr ⟨a, us, i, v, rfl, t_int h2, g, e, fin_v hQ sv⟩)⟩
  · obtain ⟨x, y, rfl, h1, h2⟩ := p2 hp
    split at hz
    · rename_i kvs k hk
      cases hc : look kvs k with
      | none => rw [hc] at hz; cases hz
      | some d =>
        rw [hc] at hz; cases hz
        obtain ⟨p, o, rfl, ho, hd⟩ := t_dict h1
        obtain ⟨t, hd', hk'⟩ := dkOk_t hk hd
        rcases dget_of ho hd' hk' (key_sh hk' h2) with ⟨_, z2⟩ | ⟨v, d', z1, z2, z3⟩
        · rw [hc] at z2; cases z2
        · rw [hc] at z2; cases z2
          exact ⟨_, y, rfl, .inr ⟨p, v, rfl, z1, fin_v hQ z3⟩⟩
    · cases hz
  · cases hz

/-! slices -/
def rSlAll (K : PySem.W.Frag) : V → Option Int → Option Int → Hp → VK → Prop := fun x lo hi H Q => rSlL K x lo hi H Q ∨ rSlA K x lo hi H Q
theorem sl_all : SlR X (rSlAll X.K) := sl_list.or sl_tupA
theorem cut_sh {O : AP} {H : Hp} {xs : List V} {ds : List PyData} (h : ShA K O H xs ds) (lo hi : Option Int) : ShA K O H (cutV xs lo hi) (cutD ds lo hi) := by
  unfold cutV cutD
  rw [Paired.len h]
  exact Paired.tk (Paired.dr h _) _
theorem cut_list {O : AP} {H : Hp} {x : V} {ds : List PyData} {lo hi : Option Int} {Q : VK} (h : ShT K O H x (.list ds))
    (hQ : ∀ v H' F, Keep (fun _ => False) H H' → (∀ p ∈ F, H p = none ∧ H' p ≠ none) → RO K (plus O F) H' v F (.fl (cutD ds lo hi)) → Q v H') : rSlAll K x lo hi H Q := by
  obtain ⟨a, xs, rfl, g, z, s⟩ := t_list h
  exact .inl ⟨a, xs, rfl, SqL.of g, fin_l hQ (Nat.le_trans (cutV_length _ _ _) z) (cut_sh s lo hi)⟩
theorem cut_all {α : Type} {xs : List α} {lo hi : Option Int} (h : HT.sIx xs.length 0 lo = 0 ∧ HT.sIx xs.length xs.length hi = xs.length) : cutD xs lo hi = xs := by
  unfold cutD
  rw [h.1, h.2, List.drop_zero, Nat.sub_zero, List.take_length]
theorem cut_tup {O : AP} {H : Hp} {x : V} {ds : List PyData} {lo hi : Option Int} {Q : VK} (h : ShT K O H x (.tuple ds))
    (hQ : ∀ v H' F, Keep (fun _ => False) H H' → (∀ p ∈ F, H p = none ∧ H' p ≠ none) → RO K (plus O F) H' v F (.v (.tuple (cutD ds lo hi))) → Q v H') : rSlAll K x lo hi H Q := by
  obtain ⟨a, xs, rfl, g, z, s⟩ := t_tup h
  refine .inr ⟨a, xs, rfl, g, fun e => ?_, fun _ => fin_t hQ (Nat.le_trans (cutV_length _ _ _) z) (cut_sh s lo hi)⟩
  refine fin_v hQ ?_
  rw [cut_all (by rw [← Paired.len s]; exact e)]
  exact t_tup' h
/-- the parts as they come: what is written stands -/
def V3s (lo hi : Bool) (r : V → Option Int → Option Int → Hp → VK → Prop) : List V → Hp → VK → Prop := fun vs H Q => match lo, hi with
  | false, false => ∃ x, vs = [x] ∧ r x none none H Q
  | true, false => ∃ x i, vs = [x, .int i] ∧ r x (some i) none H Q
  | false, true => ∃ x i, vs = [x, .int i] ∧ r x none (some i) H Q
  | true, true => ∃ x i j, vs = [x, .int i, .int j] ∧ r x (some i) (some j) H Q
theorem v_sl (lo hi : Bool) : OpV K (V3s lo hi (rSlAll K)) (slD lo hi) := by
  intro O H vs ds z Q hp hz hQ
  unfold slD at hz
  split at hz
  · obtain ⟨x, rfl, h1⟩ := p1 hp
    split at hz
    · rename_i hl
      obtain ⟨rfl, rfl⟩ := hl
      cases hz
      exact ⟨x, rfl, cut_list h1 hQ⟩
    · cases hz
  · obtain ⟨x, rfl, h1⟩ := p1 hp
    split at hz
    · rename_i hl
      obtain ⟨rfl, rfl⟩ := hl
      cases hz
      exact ⟨x, rfl, cut_tup h1 hQ⟩
    · cases hz
  · obtain ⟨x, y, rfl, h1, h2⟩ := p2 hp
    rw [t_int h2]
    split at hz
    · rename_i hl
      obtain ⟨rfl, rfl⟩ := hl
      cases hz
      exact ⟨x, _, rfl, cut_list h1 hQ⟩
    · split at hz
      · rename_i hl
        obtain ⟨rfl, rfl⟩ := hl
        cases hz
        exact ⟨x, _, rfl, cut_list h1 hQ⟩
      · cases hz
  · obtain ⟨x, y, rfl, h1, h2⟩ := p2 hp
    rw [t_int h2]
    split at hz
    · rename_i hl
      obtain ⟨rfl, rfl⟩ := hl
      cases hz
      exact ⟨x, _, rfl, cut_tup h1 hQ⟩
    · split at hz
      · rename_i hl
        obtain ⟨rfl, rfl⟩ := hl
        cases hz
        exact ⟨x, _, rfl, cut_tup h1 hQ⟩
      · cases hz
  · obtain ⟨x, y, w, rfl, h1, h2, h3⟩ := p3 hp
    rw [t_int h2, t_int h3]
    split at hz
    · rename_i hl
      obtain ⟨rfl, rfl⟩ := hl
      cases hz
      exact ⟨x, _, _, rfl, cut_list h1 hQ⟩
    · cases hz
  · obtain ⟨x, y, w, rfl, h1, h2, h3⟩ := p3 hp
    rw [t_int h2, t_int h3]
    split at hz
    · rename_i hl
      obtain ⟨rfl, rfl⟩ := hl
      cases hz
      exact ⟨x, _, _, rfl, cut_tup h1 hQ⟩
    · cases hz
  · cases hz

/-! calls of built-ins -/
def VC (r : List V → Hp → VK → Prop) : List V → Hp → VK → Prop := r
theorem v_len : OpV K (fun xs H Q => ∃ x n, xs = [x] ∧ LenV K x H n ∧ Q (.int n) H) lenD := by
  intro O H vs ds z Q hp hz hQ
  unfold lenD at hz
  split at hz
  · obtain ⟨x, rfl, h1⟩ := p1 hp
    cases hz
    obtain ⟨a, xs, rfl, g, _, s⟩ := t_list h1
    exact ⟨_, _, rfl, .inl ⟨xs, SqL.of g, rfl⟩, by rw [Paired.len s]; exact fin_v hQ (sh_int.mpr rfl)⟩
  · obtain ⟨x, rfl, h1⟩ := p1 hp
    cases hz
    obtain ⟨a, xs, rfl, g, _, s⟩ := t_tup h1
    exact ⟨_, _, rfl, .inr ⟨xs, g, rfl⟩, by rw [Paired.len s]; exact fin_v hQ (sh_int.mpr rfl)⟩
  · obtain ⟨x, rfl, h1⟩ := p1 hp
    split at hz
    · rename_i hl
      rw [LIM_eq] at hl
      cases hz
      rw [t_str h1]
      exact ⟨_, _, rfl, ⟨hl, rfl⟩, fin_v hQ (sh_int.mpr rfl)⟩
    · cases hz
  · cases hz
theorem v_tuple : OpV K (fun xs H Q => ∃ p ys, xs = [.ref p] ∧ ((SqL K H p ys ∧ ∀ l, H l = none → Q (.ref l) (upd H l (.tup ys))) ∨ (SqT K H p ys ∧ Q (.ref p) H))) tupleD := by
  intro O H vs ds z Q hp hz hQ
  unfold tupleD at hz
  split at hz
  · obtain ⟨x, rfl, h1⟩ := p1 hp
    cases hz
    obtain ⟨a, xs, rfl, g, zl, s⟩ := t_list h1
    exact ⟨a, xs, rfl, .inl ⟨SqL.of g, fin_t hQ zl s⟩⟩
  · obtain ⟨x, rfl, h1⟩ := p1 hp
    cases hz
    obtain ⟨a, xs, rfl, g, zl, s⟩ := t_tup h1
    exact ⟨a, xs, rfl, .inr ⟨g, fin_v hQ (t_tup' h1)⟩⟩
  · cases hz
theorem v_list : OpV K (fun xs H Q => ∃ p ys, xs = [.ref p] ∧ (SqL K H p ys ∨ SqT K H p ys) ∧ ∀ l, H l = none → Q (.ref l) (upd H l (.lst ys))) listD := by
  intro O H vs ds z Q hp hz hQ
  unfold listD at hz
  split at hz
  · obtain ⟨x, rfl, h1⟩ := p1 hp
    cases hz
    obtain ⟨a, xs, rfl, g, zl, s⟩ := t_list h1
    exact ⟨a, xs, rfl, .inl (SqL.of g), fin_l hQ zl s⟩
  · obtain ⟨x, rfl, h1⟩ := p1 hp
    cases hz
    obtain ⟨a, xs, rfl, g, zl, s⟩ := t_tup h1
    exact ⟨a, xs, rfl, .inr g, fin_l hQ zl s⟩
  · cases hz
theorem rg_sh {O : AP} {H : Hp} {f : Nat → Int} : ∀ l : List Nat, ShA K O H (l.map fun i => V.int (f i)) (l.map fun i => PyData.int (f i))
  | [] => .nil
  | _ :: l => .cons (sh_int.mpr rfl) (rg_sh l)
theorem v_lrng : OpV K (V1 fun x H Q => ∃ n, x = .int n ∧ RgOk 0 n ∧ ∀ q, H q = none → Q (.ref q) (upd H q (.lst (rgV 0 n)))) lrngD := by
  intro O H vs ds z Q hp hz hQ
  unfold lrngD at hz
  split at hz
  · obtain ⟨x, rfl, h1⟩ := p1 hp
    split at hz
    · rename_i n hl
      cases hz
      have hs : sizeLine = 16777216 := sizeLine_eq
      have e : rgV 0 n = (List.range n.toNat).map fun (i : Nat) => V.int (0 + (i : Int)) := by unfold rgV; rw [Int.sub_zero]
      refine ⟨x, rfl, n, t_int h1, RgOk.of_le (by omega) (by omega) (by omega) (by omega), ?_⟩
      rw [e]
      exact fin_l hQ (by simp; omega) (rg_sh _)
    · cases hz
  · cases hz
theorem v_abs : OpV K (fun xs H Q => ∃ i, xs = [.int i] ∧ Q (.int (if i < 0 then -i else i)) H) absD := by
  intro O H vs ds z Q hp hz hQ
  unfold absD at hz
  split at hz
  · obtain ⟨x, rfl, h1⟩ := p1 hp
    cases hz
    rw [t_int h1]
    exact ⟨_, rfl, fin_v hQ (sh_int.mpr rfl)⟩
  · cases hz
theorem v_min2 : OpV K (fun xs H Q => ∃ i j, xs = [.int i, .int j] ∧ Q (.int (if j < i then j else i)) H) min2D := by
  intro O H vs ds z Q hp hz hQ
  unfold min2D at hz
  split at hz
  · obtain ⟨x, y, rfl, h1, h2⟩ := p2 hp
    cases hz
    rw [t_int h1, t_int h2]
    exact ⟨_, _, rfl, fin_v hQ (sh_int.mpr rfl)⟩
  · cases hz
theorem v_max2 : OpV K (fun xs H Q => ∃ i j, xs = [.int i, .int j] ∧ Q (.int (if j > i then j else i)) H) max2D := by
  intro O H vs ds z Q hp hz hQ
  unfold max2D at hz
  split at hz
  · obtain ⟨x, y, rfl, h1, h2⟩ := p2 hp
    cases hz
    rw [t_int h1, t_int h2]
    exact ⟨_, _, rfl, fin_v hQ (sh_int.mpr rfl)⟩
  · cases hz
theorem foldl_min {n : Int} : ∀ {ns : List Int} {a : Int}, (∀ y, y ∈ ns → n ≤ y) → n ≤ a → (n = a ∨ n ∈ ns) → ns.foldl min a = n
  | [], a, _, h2, h3 => by rcases h3 with h | h; exact h.symm; cases h
  | b :: ns, a, h1, h2, h3 => by
    rw [List.foldl_cons]
    refine foldl_min (fun y hy => h1 y (List.mem_cons_of_mem _ hy)) ?_ ?_
    · have := h1 b List.mem_cons_self; omega
    · have hb := h1 b List.mem_cons_self
      rcases h3 with h | h
      · exact .inl (by omega)
      · rcases List.mem_cons.mp h with h | h
        · exact .inl (by omega)
        · exact .inr h
theorem foldl_max {n : Int} : ∀ {ns : List Int} {a : Int}, (∀ y, y ∈ ns → y ≤ n) → a ≤ n → (n = a ∨ n ∈ ns) → ns.foldl max a = n
  | [], a, _, h2, h3 => by rcases h3 with h | h; exact h.symm; cases h
  | b :: ns, a, h1, h2, h3 => by
    rw [List.foldl_cons]
    refine foldl_max (fun y hy => h1 y (List.mem_cons_of_mem _ hy)) ?_ ?_
    · have := h1 b List.mem_cons_self; omega
    · have hb := h1 b List.mem_cons_self
      rcases h3 with h | h
      · exact .inl (by omega)
      · rcases List.mem_cons.mp h with h | h
        · exact .inl (by omega)
        · exact .inr h
theorem v_min1 : OpV K (rMin K) min1D := by
  intro O H vs ds z Q hp hz hQ
  unfold min1D at hz
  split at hz
  · obtain ⟨x, rfl, h1⟩ := p1 hp
    split at hz
    · rename_i n ns e
      cases hz
      obtain ⟨a, xs, rfl, g, zl, s⟩ := t_list h1
      obtain ⟨q, _⟩ := toInts_sh e s
      subst q
      refine ⟨a, n :: ns, rfl, SqL.of g, Nat.succ_pos _, fun m hm hle => ?_⟩
      rw [← foldl_min (n := m) (ns := ns) (a := n) (fun y hy => hle y (List.mem_cons_of_mem _ hy)) (hle n List.mem_cons_self) (by rcases List.mem_cons.mp hm with h | h; exact .inl h; exact .inr h)]
      exact fin_v hQ (sh_int.mpr rfl)
    · cases hz
  · cases hz
theorem v_max1 : OpV K (rMax K) max1D := by
  intro O H vs ds z Q hp hz hQ
  unfold max1D at hz
  split at hz
  · obtain ⟨x, rfl, h1⟩ := p1 hp
    split at hz
    · rename_i n ns e
      cases hz
      obtain ⟨a, xs, rfl, g, zl, s⟩ := t_list h1
      obtain ⟨q, _⟩ := toInts_sh e s
      subst q
      refine ⟨a, n :: ns, rfl, SqL.of g, Nat.succ_pos _, fun m hm hle => ?_⟩
      rw [← foldl_max (n := m) (ns := ns) (a := n) (fun y hy => hle y (List.mem_cons_of_mem _ hy)) (hle n List.mem_cons_self) (by rcases List.mem_cons.mp hm with h | h; exact .inl h; exact .inr h)]
      exact fin_v hQ (sh_int.mpr rfl)
    · cases hz
  · cases hz
theorem v_sum : OpV K (rSum K) sumD := by
  intro O H vs ds z Q hp hz hQ
  unfold sumD at hz
  split at hz
  · obtain ⟨x, rfl, h1⟩ := p1 hp
    rename_i xs
    cases e : toInts xs with
    | none => rw [e] at hz; cases hz
    | some ns =>
      rw [e] at hz; cases hz
      obtain ⟨a, us, rfl, g, zl, s⟩ := t_list h1
      obtain ⟨q, _⟩ := toInts_sh e s
      subst q
      exact ⟨a, ns, rfl, SqL.of g, fin_v hQ (sh_int.mpr rfl)⟩
  · cases hz
theorem v_any : OpV K (rAny K) anyD := by
  intro O H vs ds z Q hp hz hQ
  unfold anyD at hz
  split at hz
  · obtain ⟨x, rfl, h1⟩ := p1 hp
    rename_i xs
    cases e : toBls xs with
    | none => rw [e] at hz; cases hz
    | some ns =>
      rw [e] at hz; cases hz
      obtain ⟨a, us, rfl, g, zl, s⟩ := t_list h1
      have q := toBls_sh e s
      subst q
      exact ⟨a, ns, rfl, SqL.of g, fin_v hQ (sh_bool.mpr rfl)⟩
  · cases hz
theorem v_all : OpV K (rAll K) allD := by
  intro O H vs ds z Q hp hz hQ
  unfold allD at hz
  split at hz
  · obtain ⟨x, rfl, h1⟩ := p1 hp
    rename_i xs
    cases e : toBls xs with
    | none => rw [e] at hz; cases hz
    | some ns =>
      rw [e] at hz; cases hz
      obtain ⟨a, us, rfl, g, zl, s⟩ := t_list h1
      have q := toBls_sh e s
      subst q
      exact ⟨a, ns, rfl, SqL.of g, fin_v hQ (sh_bool.mpr rfl)⟩
  · cases hz
theorem v_int : OpV K (fun xs H Q => (∃ i, xs = [.int i] ∧ Q (.int i) H) ∨ ∃ k, xs = [.bl k] ∧ Q (.int (if k then 1 else 0)) H) intD := by
  intro O H vs ds z Q hp hz hQ
  unfold intD at hz
  split at hz
  · obtain ⟨x, rfl, h1⟩ := p1 hp
    cases hz
    rw [t_int h1]
    exact .inl ⟨_, rfl, fin_v hQ (sh_int.mpr rfl)⟩
  · obtain ⟨x, rfl, h1⟩ := p1 hp
    cases hz
    rw [t_bool h1]
    exact .inr ⟨_, rfl, fin_v hQ (sh_int.mpr rfl)⟩
  · cases hz
theorem v_str : OpV K (fun xs H Q => ∃ i, xs = [.int i] ∧ i.natAbs.log2 < 1920 ∧ Q (.str (toString i)) H) strD := by
  intro O H vs ds z Q hp hz hQ
  unfold strD at hz
  split at hz
  · obtain ⟨x, rfl, h1⟩ := p1 hp
    split at hz
    · rename_i hl
      cases hz
      rw [t_int h1]
      exact ⟨_, rfl, hl, fin_v hQ (sh_str.mpr rfl)⟩
    · cases hz
  · cases hz
end
end PV

/-! PV.7: the rules for expressions -/
namespace PV
open PySem PySem.Spec L2

structure Ok (X : Cx) : Prop where
  calm : X.calm = true
  nd : X.N.Nodup
  un : X.A.units + 65 < cLine
  gd : X.A.guards = some []
theorem Ok.un1 {X : Cx} (k : Ok X) : X.A.units < cLine := by have := k.un; omega
theorem Ok.un2 {X : Cx} (k : Ok X) : X.A.units + 1 < cLine := by have := k.un; omega

section
variable (X : Cx) (xc : XC) (W : WX) (cl : Nat → List Arg → DS → FRes)
def DE (e : Expr) (a : E) : Prop := PE X e (tE xc X.K W fun m => ev cl a m)
def DA (e : List Expr) (a : Es) : Prop := PA X e (tEs xc X.K W fun m => evs cl a m)
def DT (e : Expr) (a : T) : Prop := PT X e (tT xc X.K W fun m => evT cl a m)
def DW (e : Expr) (a : T) : Prop := PW X e (tT xc X.K W fun m => evT cl a m)
end

section
variable {xc : XC} {K : PySem.W.Frag} {W : WX} {cl : Nat → List Arg → DS → FRes} {g : Gd} {O0 : AP} {e : Env} {s : DS} {σ : L2.St} {H H1 H' : Hp} {F : List Addr} {m m1 : M}

theorem tE.mono {f : M → Res R} {Q Q' : VK} (h : tE xc K W f σ H Q) (i : ∀ v H, Q v H → Q' v H) : tE xc K W f σ H Q' := by
  obtain ⟨g, O0, e, s, G, h⟩ := h
  refine ⟨g, O0, e, s, G, ?_⟩
  cases hf : f ⟨e, s⟩ with
  | ok r m => simp only [hf] at h ⊢; intro v H' F t rv; exact i _ _ (h v H' F t rv)
  | rz c f m => simp only [hf] at h ⊢; exact h
  | bad => simp only [hf] at h; exact h.elim
theorem tEs.mono {f : M → Res (List R)} {Q Q' : List V → Hp → Prop} (h : tEs xc K W f σ H Q) (i : ∀ v H, Q v H → Q' v H) : tEs xc K W f σ H Q' := by
  obtain ⟨g, O0, e, s, G, h⟩ := h
  refine ⟨g, O0, e, s, G, ?_⟩
  cases hf : f ⟨e, s⟩ with
  | ok r m => simp only [hf] at h ⊢; intro v H' F t rv; exact i _ _ (h v H' F t rv)
  | rz c f m => simp only [hf] at h ⊢; exact h
  | bad => simp only [hf] at h; exact h.elim
theorem tT.mono {f : M → Res Bool} {Q Q' : Bool → Hp → Prop} (h : tT xc K W f σ H Q) (i : ∀ v H, Q v H → Q' v H) : tT xc K W f σ H Q' := by
  obtain ⟨g, O0, e, s, G, h⟩ := h
  refine ⟨g, O0, e, s, G, ?_⟩
  cases hf : f ⟨e, s⟩ with
  | ok r m => simp only [hf] at h ⊢; intro H' t; exact i _ _ (h H' t)
  | rz c f m => simp only [hf] at h ⊢; exact h
  | bad => simp only [hf] at h; exact h.elim

theorem evs_nil : (fun m => evs cl .nil m) = fun m => .ok [] m := rfl
theorem evs_cons {a : E} {as : Es} : (fun m => evs cl (.cons a as) m) = fun m => match (fun m => ev cl a m) m with
      | .ok r m1 => match (fun m => evs cl as m) m1 with
        | .ok rs m2 => .ok (r :: rs) m2
        | .rz c f m2 => .rz c f m2
        | .bad => .bad
      | .rz c f m1 => .rz c f m1
      | .bad => .bad := rfl
theorem one_ok {a : E} {Q : List V → Hp → Prop} (h : tEs xc K W (fun m => evs cl (.cons a .nil) m) σ H Q) : tE xc K W (fun m => ev cl a m) σ H fun x H1 => Q [x] H1 :=
  (cons_ok (f := fun m => ev cl a m) (fs := fun m => evs cl .nil m) h).mono fun _ _ h => nil_ok h
theorem two_ok {a b : E} {Q : List V → Hp → Prop} (h : tEs xc K W (fun m => evs cl (.cons a (.cons b .nil)) m) σ H Q) : tE xc K W (fun m => ev cl a m) σ H fun x H1 => tE xc K W (fun m => ev cl b m) σ H1 fun y H2 => Q [x, y] H2 :=
  (cons_ok (f := fun m => ev cl a m) (fs := fun m => evs cl (.cons b .nil) m) h).mono fun _ _ h => one_ok h
theorem three_ok {a b c : E} {Q : List V → Hp → Prop} (h : tEs xc K W (fun m => evs cl (.cons a (.cons b (.cons c .nil))) m) σ H Q) : tE xc K W (fun m => ev cl a m) σ H fun x H1 => tE xc K W (fun m => ev cl b m) σ H1 fun y H2 => tE xc K W (fun m => ev cl c m) σ H2 fun z H3 => Q [x, y, z] H3 :=
  (cons_ok (f := fun m => ev cl a m) (fs := fun m => evs cl (.cons b (.cons c .nil)) m) h).mono fun _ _ h => two_ok h

/-- what an operation must do where its operands may be one's own -/
def OpE (K : PySem.W.Frag) (r : List V → Hp → VK → Prop) (o : Op) : Prop :=
  ∀ (g : Gd) (O0 : AP) (e : Env) (σ : L2.St) (H : Hp) (vs : List V) (F : List Addr) (rs : List R) (z : R) (Q : VK), RVs K g (Ow (plus O0 F) e σ) σ H vs F rs → Rep K g (plus O0 F) e σ H → opE e o rs = some z →
    (∀ v H' F', Keep (fun _ => False) H H' → (∀ p ∈ F', H p = none ∧ H' p ≠ none) → RO K (plus (Ow O0 e σ) F') H' v F' z → Q v H') → r vs H Q
theorem OpE.of {r : List V → Hp → VK → Prop} {o : Op} (ho : OpV K r (opD o)) (hn : ∀ e rs, dictOp e o rs = none := by intro _ _; rfl) : OpE K r o := by
  intro g O0 e σ H vs F rs z Q rv rep hz hQ
  unfold opE at hz
  rw [hn] at hz
  cases hd : derefs e rs with
  | none => rw [hd] at hz; cases hz
  | some ds => rw [hd] at hz; exact ho _ H vs ds z Q (rv.vals' rep hd) hz hQ
theorem OpE.use {r : List V → Hp → VK → Prop} {o : Op} {as : Es} (ho : OpE K r o) {Q : VK} (h : tE xc K W (fun m => ev cl (.op o as) m) σ H Q) : tEs xc K W (fun m => evs cl as m) σ H fun vs H1 => r vs H1 Q := by
  obtain ⟨g, O0, e, s, G, h⟩ := h
  refine ⟨g, O0, e, s, G, ?_⟩
  show PostEs xc K W g O0 e σ H _ (evs cl as ⟨e, s⟩)
  have h : PostE xc K W g O0 e σ H Q (match evs cl as ⟨e, s⟩ with
    | .ok rs m1 => match opE m1.e o rs with
      | some r => .ok r m1
      | none => .bad
    | .rz c f m1 => .rz c f m1
    | .bad => .bad) := h
  cases hf : evs cl as ⟨e, s⟩ with
  | ok rs m1 =>
    simp only [hf] at h
    intro vs H1 F1 t1 rvs
    cases hz : opE m1.e o rs with
    | none => simp only [hz] at h; exact h.elim
    | some z =>
      simp only [hz] at h
      exact ho g O0 m1.e σ H1 vs F1 rs z Q rvs t1.rep hz fun v H' F k hF rv => post_op h G t1 k hF rv.rv
  | rz c f m1 => simp only [hf] at h; exact h
  | bad => simp only [hf] at h; exact h
/-- a dict of one's own -/
theorem own_dict {i : Nat} {v : V} {t : Bool} {kvs : List (PyData × PyData)} (rep : Rep K g (plus O0 F) e σ H) (hi : e[i]? = some (.od t kvs)) (hv : σ[i]? = some (some v)) : ∃ p o, v = .ref p ∧ H p = some o ∧ DcT K (Ow O0 e σ) H t o kvs := by
  obtain ⟨p, o, h1, _, h3, h5⟩ := rep.at' i _ hi
  rw [hv] at h1; cases h1
  exact ⟨p, o, rfl, h3, h5.weak fun a z => z.imp .inl id⟩
theorem rv_k {v : V} {d : PyData} {F1 : List Addr} (h : RV1 K g (Ow (plus O0 F) e σ) σ H v F1 (.v d)) : F1 = [] ∧ Sh K (Ow O0 e σ) H v d := ⟨h.1, h.2.weak fun a z => z.imp .inl id⟩
theorem rvs2 {vs : List V} {a b : R} (h : RVs K g (Ow (plus O0 F) e σ) σ H vs F [a, b]) : ∃ x y F1 F2, vs = [x, y] ∧ RV1 K g (Ow (plus O0 F) e σ) σ H x F1 a ∧ RV1 K g (Ow (plus O0 F) e σ) σ H y F2 b := by
  generalize hO : Ow (plus O0 F) e σ = O at h
  cases h with
  | cons r t _ => cases t with
    | cons r' t' _ => cases t'; exact ⟨_, _, _, _, rfl, r, r'⟩
theorem OpE.dict {r : List V → Hp → VK → Prop} {o : Op} (ho : OpV K r (opD o))
    (hd : ∀ (g : Gd) (O0 : AP) (e : Env) (σ : L2.St) (H : Hp) (vs : List V) (F : List Addr) (rs : List R) (z : R) (Q : VK), RVs K g (Ow (plus O0 F) e σ) σ H vs F rs → Rep K g (plus O0 F) e σ H → dictOp e o rs = some z →
      (∀ v H' F', Keep (fun _ => False) H H' → (∀ p ∈ F', H p = none ∧ H' p ≠ none) → RO K (plus (Ow O0 e σ) F') H' v F' z → Q v H') → r vs H Q) : OpE K r o := by
  intro g O0 e σ H vs F rs z Q rv rep hz hQ
  unfold opE at hz
  cases hn : dictOp e o rs with
  | some z' => rw [hn] at hz; cases hz; exact hd g O0 e σ H vs F rs z Q rv rep hn hQ
  | none =>
    rw [hn] at hz
    cases hd : derefs e rs with
    | none => rw [hd] at hz; cases hz
    | some ds => rw [hd] at hz; exact ho _ H vs ds z Q (rv.vals' rep hd) hz hQ
theorem e_in : OpE K (V2 (rInAll K)) .inn := OpE.dict v_in fun g O0 e σ H vs F rs z Q rv rep hz hQ => by
  unfold dictOp at hz
  split at hz <;> try contradiction
  · rename_i k i _
    split at hz
    · rename_i t kvs hi
      split at hz
      · rename_i hk
        cases hz
        obtain ⟨x, y, F1, F2, rfl, r1, r2⟩ := rvs2 rv
        obtain ⟨p, o, rfl, ho, hd⟩ := own_dict rep hi r2.2
        refine ⟨x, _, rfl, .inr ?_⟩
        rcases dget_of ho hd hk (rv_k r1).2 with ⟨z1, z2⟩ | ⟨v, d', z1, z2, z3⟩
        · exact ⟨p, _, rfl, z1, by rw [z2] at hQ; exact fin_v hQ (sh_bool.mpr rfl)⟩
        · exact ⟨p, _, rfl, z1, by rw [z2] at hQ; exact fin_v hQ (sh_bool.mpr rfl)⟩
      · cases hz
    · cases hz
theorem e_notin : OpE K (V2 (rNotInAll K)) .notin := OpE.dict v_notin fun g O0 e σ H vs F rs z Q rv rep hz hQ => by
  unfold dictOp at hz
  split at hz <;> try contradiction
  · rename_i k i _
    split at hz
    · rename_i t kvs hi
      split at hz
      · rename_i hk
        cases hz
        obtain ⟨x, y, F1, F2, rfl, r1, r2⟩ := rvs2 rv
        obtain ⟨p, o, rfl, ho, hd⟩ := own_dict rep hi r2.2
        refine ⟨x, _, rfl, .inr ?_⟩
        rcases dget_of ho hd hk (rv_k r1).2 with ⟨z1, z2⟩ | ⟨v, d', z1, z2, z3⟩
        · exact ⟨p, _, rfl, z1, by rw [z2] at hQ; exact fin_v hQ (sh_bool.mpr rfl)⟩
        · exact ⟨p, _, rfl, z1, by rw [z2] at hQ; exact fin_v hQ (sh_bool.mpr rfl)⟩
      · cases hz
    · cases hz
theorem e_idx : OpE K (V2 (rIxAll K)) .idx := OpE.dict v_idx fun g O0 e σ H vs F rs z Q rv rep hz hQ => by
  unfold dictOp at hz
  split at hz <;> try contradiction
  · rename_i i k _
    split at hz
    · rename_i t kvs hi
      split at hz
      · rename_i hk
        obtain ⟨x, y, F1, F2, rfl, r1, r2⟩ := rvs2 rv
        obtain ⟨p, o, rfl, ho, hd⟩ := own_dict rep hi r1.2
        refine ⟨_, y, rfl, .inr ?_⟩
        rcases dget_of ho hd hk (rv_k r2).2 with ⟨z1, z2⟩ | ⟨v, d', z1, z2, z3⟩
        · rw [z2] at hz; cases hz
        · rw [z2] at hz; cases hz; exact ⟨p, v, rfl, z1, fin_v hQ z3⟩
      · cases hz
    · cases hz
end

section
variable {X : Cx} {xc : XC} {W : WX} {cl : Nat → List Arg → DS → FRes} {a b c : Expr} {ea eb ec : E} {pos : Pos}
theorem de_var {i : Nat} {x : Str} (hN : X.N[i]? = some x) (hv : Vis X.env.scope x) (hd : (x == ("__debug__" : Str)) = false := by decide) (hcd : (x == ("__classdict__" : Str)) = false := by decide) : DE X xc W cl (.Name x pos) (.x i) :=
  PEimp (pe_var hN hv hd hcd) fun σ H Q h => by
    obtain ⟨g, O0, e, s, G, h⟩ := h
    have h : PostE xc X.K W g O0 e σ H Q (match e[i]? with
      | some (.sh d) => .ok (.v d) ⟨e, s⟩
      | some (.ol _) => .ok (.pl i) ⟨e, s⟩
      | some (.od _ _) => .ok (.pl i) ⟨e, s⟩
      | some .dk => .ok .dk ⟨e, s⟩
      | _ => .bad) := h
    cases hi : e[i]? with
    | none => simp only [hi] at h; exact h.elim
    | some sl =>
      have q := G.rep.at' i sl hi
      cases sl with
      | un => simp only [hi] at h; exact h.elim
      | sh d =>
        simp only [hi] at h
        obtain ⟨v, h1, h2⟩ := q
        exact ⟨v, h1, h v H [] G.stp ⟨rfl, h2.weak fun a z => z.imp (fun z => z.elim id (fun z => nomatch z)) id⟩⟩
      | ol ds =>
        simp only [hi] at h
        obtain ⟨p, xs, h1, _⟩ := q
        exact ⟨_, h1, h _ H [] G.stp ⟨rfl, h1⟩⟩
      | od t kvs =>
        simp only [hi] at h
        obtain ⟨p, o, h1, _⟩ := q
        exact ⟨_, h1, h _ H [] G.stp ⟨rfl, h1⟩⟩
      | dk =>
        simp only [hi] at h
        exact ⟨_, q, h _ H [] G.stp ⟨rfl, rfl⟩⟩
theorem tE.const {K : PySem.W.Frag} {d : PyData} {v : V} {σ : L2.St} {H : Hp} {Q : VK} (hs : ∀ O, Sh K O H v d) (h : tE xc K W (fun m => ev cl (.c d) m) σ H Q) : Q v H := by
  obtain ⟨g, O0, e, s, G, h⟩ := h
  exact h v H [] G.stp ⟨rfl, hs _⟩
theorem de_int {i : Int} {j : Nat} : DE X xc W cl (.Constant (.int i) j pos) (.c (.int i)) := PEimp pe_int fun σ H Q h => h.const fun _ => sh_int.mpr rfl
theorem de_bl {i : Bool} {j : Nat} : DE X xc W cl (.Constant (.bool i) j pos) (.c (.bool i)) := PEimp pe_bl fun σ H Q h => h.const fun _ => sh_bool.mpr rfl
theorem de_non {j : Nat} : DE X xc W cl (.Constant .none j pos) (.c .none) := PEimp pe_non fun σ H Q h => h.const fun _ => sh_none.mpr rfl
theorem de_str {x : Str} {j : Nat} : DE X xc W cl (.Constant (.str x) j pos) (.c (.str x)) := PEimp pe_str fun σ H Q h => h.const fun _ => sh_str.mpr rfl
theorem de_cint {i : Int} {x : Str} {t : Tok} (hg : Gl X x) (hm : X.mg x = some (.int i t)) (hd : (x == ("__debug__" : Str)) = false := by decide) : DE X xc W cl (.Name x pos) (.c (.int i)) :=
  PEimp (pe_glob hg hm (v := .int i) ⟨t, rfl⟩ hd) fun σ H Q h => h.const fun _ => sh_int.mpr rfl
theorem de_bin {op : Operator} {o : Op} {r : R2} (ho : OpR X (binaryOp op) r) (hv : OpE X.K (V2 r) o) (ha : DE X xc W cl a ea) (hb : DE X xc W cl b eb) : DE X xc W cl (.BinOp a op b pos) (.op o (.cons ea (.cons eb .nil))) :=
  PEimp (pe_op ho ha hb) fun σ H Q h => (two_ok (hv.use h)).mono fun x H1 h => h.mono fun y H2 h => by
    obtain ⟨x', y', e, h⟩ := h
    cases e; exact h
theorem de_cmp {op : CmpOp} {o : Op} {r : R2} (ho : OpR X (compareOp op) r) (hv : OpE X.K (V2 r) o) (ha : DE X xc W cl a ea) (hb : DE X xc W cl b eb) (hm : behindInMarks op b = false := by first | exact nomark _ | with_unfolding_all rfl) : DE X xc W cl (.Compare a [op] [b] pos) (.op o (.cons ea (.cons eb .nil))) :=
  PEimp (pe_cmpR ho ha hb hm) fun σ H Q h => (two_ok (hv.use h)).mono fun x H1 h => h.mono fun y H2 h => by
    obtain ⟨x', y', e, h⟩ := h
    cases e; exact h
theorem de_neg (ha : DE X xc W cl a ea) : DE X xc W cl (.UnaryOp .USub a pos) (.op .neg (.cons ea .nil)) :=
  PEimp (pe_un un_neg ha) fun σ H Q h => (one_ok ((OpE.of v_neg).use h)).mono fun x H1 h => by
    obtain ⟨x', e, h⟩ := h
    cases e; exact h
end
end PV

/-! PV.8: defs where nothing is being shown (no container's repr runs): the promise, the call, the body, the law's own call -/
namespace PV
open PySem PySem.Spec PyProof.Rows L2

theorem deeper_gd {A : Around} {env : PySem.Env} (h : A.guards = some []) : (A.deeper env).guards = some [] := h

structure FnG (P : Program) (w : World) (K : PySem.W.Frag) (mg : Str → Option Value) (base : Heap) (CX : CXT) (k : Nat) (f : Addr) (fd : FuncData) (ps : List Str) (sp : Sp) : Prop where
  len : ∀ vs H Q E, sp vs H Q E → vs.length = ps.length
  run : ∀ (A : Around) (outer : List PySem.Env) (s : Shared) (H : Hp) (args : Args) (us : List Value) (vs : List V) (Q : VK) (E : XK), A.guards = some [] → Room k A → Env0 P w K mg base A outer s H → BindsTo s fd args (ps.zip us) → Vals vs us → sp vs H Q E →
    codeAny (model P w) A (.call (.ref f) args) (CR CX outer P w H s Q E) s
section
variable {P : Program} {w : World} {K : PySem.W.Frag} {mg : Str → Option Value} {base : Heap} {CX : CXT} {k : Nat} {f : Addr} {fd : FuncData} {N ps : List Str} {sp : Sp}
theorem FnG.of (F : FnOk P w K mg base CX k f fd ps sp) : FnG P w K mg base CX k f fd ps sp := ⟨F.len, fun A o s H a us vs Q E _ => F.run A o s H a us vs Q E⟩
theorem FnG.mono {j : Nat} (F : FnG P w K mg base CX j f fd ps sp) (h : j ≤ k) : FnG P w K mg base CX k f fd ps sp := ⟨F.len, fun A o s H a us vs Q E g r => F.run A o s H a us vs Q E g (r.mono h)⟩
theorem FnG.imp {sp' : Sp} (F : FnG P w K mg base CX k f fd ps sp) (h : ∀ vs H Q E, sp' vs H Q E → sp vs H Q E) : FnG P w K mg base CX k f fd ps sp' :=
  ⟨fun vs H Q E z => F.len vs H Q E (h vs H Q E z), fun A o s H a us vs Q E g r e b v z => F.run A o s H a us vs Q E g r e b v (h vs H Q E z)⟩

/-- a def by its body -/
theorem FnG.body {name qual : Str} {params : Arguments} {bd : List Stmt} {scope : Scope} {dV kV doc pm cdv ct oc : Value} {an od : Option Addr} {osl : Array (Option Value)}
    (lk : K.lookup f = some ⟨oc, od, .func (PySem.W.fnOf name qual params bd scope dV kV doc pm an cdv ct), osl⟩) (hcd : PySem.W.codeIn K cdv qual = true) (S : FnScope N ps scope) (len : ∀ vs H Q E, sp vs H Q E → vs.length = ps.length)
    (hb : ∀ (A : Around) (outer : List PySem.Env) (s : Shared) (H : Hp) (vs : List V) (Q : VK) (E : XK), A.guards = some [] → Room k (A.deeper (envOfC qual scope s.heap.objs.size f cdv)) → (∀ b ∈ frs outer, H b = none) → sp vs H Q E →
      ∃ t, PSs (cxOf CX P w K mg base N qual scope f cdv A outer s H E) bd t ∧ t { nx := fun _ H' => Q .non H', rt := Q } (start N vs) H) :
    FnG P w K mg base CX (k + 1) f (PySem.W.fnOf name qual params bd scope dV kV doc pm an cdv ct) ps sp := by
  refine ⟨len, fun A outer s H args us vs Q E hg hr e0 hbd r hsp => ?_⟩
  have inK : K.In s.heap := e0.mod.kin.keeps fun b o e => (e0.bs b o e).1
  have lim : s.heap.NoLimit := e0.mod.nolimit.keeps fun b o e => (e0.bs b o e).1
  have each : ∀ y ∈ ps.zip us, scope.names.lookup y.1 = some .local ∨ (scope.names.lookup y.1 = some .cell ∧ ((cellsFrom (s.heap.objs.size + 1) scope.names []).lookup y.1).isSome = true) := by
    rintro ⟨n, v⟩ hy
    exact (S.par n (List.of_mem_zip hy).1).imp id fun q => ⟨q, PySem.W.cellsFrom_some _ _ _ (.inl q)⟩
  refine codeAny_call_function hr.depth (inK _ _ lk) rfl S.co S.gen rfl (PySem.W.codeRec_of inK hcd) (hbd _ _ _ _ ?_)
  refine wpAny_newFunctionEnv_cells S.kind each fun env he s1 x => ?_
  cases he
  refine ⟨lim.keeps x.toInCall.keep, codeAny_func ?_⟩
  obtain ⟨t, ht, hq⟩ := hb A outer s H vs Q E hg (hr.deeper _) e0.frf hsp
  refine wpAny_mono (ht.run [] s1 (start N vs) H _ (inv_start S hr.hd e0 (len _ _ _ _ hsp) r x) hq) (fun fl s' hs => ?_) fun e s' hs => hs
  cases fl with
  | brk => obtain ⟨_, _, _, z⟩ := hs; exact z.elim
  | cont => obtain ⟨_, _, _, z⟩ := hs; exact z.elim
  | next =>
    obtain ⟨σ', H', J, q⟩ := hs
    exact ⟨V.non, H', J.os, J.bare, J.base, J.hok, rfl, q⟩
  | ret u =>
    obtain ⟨v, σ', H', J, rv, q⟩ := hs
    exact ⟨v, H', J.os, J.bare, J.base, J.hok, rv, q⟩
end

section
variable {X : Cx} {CX : CXT} {k : Nat} {f : Addr} {fd : FuncData} {ps : List Str} {sp : Sp} {E : L2.St → XK} {x : Str} {p pos : Pos} {e : Expr} {es : List Expr} {t : TA}
theorem FnG.called {pins : List (Addr × Obj)} {σ : L2.St} {H : Hp} {s : Shared} {Q : VK} {us : List Value} {vs : List V} (F : FnG X.prog X.w X.K X.mg X.base CX k f fd ps sp) (gd : X.A.guards = some []) (hr : Room k X.A) (hb : Binds X.K fd ps []) (hx : PassesAt CX X σ (E σ))
    (I : Inv X pins σ H s) (r : Vals vs us) (h : sp vs H Q (E σ)) : wpAny (model X.prog X.w) X.A (call (.ref f) us) (EP X pins σ Q) X.xe s := by
  have hl : (us ++ []).length = ps.length := by rw [List.append_nil, ← r.length]; exact F.len _ _ _ _ h
  have bt := hb s us I.kIn hl
  rw [List.append_nil] at bt
  refine wpAny_call (codeAny_mono (F.run X.A X.stack s H ⟨us, []⟩ us vs Q (E σ) gd hr I.env0 bt r h) fun z s' hq => ?_)
  rcases z with e | fl
  rotate_left
  · cases fl with
    | ret u => exact I.after hq
    | next => exact False.elim hq
    | brk => exact False.elim hq
    | cont => exact False.elim hq
  · exact hx pins H s e s' I hq
def tCallG (sp : Sp) (E : L2.St → XK) (t : TA) : TE := fun σ H Q => t σ H fun vs H1 => sp vs H1 Q (E σ)
theorem pe_callG (F : FnG X.prog X.w X.K X.mg X.base CX k f fd ps sp) (gd : X.A.guards = some []) (hr : Room k X.A) (hg : Gl X x) (hm : X.mg x = some (.ref f)) (hk : PySem.W.keepIn X.K (.ref f) = true) (hb : Binds X.K fd ps []) (hx : ∀ σ, PassesAt CX X σ (E σ))
    (ha : PA X (e :: es) t) (hdb : (x == ("__debug__" : Str)) = false := by decide) (he : starEach (e :: es) X.env = (false, eval e X.env) :: starEach es X.env := by rfl) (hpl : (backTo pos (starEach es X.env)).any (·.1) = false := by rfl) :
    PE X (.Call (.Name x p) (e :: es) [] pos) (tCallG sp E t) :=
  ⟨fun pins s σ H Q I h => wpAny_Call_Name_kw (ld_glob I hg hm (PySem.W.callWith_K (h₀ := X.base) I.ok.mod.kin hk
    (thn (ha.run pos pins s σ H _ I h) fun us s1 ⟨vs, H1, I1, r, q⟩ => ⟨I1.kIn, F.called gd hr hb (hx σ) I1 r q⟩) he hpl) hdb)⟩
end
end PV

/-! PV.8b: the law's own call -/
namespace PV
open PySem PySem.Spec PyProof.Rows L2

/-- the script alone is known, where the module has it not itself -/
def Hs (c : Bool) (a : Addr) (o : Obj) (xs : List V) : Hp := fun b => if c = true ∧ b = a then some (.frz o (.lst xs)) else none
theorem Hs_inv {c : Bool} {a b : Addr} {o : Obj} {xs : List V} {u : HO} (h : Hs c a o xs b = some u) : c = true ∧ b = a ∧ u = .frz o (.lst xs) := by
  unfold Hs at h
  split at h
  · rename_i q; exact ⟨q.1, q.2, (Option.some.inj h).symm⟩
  · cases h

theorem law_goal {P : Program} {w : World} {K : PySem.W.Frag} {mg mb : Str → Option Value} {CX : CXT} {k : Nat} {fa a : Addr} {fd : FuncData} {x : Str} {sp : Sp} {s : Shared} {vs : List Value} {ns : List Int}
    (KX : K.In s.heap) (hns : s.heap.Ns mainGlobals mg) (hb : s.heap.Ns builtinsNs mb) (hbb : ∀ x : Str, x ≠ "__name__" → mb x = bootBuiltins x) (hlim : s.heap.NoLimit) (hg : s.gens = #[])
    (ha : s.heap.get? a = some { cls := .type "list", data := .seq vs.toArray }) (hi : IntsAre vs ns) (hl : ns.length ≤ sizeLine) (hr : Room k callerA)
    (F : ∀ base : Heap, K.In base → base.Ns mainGlobals mg → FnG P w K mg base CX k fa fd [x] sp) (hbind : ∀ (s : Shared) (u : Value), BindsTo s fd ⟨[u], []⟩ [(x, u)])
    (hsp : ∀ H : Hp, Only H → SqL K H a (ns.map V.int) → sp [.ref a] H (fun v _ => v = .bl true) fun _ _ _ => False)
    (hCX : ∀ H e s', CX [] H s (fun _ _ _ => False) e s' → False) :
    codeAny (model P w) callerA (.call (.ref fa) ⟨[.ref a], []⟩) (fun r s' => r = .ok (.ret (.bool true)) ∧ OldK s.heap s'.heap ∧ s'.os = s.os ∧ AllBare s'.gens) s := by
  generalize hob : ({ cls := .type "list", data := .seq vs.toArray } : Obj) = ob at ha
  obtain ⟨c, hc⟩ : ∃ c : Bool, c = (K.lookup a).isNone := ⟨_, rfl⟩
  let H : Hp := Hs c a ob (ns.map V.int)
  have inv : ∀ {b u}, H b = some u → c = true ∧ b = a ∧ u = .frz ob (.lst (ns.map V.int)) := fun h => Hs_inv h
  have rv := vals_ints hi
  have only : Only H := fun b => by
    cases q : H b with
    | none => exact .inl rfl
    | some u => obtain ⟨_, _, rfl⟩ := inv q; exact .inr ⟨_, _, rfl⟩
  have isL : ∀ h : Heap, h.get? a = some ob → ObjOk P w H h a (.lst (ns.map V.int)) := fun h e => ⟨by rw [List.length_map]; exact hl, vs, _, rv, by rw [e, ← hob]⟩
  have ok : HOk P w H s.heap := fun b u z => by
    obtain ⟨_, rfl, rfl⟩ := inv z
    exact ⟨ha, isL _ ha⟩
  have read : SqL K H a (ns.map V.int) := by
    cases q : K.lookup a with
    | none => exact .inl (.inr ⟨ob, if_pos ⟨by rw [hc, q]; rfl, rfl⟩⟩)
    | some o =>
      have e := KX a o q
      rw [ha] at e; cases e
      exact .inr ⟨_, vs.toArray, _, q, by rw [← hob], by rw [← hob], by rw [← hob], by rw [List.size_toArray, hi.length]; exact hl, by simpa using rv⟩
  have free : ∀ {b : Addr} {o : Obj}, s.heap.get? b = some o → (b = a → c = true → False) → H b = none := fun {b o} e n => by
    cases q : H b with
    | none => rfl
    | some u => obtain ⟨h1, h2, _⟩ := inv q; exact (n h2 h1).elim
  have nsK : ∀ {b : Addr} {m : Str → Option Value}, s.heap.Ns b m → (hidT s.heap H).Ns b m := fun {b m} ⟨o, es, ep, e, d, r⟩ => ⟨o, es, ep, hidT_get e (free e fun z _ => by
    subst z
    rw [ha] at e; cases e
    rw [← hob] at d
    exact nomatch d), d, r⟩
  have hK : K.In (hidT s.heap H) := fun b o e => hidT_get (KX b o e) (free (KX b o e) fun z z2 => by
    subst z
    rw [hc, e] at z2; cases z2)
  have env0 : Env0 P w K mg (hidT s.heap H) callerA [] s H :=
    ⟨rfl, ⟨hK, nsK hns, ⟨mb, nsK hb, hbb⟩, let ⟨mc, h1, h2⟩ := hlim; ⟨mc, nsK h1, h2⟩⟩, fun b o e => of_hidT e, Nat.le_of_eq (hidT_size _ _), trivial, fun b z => (nomatch z), ok, .of_eq hg⟩
  refine codeAny_mono ((F _ hK (nsK hns)).run callerA [] s H ⟨[.ref a], []⟩ [.ref a] [.ref a] _ _ rfl hr env0 (hbind s _) (.cons rfl .nil) (hsp H only read)) fun r s' h => ?_
  rcases r with e | fl
  · exact (hCX H e s' h).elim
  · cases fl with
    | next => exact False.elim h
    | brk => exact False.elim h
    | cont => exact False.elim h
    | ret u =>
      obtain ⟨v, H', os, bare, un, ok', rel, q⟩ := h
      cases (show v = .bl true from q)
      obtain rfl : u = Value.bool true := rel
      refine ⟨rfl, OldK.of_keep fun b o e => ?_, os, bare⟩
      cases q : H b with
      | none => exact un.keep b o e q (fun z => nomatch z) (fun z => nomatch z)
      | some u =>
        obtain ⟨_, rfl, rfl⟩ := inv q
        rw [ha] at e; cases e
        exact (ok' _ _ (un.frzs _ _ _ q)).1

/-- the law's row, from the law's promise -/
theorem law_walk {l : PySem.W.OpenLaw} {n k : Nat} {q : Program} {loose : List Str} {XP : (Str → Option Value) → Heap → Prop} {YP : World → Heap → Prop} {d : DefRec} {K : Params → PySem.W.Frag} {CX : World → CXT} {sp : World → Sp} {x : Str}
    (hn : l.most = some n) (hn2 : n ≤ sizeLine) (hdf : d.params.defaults = []) (hr : Room k callerA) (hY : ∀ (w : World) (h : Heap), YP w h → (K w.params).In h)
    (F : ∀ (w : World) (mg : Str → Option Value) (fa : Addr) (h : Heap), (K w.params).In h → h.Ns mainGlobals mg → mg d.name = some (.ref fa) →
      ∃ fd : FuncData, (∀ (s : Shared) (u : Value), BindsTo s fd ⟨[u], []⟩ [(x, u)]) ∧ ∀ base : Heap, (K w.params).In base → base.Ns mainGlobals mg → FnG l.prog w (K w.params) mg base (CX w) k fa fd [x] (sp w))
    (hsp : ∀ (w : World) (H : Hp) (a : Addr) (ns : List Int), ns.length ≤ n → Only H → SqL (K w.params) H a (ns.map V.int) → sp w [.ref a] H (fun v _ => v = .bl true) fun _ _ _ => False)
    (hCX : ∀ (w : World) (H : Hp) (s : Shared) (e : Value) (s' : Shared), CX w [] H s (fun _ _ _ => False) e s' → False) :
    PySem.W.WalkO q loose XP YP l.row.toRowW d [] (fun f vs => PySem.call f vs) :=
  Att.attach_call hn hdf fun w s₀ s₁ mg mb fa o pm cd doc a vs ns G Y ho hd hcd hmg hobj hints hlen hg => by
    obtain ⟨fd, h1, h2⟩ := F w mg fa _ (hY w _ Y) G.T.g hmg
    exact law_goal (hY w _ Y) G.T.g G.T.b G.T.builtins G.T.nolimit hg hobj hints (Nat.le_trans hlen hn2) hr h2 h1 (fun H hO hS => hsp w H a ns hlen hO hS) fun H e s' => hCX w H s₁ e s'
end PV

/-! PV.9: calls of defs, displays, tests -/
namespace PV
open PySem PySem.Spec L2

inductive ArgR (K : PySem.W.Frag) (g : Gd) (O : AP) (H : Hp) : V → Arg → Prop where
  | sh {v : V} {d : PyData} (h : Sh K O H v d) : ArgR K g O H v (.sh d)
  | dk : ArgR K g O H (.ref g.1) .dk
def PostF (xc : XC) (K : PySem.W.Frag) (g : Gd) (O : AP) (H : Hp) (Q : VK) (E : XK) : FRes → Prop
  | .ok r s' => ∀ v H' F, Keep (DkS g) H H' → (∀ p ∈ F, H p = none ∧ H' p ≠ none) → RO K (plus O F) H' v F r → DkRep g s' H' → Q v H'
  | .rz c f s' => ∀ cls dd H', Keep (DkS g) H H' → XcR xc K O H' c f cls dd → DkRep g s' H' → E cls dd H'
  | .bad => False
def spF (xc : XC) (K : PySem.W.Frag) (np : Nat) (sem : List Arg → DS → FRes) : Sp := fun vs H Q E => vs.length = np ∧ ∃ g O args s, (∀ a, DkS g a → O a) ∧ (∀ a, O a → H a ≠ none) ∧ DkRep g s H ∧ Paired (ArgR K g O H) vs args ∧ PostF xc K g O H Q E (sem args s)

section
variable {xc : XC} {K : PySem.W.Frag} {W : WX} {cl : Nat → List Arg → DS → FRes} {g : Gd} {O O0 : AP} {e e0 : Env} {s : DS} {σ : L2.St} {H H0 H1 H' : Hp} {F : List Addr} {m m1 : M}
theorem plus_sub {O O' : AP} {F : List Addr} (h : ∀ a, O a → O' a) : ∀ a, plus O F a → plus O' F a := fun a z => z.imp (h a) id
/-- behind a call: the deck may have been turned -/
theorem Good.called (G : Good K g O0 e s σ H) {s' : DS} (k : Keep (DkS g) H H') (hF : ∀ p ∈ F, H p = none ∧ H' p ≠ none) (dk : DkRep g s' H') : Stp K g O0 e σ H F ⟨e, s'⟩ H' := by
  refine ⟨k.mono fun _ z => .inr z, fun _ z => z, fun p hp => ?_, G.rep.go k G.dk0 fun a z => z.imp id fun z => (hF a z).1, dk⟩
  obtain ⟨h1, h2⟩ := hF p hp
  refine ⟨h1, fun z => G.oe p z h1, fun z => ?_, h2⟩
  obtain ⟨_, o, ho, _⟩ := G.rep.owned z
  rw [h1] at ho; cases ho
/-- the arguments, as the callee sees them -/
theorem arg_of {v : V} {r : R} {F1 : List Addr} {a : Arg} (G : Good K g O0 e s σ H) (hn : ∀ p ∈ F1, ¬ O0 p ∧ ¬ own e σ p) (h : RV1 K g (Ow (plus O0 F) e σ) σ H v F1 r) (hO : ∀ a, O a → Ow O0 e σ a) (hp : ∀ i, r = .pl i → ∀ a, O a → O0 a)
    (ha : toArgs e [r] = some [a]) : ArgR K g O H v a := by
  have wk : ∀ a, Ow O0 e σ a → Ow (plus O0 F) e σ a := fun a z => z.imp .inl id
  cases r with
  | v d =>
    obtain rfl : Arg.sh d = a := by simpa [toArgs, deref] using ha
    exact .sh (h.2.weak fun a z => wk a (hO a z))
  | fl ds =>
    obtain rfl : Arg.sh (.list ds) = a := by simpa [toArgs, deref] using ha
    obtain ⟨p, xs, rfl, rfl, hp, z, q⟩ := h
    obtain ⟨n1, n2⟩ := hn p (by simp)
    exact .sh (sh_list.mpr ⟨p, xs, rfl, ⟨fun z => (hO p z).elim n1 n2, hp⟩, z, q.weak fun a z => wk a (hO a z)⟩)
  | fd t kvs =>
    obtain rfl : Arg.sh (.dict kvs) = a := by simpa [toArgs, deref] using ha
    obtain ⟨p, o, rfl, rfl, hp, q⟩ := h
    obtain ⟨n1, n2⟩ := hn p (by simp)
    exact .sh (sh_dict.mpr ⟨p, o, rfl, fun z => (hO p z).elim n1 n2, hp, q.is.weak fun a z => wk a (hO a z)⟩)
  | dk =>
    obtain rfl : Arg.dk = a := by simpa [toArgs] using ha
    obtain ⟨_, rfl⟩ := h
    exact .dk
  | pl i =>
    obtain ⟨_, hi⟩ := h
    have hp := hp i rfl
    cases hs : e[i]? with
    | none => simp [toArgs, deref, hs] at ha
    | some sl =>
      have q := G.rep.at' i sl hs
      cases sl with
      | un => simp [toArgs, deref, hs] at ha
      | dk => simp [toArgs, deref, hs] at ha
      | sh d' =>
        obtain rfl : Arg.sh d' = a := by simpa [toArgs, deref, hs] using ha
        obtain ⟨v', h1, h2⟩ := q
        rw [hi] at h1; cases h1
        exact .sh (h2.weak hO)
      | ol ds =>
        obtain rfl : Arg.sh (.list ds) = a := by simpa [toArgs, deref, hs] using ha
        obtain ⟨p, xs, h1, n0, h3, h4, h5⟩ := q
        rw [hi] at h1; cases h1
        exact .sh (sh_list.mpr ⟨p, xs, rfl, ⟨fun z => n0 (hp p z), h3⟩, h4, h5.weak hO⟩)
      | od t kvs =>
        obtain rfl : Arg.sh (.dict kvs) = a := by simpa [toArgs, deref, hs] using ha
        obtain ⟨p, o, h1, n0, h3, h5⟩ := q
        rw [hi] at h1; cases h1
        exact .sh (sh_dict.mpr ⟨p, o, rfl, fun z => n0 (hp p z), h3, h5.is.weak hO⟩)
theorem toArgs_cons {r : R} {rs : List R} {as : List Arg} (h : toArgs e (r :: rs) = some as) : ∃ a as', as = a :: as' ∧ toArgs e [r] = some [a] ∧ toArgs e rs = some as' := by
  cases r <;> simp only [toArgs] at h ⊢
  case dk =>
    cases h2 : toArgs e rs with
    | none => rw [h2] at h; cases h
    | some as' => rw [h2] at h; cases h; exact ⟨_, _, rfl, rfl, rfl⟩
  all_goals
    split at h
    · rename_i d ds h1 h2
      cases h
      refine ⟨_, _, rfl, ?_, h2⟩
      simp [h1]
    · cases h
theorem args_of (G : Good K g O0 e s σ H) (hO : ∀ a, O a → Ow O0 e σ a) : ∀ {vs : List V} {F1 : List Addr} {rs : List R} {as : List Arg}, RVs K g (Ow (plus O0 F) e σ) σ H vs F1 rs → (∀ p ∈ F1, ¬ O0 p ∧ ¬ own e σ p) → (hasPl rs = true → ∀ a, O a → O0 a) → toArgs e rs = some as → Paired (ArgR K g O H) vs as
  | _, _, _, as, .nil, _, _, h => by
    obtain rfl : as = [] := by simpa [toArgs] using h.symm
    exact .nil
  | _, _, _, as, @RVs.cons _ _ _ _ _ v vs F1 F2 r rs h t _, hn, hp, ha => by
    obtain ⟨a, as', rfl, h1, h2⟩ := toArgs_cons ha
    refine .cons (arg_of G (fun p z => hn p (List.mem_append_left _ z)) h hO (fun i e => ?_) h1) (args_of G hO t (fun p z => hn p (List.mem_append_right _ z)) (fun z => ?_) h2)
    · subst e; exact hp rfl
    · refine hp ?_
      cases r <;> first | rfl | exact z
theorem RO.flat {O O' : AP} {v : V} {r : R} (f : flatR r = true) (h : RO K O H v F r) : RO K O' H v F r := by
  cases r with
  | v d => exact ⟨h.1, h.2.flat f⟩
  | fl ds =>
    obtain ⟨p, xs, h1, h2, h3, h4, h5⟩ := h
    exact ⟨p, xs, h1, h2, h3, h4, Paired.imp_mem h5 fun _ d hd q => q.flat (flatA_mem f d hd)⟩
  | fd t kvs => simp [flatR] at f
  | pl i => exact h.elim
  | dk => exact h.elim
theorem RO.weak {O O' : AP} {v : V} {r : R} (n : ∀ a, O' a → O a) (h : RO K O H v F r) : RO K O' H v F r := by
  cases r with
  | v d => exact ⟨h.1, h.2.weak n⟩
  | fl ds =>
    obtain ⟨p, xs, h1, h2, h3, h4, h5⟩ := h
    exact ⟨p, xs, h1, h2, h3, h4, h5.weak n⟩
  | fd t kvs =>
    obtain ⟨p, o, h1, h2, h3, h5⟩ := h
    exact ⟨p, o, h1, h2, h3, h5.weak n⟩
  | pl i => exact h.elim
  | dk => exact h.elim
theorem XcR.flat {O O' : AP} {c : Nat} {x : Option PyData} {cls : Value} {dd : Option Addr} (f : flatO x = true) (h : XcR xc K O H c x cls dd) : XcR xc K O' H c x cls dd := by
  obtain ⟨fn, e, h⟩ := h
  refine ⟨fn, e, ?_⟩
  cases fn with
  | none => cases x with
    | none => exact h
    | some d => exact h.elim
  | some m => cases x with
    | none => exact h.elim
    | some d => obtain ⟨a, v, h1, h2, h3⟩ := h; exact ⟨a, v, h1, h2, h3.flat f⟩

theorem call_ok {f np : Nat} {as : Es} (hnp : ∀ args s, cl f args s ≠ .bad → args.length = np) {Q : VK} (h : tE xc K W (fun m => ev cl (.call f as) m) σ H Q) :
    tEs xc K W (fun m => evs cl as m) σ H fun vs H1 => spF xc K np (cl f) vs H1 Q fun c d H => W c d σ H := by
  obtain ⟨g, O0, e, s, G, h⟩ := h
  refine ⟨g, O0, e, s, G, ?_⟩
  show PostEs xc K W g O0 e σ H _ (evs cl as ⟨e, s⟩)
  have h : PostE xc K W g O0 e σ H Q (match evs cl as ⟨e, s⟩ with
    | .ok rs m1 => match toArgs m1.e rs with
      | some as => match cl f as m1.s with
        | .ok r s => if hasPl rs = true ∧ flatR r = false then .bad else match r with
          | .pl _ => .bad
          | .dk => .bad
          | r => .ok r ⟨m1.e, s⟩
        | .rz c f s => if hasPl rs = true ∧ flatO f = false then .bad else .rz c f ⟨m1.e, s⟩
        | .bad => .bad
      | none => .bad
    | .rz c f m1 => .rz c f m1
    | .bad => .bad) := h
  cases hf : evs cl as ⟨e, s⟩ with
  | rz c f m1 => simp only [hf] at h; exact h
  | bad => simp only [hf] at h; exact h
  | ok rs m1 =>
    simp only [hf] at h
    intro vs H1 F1 t1 rvs
    cases ha : toArgs m1.e rs with
    | none => simp only [ha] at h; exact h.elim
    | some args =>
      simp only [ha] at h
      have G1 := G.step0 t1
      have nw : ∀ p ∈ F1, ¬ O0 p ∧ ¬ own m1.e σ p := fun p hp => ⟨(t1.new p hp).2.1, (t1.new p hp).2.2.1⟩
      have fin : ∀ (O : AP) {r : R} {s' : DS}, (∀ a, O a → Ow O0 m1.e σ a) → (∀ v H' F', RO K (plus O F') H' v F' r → RO K (plus (Ow O0 m1.e σ) F') H' v F' r) →
          (∀ v H' F, Stp K g O0 e σ H F ⟨m1.e, s'⟩ H' → RV1 K g (Ow (plus O0 F) m1.e σ) σ H' v F r → Q v H') →
          ∀ v H' F', Keep (DkS g) H1 H' → (∀ p ∈ F', H1 p = none ∧ H' p ≠ none) → RO K (plus O F') H' v F' r → DkRep g s' H' → Q v H' := fun O r s' hO hr h v H' F' k hF ro dk => by
        refine h v H' F' (t1.forget.trans0 (G1.called k hF dk)) (RO.rv (RO.weak ?_ (hr v H' F' ro)))
        intro a z
        rcases z with (z | z) | z
        · exact .inl (.inl z)
        · exact .inr z
        · exact .inl (.inr z)
      by_cases hp : hasPl rs = true
      · -- an own one is lent
        have bad : ∀ r s', cl f args m1.s = .ok r s' → flatR r = true := fun r s' hc => by
          simp only [hc] at h
          cases hfl : flatR r with
          | true => rfl
          | false => simp only [hp, hfl, and_self, if_true] at h; exact h.elim
        cases hc : cl f args m1.s with
        | bad => simp only [hc] at h; exact h.elim
        | rz c x s' =>
          simp only [hc] at h
          have hfl : flatO x = true := by
            cases hfl : flatO x with
            | true => rfl
            | false => simp only [hp, hfl, and_self, if_true] at h; exact h.elim
          rw [if_neg (by rw [hfl]; simp)] at h
          refine ⟨?_, g, O0, args, m1.s, G.dk0, G1.oe, t1.dk, args_of G1 (fun a z => .inl z) rvs nw (fun _ _ z => z) ha, ?_⟩
          · rw [Paired.len (args_of (O := O0) G1 (fun a z => .inl z) rvs nw (fun _ _ z => z) ha)]; exact hnp args m1.s (by rw [hc]; simp)
          · rw [hc]
            intro cls dd H' k x dk
            exact h cls dd H' (t1.forget.trans0 (G1.called (F := []) k (fun _ z => nomatch z) dk)) (x.flat hfl)
        | ok r s' =>
          have hfl := bad r s' hc
          simp only [hc] at h
          rw [if_neg (by rw [hfl]; simp)] at h
          refine ⟨?_, g, O0, args, m1.s, G.dk0, G1.oe, t1.dk, args_of G1 (fun a z => .inl z) rvs nw (fun _ _ z => z) ha, ?_⟩
          · rw [Paired.len (args_of (O := O0) G1 (fun a z => .inl z) rvs nw (fun _ _ z => z) ha)]; exact hnp args m1.s (by rw [hc]; simp)
          · rw [hc]
            cases r with
            | pl i => exact h.elim
            | dk => exact h.elim
            | v d => exact fin O0 (fun a z => .inl z) (fun v H' F' z => z.flat hfl) h
            | fl d => exact fin O0 (fun a z => .inl z) (fun v H' F' z => z.flat hfl) h
            | fd t d => exact fin O0 (fun a z => .inl z) (fun v H' F' z => z.flat hfl) h
      · have oe : ∀ a, Ow O0 m1.e σ a → H1 a ≠ none := fun a z => z.elim (G1.oe a) fun z q => by
          obtain ⟨_, o, ho, _⟩ := G1.rep.owned z
          rw [q] at ho; cases ho
        have ap := args_of (O := Ow O0 m1.e σ) G1 (fun a z => z) rvs nw (fun z => absurd z hp) ha
        cases hc : cl f args m1.s with
        | bad => simp only [hc] at h; exact h.elim
        | rz c x s' =>
          simp only [hc] at h
          rw [if_neg fun z => hp z.1] at h
          refine ⟨by rw [Paired.len ap]; exact hnp args m1.s (by rw [hc]; simp), g, Ow O0 m1.e σ, args, m1.s, fun a z => .inl (G.dk0 a z), oe, t1.dk, ap, ?_⟩
          rw [hc]
          intro cls dd H' k x dk
          exact h cls dd H' (t1.forget.trans0 (G1.called (F := []) k (fun _ z => nomatch z) dk)) x
        | ok r s' =>
          simp only [hc] at h
          rw [if_neg fun z => hp z.1] at h
          refine ⟨by rw [Paired.len ap]; exact hnp args m1.s (by rw [hc]; simp), g, Ow O0 m1.e σ, args, m1.s, fun a z => .inl (G.dk0 a z), oe, t1.dk, ap, ?_⟩
          rw [hc]
          cases r with
          | pl i => exact h.elim
          | dk => exact h.elim
          | v d => exact fin _ (fun a z => z) (fun v H' F' z => z) h
          | fl d => exact fin _ (fun a z => z) (fun v H' F' z => z) h
          | fd t d => exact fin _ (fun a z => z) (fun v H' F' z => z) h
end
end PV

/-! PV.10: what is handed on; displays; and, or, if; tests -/
namespace PV
open PySem PySem.Spec L2

section
variable {xc : XC} {K : PySem.W.Frag} {W : WX} {cl : Nat → List Arg → DS → FRes} {g : Gd} {O O0 : AP} {e e0 e' : Env} {s : DS} {σ : L2.St} {H H0 H1 H' : Hp} {F : List Addr} {m m1 : M}
theorem ow_of (h : ∀ a, own e' σ a → own e σ a) : ∀ a, Ow O0 e' σ a → Ow O0 e σ a := fun a z => z.imp id (h a)
theorem esc_ok {v : V} {r : R} {d : PyData} {F1 : List Addr} (rep : Rep K g O0 e σ H) (h : RV1 K g (Ow (plus O0 F) e σ) σ H v F1 r) (hn : ∀ p ∈ F1, ¬ O0 p ∧ ¬ own e σ p) (he : esc e r = some (d, e')) :
    Rep K g O0 e' σ H ∧ (∀ a, own e' σ a → own e σ a) ∧ Sh K (Ow O0 e' σ) H v d := by
  have wk : ∀ a, Ow O0 e σ a → Ow (plus O0 F) e σ a := fun a z => z.imp .inl id
  cases r with
  | v d' =>
    obtain ⟨rfl, rfl⟩ : d' = d ∧ e = e' := by simpa [esc] using he
    exact ⟨rep, fun _ z => z, h.2.weak wk⟩
  | fl ds =>
    obtain ⟨rfl, rfl⟩ : PyData.list ds = d ∧ e = e' := by simpa [esc] using he
    obtain ⟨p, xs, rfl, rfl, hp, z, q⟩ := h
    obtain ⟨n1, n2⟩ := hn p (by simp)
    exact ⟨rep, fun _ z => z, sh_list.mpr ⟨p, xs, rfl, ⟨fun z => z.elim n1 n2, hp⟩, z, q.weak wk⟩⟩
  | fd t kvs =>
    obtain ⟨rfl, rfl⟩ : PyData.dict kvs = d ∧ e = e' := by simpa [esc] using he
    obtain ⟨p, o, rfl, rfl, hp, q⟩ := h
    obtain ⟨n1, n2⟩ := hn p (by simp)
    exact ⟨rep, fun _ z => z, sh_dict.mpr ⟨p, o, rfl, fun z => z.elim n1 n2, hp, q.is.weak wk⟩⟩
  | dk => simp [esc] at he
  | pl i =>
    obtain ⟨_, hi⟩ := h
    cases hs : e[i]? with
    | none => simp [esc, hs] at he
    | some sl =>
      cases sl with
      | un => simp [esc, hs] at he
      | dk => simp [esc, hs] at he
      | sh d' =>
        obtain ⟨rfl, rfl⟩ : d' = d ∧ e = e' := by simpa [esc, hs] using he
        obtain ⟨v', h1, h2⟩ := rep.at' i _ hs
        rw [hi] at h1; cases h1
        exact ⟨rep, fun _ z => z, h2⟩
      | ol ds =>
        obtain ⟨rfl, rfl⟩ : PyData.list ds = d ∧ e.set i (.sh (.list ds)) = e' := by simpa [esc, hs] using he
        obtain ⟨v', h1, h2, h3⟩ := rep.share (.inl ⟨ds, hs, rfl⟩)
        rw [hi] at h1; cases h1
        exact ⟨h3, fun a z => own_set' rfl z, h2⟩
      | od t kvs =>
        obtain ⟨rfl, rfl⟩ : PyData.dict kvs = d ∧ e.set i (.sh (.dict kvs)) = e' := by simpa [esc, hs] using he
        obtain ⟨v', h1, h2, h3⟩ := rep.share (.inr ⟨t, kvs, hs, rfl⟩)
        rw [hi] at h1; cases h1
        exact ⟨h3, fun a z => own_set' rfl z, h2⟩
theorem RV1.weak {v : V} {r : R} {O' : AP} (n : ∀ a, O' a → O a) (h : RV1 K g O σ H v F r) : RV1 K g O' σ H v F r := h.go (M := fun _ => False) Keep.refl (fun _ z => z.elim) (fun _ _ z => z) fun a z => .inl (n a z)
theorem RVs.weak {vs : List V} {rs : List R} {O' : AP} (n : ∀ a, O' a → O a) (h : RVs K g O σ H vs F rs) : RVs K g O' σ H vs F rs := h.go (M := fun _ => False) Keep.refl (fun _ z => z.elim) (fun _ _ z => z) fun a z => .inl (n a z)
theorem escs_ok : ∀ {rs : List R} {vs : List V} {ds : List PyData} {F1 : List Addr} {e : Env}, Rep K g O0 e σ H → RVs K g (Ow (plus O0 F) e σ) σ H vs F1 rs → (∀ p ∈ F1, ¬ O0 p ∧ ¬ own e σ p) → escs e rs = some (ds, e') →
    Rep K g O0 e' σ H ∧ (∀ a, own e' σ a → own e σ a) ∧ ShA K (Ow O0 e' σ) H vs ds
  | [], vs, ds, F1, e, rep, h, _, he => by
    cases h
    obtain ⟨rfl, rfl⟩ : [] = ds ∧ e = e' := by simpa [escs] using he
    exact ⟨rep, fun _ z => z, .nil⟩
  | r :: rs, vs, ds, F1, e, rep, h, hn, he => by
    cases h with
    | cons h1 h2 hd =>
      rename_i v vs F1 F2
      simp only [escs] at he
      split at he
      · rename_i d e1 he1
        split at he
        · rename_i ds' e2 he2
          cases he
          obtain ⟨r1, o1, s1⟩ := esc_ok rep h1 (fun p hp => hn p (List.mem_append_left _ hp)) he1
          obtain ⟨r2, o2, s2⟩ := escs_ok r1 (h2.weak (ow_of o1)) (fun p hp => ⟨(hn p (List.mem_append_right _ hp)).1, fun z => (hn p (List.mem_append_right _ hp)).2 (o1 p z)⟩) he2
          exact ⟨r2, fun a z => o1 a (o2 a z), .cons (s1.weak (ow_of o2)) s2⟩
        · cases he
      · cases he
theorem stp_esc (G : Good K g O0 e s σ H) (rep : Rep K g O0 e' σ H) (o : ∀ a, own e' σ a → own e σ a) : Stp K g O0 e σ H [] ⟨e', s⟩ H :=
  ⟨Keep.refl, o, (fun _ z => nomatch z), rep.weak fun a z => z.elim id (fun z => nomatch z), G.dk⟩
theorem escs_len : ∀ {rs : List R} {e : Env} {ds : List PyData}, escs e rs = some (ds, e') → ds.length = rs.length
  | [], e, ds, h => by
    obtain ⟨rfl, _⟩ : [] = ds ∧ e = e' := by simpa [escs] using h
    rfl
  | r :: rs, e, ds, h => by
    simp only [escs] at h
    split at h
    · split at h
      · rename_i h2
        cases h
        simp [escs_len h2]
      · cases h
    · cases h
theorem tup_ok {as : Es} {Q : VK} (h : tE xc K W (fun m => ev cl (.tup as) m) σ H Q) : tEs xc K W (fun m => evs cl as m) σ H fun xs H1 => xs.length ≤ sizeLine ∧ ∀ p, H1 p = none → Q (.ref p) (upd H1 p (.tup xs)) := by
  obtain ⟨g, O0, e, s, G, h⟩ := h
  refine ⟨g, O0, e, s, G, ?_⟩
  show PostEs xc K W g O0 e σ H _ (evs cl as ⟨e, s⟩)
  have h : PostE xc K W g O0 e σ H Q (match evs cl as ⟨e, s⟩ with
    | .ok rs m1 => match escs m1.e rs with
      | some (ds, e) => if ds.length ≤ LIM then .ok (.v (.tuple ds)) ⟨e, m1.s⟩ else .bad
      | none => .bad
    | .rz c f m1 => .rz c f m1
    | .bad => .bad) := h
  cases hf : evs cl as ⟨e, s⟩ with
  | rz c f m1 => simp only [hf] at h; exact h
  | bad => simp only [hf] at h; exact h
  | ok rs m1 =>
    simp only [hf] at h
    intro vs H1 F1 t1 rvs
    cases he : escs m1.e rs with
    | none => simp only [he] at h; exact h.elim
    | some de =>
      obtain ⟨ds, e2⟩ := de
      simp only [he] at h
      have G1 := G.step0 t1
      obtain ⟨r2, o2, s2⟩ := escs_ok G1.rep rvs (fun p hp => ⟨(t1.new p hp).2.1, (t1.new p hp).2.2.1⟩) he
      by_cases hl : ds.length ≤ LIM
      · rw [if_pos hl] at h
        refine ⟨by rw [Paired.len s2, ← LIM_eq]; exact hl, fun p np => ?_⟩
        have t2 := t1.forget.trans0 (stp_esc G1 r2 o2)
        have ro := RO.tup (K := K) (O := Ow O0 e2 σ) np (by rw [Paired.len s2, ← LIM_eq]; exact hl) s2
        exact post_op h G t2 (F' := []) (Keep.new np) nilF ro.rv
      · rw [if_neg hl] at h; exact h.elim
theorem lst_ok {as : Es} {Q : VK} (h : tE xc K W (fun m => ev cl (.lst as) m) σ H Q) : tEs xc K W (fun m => evs cl as m) σ H fun xs H1 => xs.length ≤ sizeLine ∧ ∀ p, H1 p = none → Q (.ref p) (upd H1 p (.lst xs)) := by
  obtain ⟨g, O0, e, s, G, h⟩ := h
  refine ⟨g, O0, e, s, G, ?_⟩
  show PostEs xc K W g O0 e σ H _ (evs cl as ⟨e, s⟩)
  have h : PostE xc K W g O0 e σ H Q (match evs cl as ⟨e, s⟩ with
    | .ok rs m1 => match escs m1.e rs with
      | some (ds, e) => if ds.length ≤ LIM then .ok (.fl ds) ⟨e, m1.s⟩ else .bad
      | none => .bad
    | .rz c f m1 => .rz c f m1
    | .bad => .bad) := h
  cases hf : evs cl as ⟨e, s⟩ with
  | rz c f m1 => simp only [hf] at h; exact h
  | bad => simp only [hf] at h; exact h
  | ok rs m1 =>
    simp only [hf] at h
    intro vs H1 F1 t1 rvs
    cases he : escs m1.e rs with
    | none => simp only [he] at h; exact h.elim
    | some de =>
      obtain ⟨ds, e2⟩ := de
      simp only [he] at h
      have G1 := G.step0 t1
      obtain ⟨r2, o2, s2⟩ := escs_ok G1.rep rvs (fun p hp => ⟨(t1.new p hp).2.1, (t1.new p hp).2.2.1⟩) he
      by_cases hl : ds.length ≤ LIM
      · rw [if_pos hl] at h
        refine ⟨by rw [Paired.len s2, ← LIM_eq]; exact hl, fun p np => ?_⟩
        have t2 := t1.forget.trans0 (stp_esc G1 r2 o2)
        have ro := RO.new (K := K) (O := Ow O0 e2 σ) np (by rw [Paired.len s2, ← LIM_eq]; exact hl) s2
        exact post_op h G t2 (Keep.new np) (newF np) ro.rv
      · rw [if_neg hl] at h; exact h.elim
/-- e, a plain value; then the rest -/
theorem then_ok {f : M → Res R} {k : PyData → M → Res R} {Q : VK}
    (h : tE xc K W (fun m => match f m with
      | .ok (.v d) m1 => k d m1
      | .ok _ _ => .bad
      | .rz c f m1 => .rz c f m1
      | .bad => .bad) σ H Q) {Q' : VK} (i : ∀ g O0 e s v d H1, Good K g O0 e s σ H1 → Sh K (Ow O0 e σ) H1 v d → PostE xc K W g O0 e σ H1 Q (k d ⟨e, s⟩) → Q' v H1) : tE xc K W f σ H Q' := by
  obtain ⟨g, O0, e, s, G, h⟩ := h
  refine ⟨g, O0, e, s, G, ?_⟩
  cases hf : f ⟨e, s⟩ with
  | rz c f m1 => simp only [hf] at h; exact h
  | bad => simp only [hf] at h; exact h
  | ok r m1 =>
    simp only [hf] at h
    intro v H1 F1 t1 rv
    cases r with
    | v d =>
      obtain ⟨rfl, rv⟩ := rv
      simp only at h
      have rv' : Sh K (Ow O0 m1.e σ) H1 v d := rv.weak fun a z => z.imp .inl id
      refine i g O0 m1.e m1.s v d H1 (G.step0 t1) rv' ?_
      show PostE xc K W g O0 m1.e σ H1 Q (k d m1)
      cases hk : k d m1 with
      | bad => rw [hk] at h; exact h
      | rz c f m2 => rw [hk] at h; exact rz_of0 t1 h
      | ok r m2 => rw [hk] at h; exact fun v2 H2 F2 t2 r2 => h v2 H2 F2 (t1.trans0 t2) r2
    | fl ds => exact h.elim
    | fd t kvs => exact h.elim
    | pl i => exact h.elim
    | dk => exact h.elim
theorem and_ok {a b : E} {Q : VK} (h : tE xc K W (fun m => ev cl (.and2 a b) m) σ H Q) : tE xc K W (fun m => ev cl a m) σ H fun x H1 => ∃ c, x = .bl c ∧ if c = true then tE xc K W (fun m => ev cl b m) σ H1 Q else Q (.bl false) H1 := by
  refine then_ok (f := fun m => ev cl a m) (k := fun d m1 => match d with
    | .bool true => ev cl b m1
    | .bool false => .ok (.v (.bool false)) m1
    | _ => .bad) (Q := Q) ?_ fun g O0 e s v d H1 G hs h => ?_
  · obtain ⟨g, O0, e, s, G, h⟩ := h
    refine ⟨g, O0, e, s, G, ?_⟩
    have h : PostE xc K W g O0 e σ H Q (match ev cl a ⟨e, s⟩ with
      | .ok (.v (.bool true)) m1 => ev cl b m1
      | .ok (.v (.bool false)) m1 => .ok (.v (.bool false)) m1
      | .ok _ _ => .bad
      | .rz c f m1 => .rz c f m1
      | .bad => .bad) := h
    revert h
    show _ → PostE xc K W g O0 e σ H Q (match ev cl a ⟨e, s⟩ with
      | .ok (.v d) m1 => _
      | .ok _ _ => .bad
      | .rz c f m1 => .rz c f m1
      | .bad => .bad)
    cases ev cl a ⟨e, s⟩ with
    | bad => exact id
    | rz c f m1 => exact id
    | ok r m1 => cases r with
      | v d => cases d with
        | bool c => cases c <;> exact id
        | none => exact id
        | int i => exact id
        | str i => exact id
        | list i => exact id
        | tuple i => exact id
        | dict i => exact id
      | fl ds => exact id
      | fd t kvs => exact id
      | pl i => exact id
      | dk => exact id
  · cases d with
    | bool c => cases c with
      | true => exact ⟨true, sh_bool.mp hs, by rw [if_pos rfl]; exact ⟨g, O0, e, s, G, h⟩⟩
      | false => exact ⟨false, sh_bool.mp hs, by rw [if_neg (by simp)]; exact h (.bl false) H1 [] G.stp ⟨rfl, sh_bool.mpr rfl⟩⟩
    | none => exact h.elim
    | int i => exact h.elim
    | str i => exact h.elim
    | list i => exact h.elim
    | tuple i => exact h.elim
    | dict i => exact h.elim
theorem or_ok {a b : E} {Q : VK} (h : tE xc K W (fun m => ev cl (.or2 a b) m) σ H Q) : tE xc K W (fun m => ev cl a m) σ H fun x H1 => ∃ c, x = .bl c ∧ if c = true then Q (.bl true) H1 else tE xc K W (fun m => ev cl b m) σ H1 Q := by
  refine then_ok (f := fun m => ev cl a m) (k := fun d m1 => match d with
    | .bool true => .ok (.v (.bool true)) m1
    | .bool false => ev cl b m1
    | _ => .bad) (Q := Q) ?_ fun g O0 e s v d H1 G hs h => ?_
  · obtain ⟨g, O0, e, s, G, h⟩ := h
    refine ⟨g, O0, e, s, G, ?_⟩
    have h : PostE xc K W g O0 e σ H Q (match ev cl a ⟨e, s⟩ with
      | .ok (.v (.bool true)) m1 => .ok (.v (.bool true)) m1
      | .ok (.v (.bool false)) m1 => ev cl b m1
      | .ok _ _ => .bad
      | .rz c f m1 => .rz c f m1
      | .bad => .bad) := h
    revert h
    show _ → PostE xc K W g O0 e σ H Q (match ev cl a ⟨e, s⟩ with
      | .ok (.v d) m1 => _
      | .ok _ _ => .bad
      | .rz c f m1 => .rz c f m1
      | .bad => .bad)
    cases ev cl a ⟨e, s⟩ with
    | bad => exact id
    | rz c f m1 => exact id
    | ok r m1 => cases r with
      | v d => cases d with
        | bool c => cases c <;> exact id
        | none => exact id
        | int i => exact id
        | str i => exact id
        | list i => exact id
        | tuple i => exact id
        | dict i => exact id
      | fl ds => exact id
      | fd t kvs => exact id
      | pl i => exact id
      | dk => exact id
  · cases d with
    | bool c => cases c with
      | false => exact ⟨false, sh_bool.mp hs, by rw [if_neg (by simp)]; exact ⟨g, O0, e, s, G, h⟩⟩
      | true => exact ⟨true, sh_bool.mp hs, by rw [if_pos rfl]; exact h (.bl true) H1 [] G.stp ⟨rfl, sh_bool.mpr rfl⟩⟩
    | none => exact h.elim
    | int i => exact h.elim
    | str i => exact h.elim
    | list i => exact h.elim
    | tuple i => exact h.elim
    | dict i => exact h.elim
/-- a test, then -/
theorem if_ok {c : T} {f k : M → Res R} {Q : VK} (h : tE xc K W (fun m => match evT cl c m with
      | .ok true m1 => f m1
      | .ok false m1 => k m1
      | .rz c f m1 => .rz c f m1
      | .bad => .bad) σ H Q) : tT xc K W (fun m => evT cl c m) σ H fun b H1 => if b = true then tE xc K W f σ H1 Q else tE xc K W k σ H1 Q := by
  obtain ⟨g, O0, e, s, G, h⟩ := h
  refine ⟨g, O0, e, s, G, ?_⟩
  show PostT xc K W g O0 e σ H _ (evT cl c ⟨e, s⟩)
  cases hf : evT cl c ⟨e, s⟩ with
  | rz c f m1 => simp only [hf] at h; exact h
  | bad => simp only [hf] at h; exact h
  | ok b m1 =>
    intro H1 t1
    have go : ∀ x : M → Res R, PostE xc K W g O0 e σ H Q (x m1) → tE xc K W x σ H1 Q := fun x h => by
      refine ⟨g, O0, m1.e, m1.s, G.step0 t1, ?_⟩
      show PostE xc K W g O0 m1.e σ H1 Q (x m1)
      cases hk : x m1 with
      | bad => rw [hk] at h; exact h
      | rz c f m2 => rw [hk] at h; exact rz_of0 t1 h
      | ok r m2 => rw [hk] at h; exact fun v2 H2 F2 t2 r2 => h v2 H2 F2 (t1.trans0 t2) r2
    cases b with
    | true => simp only [hf] at h; rw [if_pos rfl]; exact go f h
    | false => simp only [hf] at h; rw [if_neg (by simp)]; exact go k h
theorem ift_ok {c : T} {f k : M → Res Bool} {Q : Bool → Hp → Prop} (h : tT xc K W (fun m => match evT cl c m with
      | .ok true m1 => f m1
      | .ok false m1 => k m1
      | .rz c f m1 => .rz c f m1
      | .bad => .bad) σ H Q) : tT xc K W (fun m => evT cl c m) σ H fun b H1 => if b = true then tT xc K W f σ H1 Q else tT xc K W k σ H1 Q := by
  obtain ⟨g, O0, e, s, G, h⟩ := h
  refine ⟨g, O0, e, s, G, ?_⟩
  show PostT xc K W g O0 e σ H _ (evT cl c ⟨e, s⟩)
  cases hf : evT cl c ⟨e, s⟩ with
  | rz c f m1 => simp only [hf] at h; exact h
  | bad => simp only [hf] at h; exact h
  | ok b m1 =>
    intro H1 t1
    have go : ∀ x : M → Res Bool, PostT xc K W g O0 e σ H Q (x m1) → tT xc K W x σ H1 Q := fun x h => by
      refine ⟨g, O0, m1.e, m1.s, G.step0 t1, ?_⟩
      show PostT xc K W g O0 m1.e σ H1 Q (x m1)
      cases hk : x m1 with
      | bad => rw [hk] at h; exact h
      | rz c f m2 => rw [hk] at h; exact rz_of0 t1 h
      | ok r m2 => rw [hk] at h; exact fun H2 t2 => h H2 (t1.trans0 t2)
    cases b with
    | true => simp only [hf] at h; rw [if_pos rfl]; exact go f h
    | false => simp only [hf] at h; rw [if_neg (by simp)]; exact go k h
theorem tT.ret {b : Bool} {Q : Bool → Hp → Prop} (h : tT xc K W (fun m => .ok b m) σ H Q) : Q b H := by
  obtain ⟨g, O0, e, s, G, h⟩ := h
  exact h H G.stp
/-- a value as a test -/
theorem truth_ok {a : E} {Q : Bool → Hp → Prop} (h : tT xc K W (fun m => evT cl (.e a) m) σ H Q) : tE xc K W (fun m => ev cl a m) σ H fun x H1 => ∃ d, ShT K (fun _ => False) H1 x d ∧ strFits d = true ∧ Q (truth d) H1 := by
  obtain ⟨g, O0, e, s, G, h⟩ := h
  refine ⟨g, O0, e, s, G, ?_⟩
  show PostE xc K W g O0 e σ H _ (ev cl a ⟨e, s⟩)
  have h : PostT xc K W g O0 e σ H Q (match ev cl a ⟨e, s⟩ with
    | .ok r m1 => match deref m1.e r with
      | some d => if strFits d = true then .ok (truth d) m1 else .bad
      | none => .bad
    | .rz c f m1 => .rz c f m1
    | .bad => .bad) := h
  cases hf : ev cl a ⟨e, s⟩ with
  | rz c f m1 => simp only [hf] at h; exact h
  | bad => simp only [hf] at h; exact h
  | ok r m1 =>
    simp only [hf] at h
    intro v H1 F1 t1 rv
    cases hd : deref m1.e r with
    | none => simp only [hd] at h; exact h.elim
    | some d =>
      simp only [hd] at h
      by_cases hs : strFits d = true
      · rw [if_pos hs] at h
        have q := rv.val t1.rep hd
        refine ⟨d, ?_, hs, h H1 t1.forget⟩
        cases d with
        | list ds => obtain ⟨a, xs, e, z, l, q⟩ := q; exact ⟨a, xs, e, z, l, q.weak fun _ z => z.elim⟩
        | dict kvs => simp [strFits] at hs
        | none => exact q.weak fun _ z => z.elim
        | bool b => exact q.weak fun _ z => z.elim
        | int i => exact q.weak fun _ z => z.elim
        | str i => exact q.weak fun _ z => z.elim
        | tuple i => exact q.weak fun _ z => z.elim
      · rw [if_neg hs] at h; exact h.elim
theorem emp_eq {α β : Type} {F : α → β → Prop} {xs : List α} {ys : List β} (h : Paired F xs ys) : xs.isEmpty = ys.isEmpty := by cases h <;> rfl
theorem tru_of {x : V} {d : PyData} (h : ShT K O H x d) (hs : strFits d = true) : TruV K x H (truth d) := by
  cases d with
  | none => rw [t_none h]; exact rfl
  | bool b => rw [t_bool h]; exact rfl
  | int i => rw [t_int h]; exact rfl
  | str s => rw [t_str h]; exact ⟨by simpa [strFits, LIM_eq] using hs, rfl⟩
  | list ds => obtain ⟨a, xs, rfl, l, _, q⟩ := t_list h; exact .inl ⟨xs, SqL.of l, by rw [emp_eq q]; rfl⟩
  | tuple ds => obtain ⟨a, xs, rfl, l, _, q⟩ := t_tup h; exact .inr (.inl ⟨xs, l, by rw [emp_eq q]; rfl⟩)
  | dict kvs => simp [strFits] at hs
end
end PV

/-! PV.11: the rules -/
namespace PV
open PySem PySem.Spec L2

section
variable {X : Cx} {xc : XC} {W : WX} {cl : Nat → List Arg → DS → FRes} {a b c e x y : Expr} {es : List Expr} {ea eb ec el eh : E} {as : Es} {ta tb tc : T} {pos p p2 : Pos} {n : Str}
theorem da_nil : DA X xc W cl [] .nil := PAimp pa_nil fun σ H Q h => nil_ok h
theorem da_cons (ha : DE X xc W cl e ea) (hr : DA X xc W cl es as) (hs : starEach (e :: es) X.env = (false, eval e X.env) :: starEach es X.env := by rfl) : DA X xc W cl (e :: es) (.cons ea as) :=
  PAimp (pa_cons ha hr hs) fun σ H Q h => cons_ok (f := fun m => ev cl ea m) (fs := fun m => evs cl as m) h
theorem de_tup {k : Nat} (h : DA X xc W cl es as) : DE X xc W cl (.Tuple es k pos) (.tup as) := PEimp (pe_tup h) fun σ H Q h => tup_ok h
theorem de_lst (h : DA X xc W cl es as) : DE X xc W cl (.List es pos) (.lst as) := PEimp (pe_lst h) fun σ H Q h => lst_ok h
/-- calls of what is built in -/
theorem de_blt {id : String} {r : List V → Hp → VK → Prop} {o : Op} (hc : CallR X (.builtin id) r) (ho : OpE X.K r o) (hg : Gl X n) (hm : X.mg n = none) (hv : bootBuiltins n = some (.builtin id)) (ha : DA X xc W cl (e :: es) as)
    (hn : n ≠ "__name__" := by decide) (hdb : (n == ("__debug__" : Str)) = false := by decide) (he : starEach (e :: es) X.env = (false, eval e X.env) :: starEach es X.env := by rfl) (hpl : (backTo pos (starEach es X.env)).any (·.1) = false := by rfl) :
    DE X xc W cl (.Call (.Name n p) (e :: es) [] pos) (.op o as) := PEimp (pe_callB hc hg hm hv ha hn hdb he hpl) fun σ H Q h => ho.use h
theorem de_ty {id : String} {r : List V → Hp → VK → Prop} {o : Op} (hc : CallR X (.type id) r) (ho : OpE X.K r o) (hg : Gl X n) (hm : X.mg n = none) (hv : bootBuiltins n = some (.type id)) (ha : DA X xc W cl (e :: es) as)
    (hn : n ≠ "__name__" := by decide) (hdb : (n == ("__debug__" : Str)) = false := by decide) (he : starEach (e :: es) X.env = (false, eval e X.env) :: starEach es X.env := by rfl) (hpl : (backTo pos (starEach es X.env)).any (·.1) = false := by rfl) :
    DE X xc W cl (.Call (.Name n p) (e :: es) [] pos) (.op o as) := PEimp (pe_callTy hc hg hm hv ha hn hdb he hpl) fun σ H Q h => ho.use h
/-- calls of the text's own defs -/
structure FnIn (X : Cx) (xc : XC) (CX : CXT) (cl : Nat → List Arg → DS → FRes) (k : Nat) (n : Str) (f np : Nat) : Prop where
  fn : ∃ (fa : Addr) (fd : FuncData) (ps : List Str), FnG X.prog X.w X.K X.mg X.base CX k fa fd ps (spF xc X.K np (cl f)) ∧ X.mg n = some (.ref fa) ∧ PySem.W.keepIn X.K (.ref fa) = true ∧ Binds X.K fd ps []
  ln : ∀ args s, cl f args s ≠ .bad → args.length = np
theorem de_call {CX : CXT} {k f np : Nat} (o : Ok X) (hr : Room k X.A) (F : FnIn X xc CX cl k n f np) (hx : ∀ σ, PassesAt CX X σ fun c d H => W c d σ H) (hg : Gl X n) (ha : DA X xc W cl (e :: es) as)
    (hdb : (n == ("__debug__" : Str)) = false := by decide) (he : starEach (e :: es) X.env = (false, eval e X.env) :: starEach es X.env := by rfl) (hpl : (backTo pos (starEach es X.env)).any (·.1) = false := by rfl) :
    DE X xc W cl (.Call (.Name n p) (e :: es) [] pos) (.call f as) := by
  obtain ⟨fa, fd, ps, F1, hm, hk, hb⟩ := F.fn
  exact PEimp (pe_callG (E := fun σ c d H => W c d σ H) F1 o.gd hr hg hm hk hb hx ha hdb he hpl) fun σ H Q h => call_ok F.ln h
theorem de_ix (o : Ok X) (ha : DE X xc W cl a ea) (hb : DE X xc W cl b eb) (hs : PlainIx b := by intro _ _; rfl) : DE X xc W cl (.Subscript a b pos) (.op .idx (.cons ea (.cons eb .nil))) :=
  PEimp (pe_ix (ix_all o.un) ha hb hs) fun σ H Q h => (two_ok (e_idx.use h)).mono fun x H1 h => h.mono fun y H2 h => by
    obtain ⟨x', y', e, h⟩ := h
    cases e; exact h
theorem v_idi {K : PySem.W.Frag} : OpV K (V1 fun x H Q => ∃ i, x = .int i ∧ Q (.int i) H) idiD := by
  intro O H vs ds z Q hp hz hQ
  unfold idiD at hz
  split at hz
  · obtain ⟨x, rfl, h1⟩ := p1 hp
    cases hz
    exact ⟨x, rfl, _, t_int h1, fin_v hQ (sh_int.mpr rfl)⟩
  · cases hz
theorem de_sl00 (ha : DE X xc W cl a ea) : DE X xc W cl (.Subscript a (.Slice none none none p2) pos) (.op (.sl false false) (.cons ea .nil)) :=
  PEimp (pe_slice sl_all ha po_none po_none) fun σ H Q h => (one_ok ((OpE.of (v_sl false false)).use h)).mono fun x H1 h => by
    obtain ⟨x', e, h⟩ := h
    cases e; exact h
theorem de_sl10 (ha : DE X xc W cl a ea) (hl : DE X xc W cl b el) : DE X xc W cl (.Subscript a (.Slice (some b) none none p2) pos) (.op (.sl true false) (.cons ea (.cons el .nil))) :=
  PEimp (pe_slice sl_all ha (po_some hl) po_none) fun σ H Q h => (two_ok ((OpE.of (v_sl true false)).use h)).mono fun x H1 h => h.mono fun y H2 h => by
    obtain ⟨x', i, e, h⟩ := h
    cases e; exact ⟨i, rfl, h⟩
theorem de_sl01 (ha : DE X xc W cl a ea) (hl : DE X xc W cl b el) : DE X xc W cl (.Subscript a (.Slice none (some b) none p2) pos) (.op (.sl false true) (.cons ea (.cons el .nil))) :=
  PEimp (pe_slice sl_all ha po_none (po_some hl)) fun σ H Q h => (two_ok ((OpE.of (v_sl false true)).use h)).mono fun x H1 h => h.mono fun y H2 h => by
    obtain ⟨x', i, e, h⟩ := h
    cases e; exact ⟨i, rfl, h⟩
theorem de_sl11 (ha : DE X xc W cl a ea) (hl : DE X xc W cl b el) (hh : DE X xc W cl c eh) : DE X xc W cl (.Subscript a (.Slice (some b) (some c) none p2) pos) (.op (.sl true true) (.cons ea (.cons (.op .idi (.cons el .nil)) (.cons eh .nil)))) :=
  PEimp (pe_slice sl_all ha (po_some hl) (po_some hh)) fun σ H Q h => (three_ok ((OpE.of (v_sl true true)).use h)).mono fun x H1 h => (one_ok ((OpE.of v_idi).use h)).mono fun y H2 h => by
    obtain ⟨y', e, i, rfl, h⟩ := h
    cases e
    refine ⟨i, rfl, h.mono fun z H3 h => ?_⟩
    obtain ⟨x', i', j, e, h⟩ := h
    cases e; exact ⟨j, rfl, h⟩
/-! and, or, if -/
theorem de_one {op : BoolOp} (h : DE X xc W cl a ea) : DE X xc W cl (.BoolOp op [a] pos) ea := pe_one h
theorem de_and (ha : DE X xc W cl a ea) (hb : DE X xc W cl (.BoolOp .And (b :: es) pos) eb) : DE X xc W cl (.BoolOp .And (a :: b :: es) pos) (.and2 ea eb) := PEimp (pe_and ha hb) fun σ H Q h => and_ok h
theorem de_or (ha : DE X xc W cl a ea) (hb : DE X xc W cl (.BoolOp .Or (b :: es) pos) eb) : DE X xc W cl (.BoolOp .Or (a :: b :: es) pos) (.or2 ea eb) := PEimp (pe_or ha hb) fun σ H Q h => or_ok h
theorem de_ite (hc : DT X xc W cl c tc) (ha : DE X xc W cl a ea) (hb : DE X xc W cl b eb) : DE X xc W cl (.IfExp c a b pos) (.ite tc ea eb) := PEimp (pe_ifExp hc ha hb) fun σ H Q h => if_ok (f := fun m => ev cl ea m) (k := fun m => ev cl eb m) h
theorem v_not {K : PySem.W.Frag} : OpV K (V1 fun x H Q => ∃ c, x = .bl c ∧ Q (.bl (!c)) H) notD := by
  intro O H vs ds z Q hp hz hQ
  unfold notD at hz
  split at hz
  · obtain ⟨x, rfl, h1⟩ := p1 hp
    cases hz
    exact ⟨x, rfl, _, t_bool h1, fin_v hQ (sh_bool.mpr rfl)⟩
  · cases hz
theorem de_not (ha : DE X xc W cl a ea) : DE X xc W cl (.UnaryOp .Not a pos) (.op .not (.cons ea .nil)) := PEimp (pe_not ha) fun σ H Q h => (one_ok ((OpE.of v_not).use h)).mono fun x H1 h => by
    obtain ⟨x', e, h⟩ := h
    cases e; exact h
/-! tests -/
theorem dt_tru (ha : DE X xc W cl a ea) (he : ∀ whole, isTrue a X.env whole = (do let v ← whole; standAt a.pos; holding [v] (truthy v)) := by intro _; rfl) : DT X xc W cl a (.e ea) :=
  PTimp (pt_truth ha he) fun σ H Q h => (truth_ok h).mono fun x H1 h => by
    obtain ⟨d, h1, h2, h3⟩ := h
    exact ⟨_, tru_of h1 h2, h3⟩
/-- what gives a bool -/
def BoolE (cl : Nat → List Arg → DS → FRes) (ea : E) : Prop := ∀ m r m1, ev cl ea m = .ok r m1 → ∃ b, r = .v (.bool b)
theorem bool_ok {K : PySem.W.Frag} (hb : BoolE cl ea) {σ : L2.St} {H : Hp} {Q : Bool → Hp → Prop} (h : tT xc K W (fun m => evT cl (.e ea) m) σ H Q) : tE xc K W (fun m => ev cl ea m) σ H fun x H1 => ∃ k, x = .bl k ∧ Q k H1 := by
  obtain ⟨g, O0, e, s, G, h⟩ := h
  refine ⟨g, O0, e, s, G, ?_⟩
  show PostE xc K W g O0 e σ H _ (ev cl ea ⟨e, s⟩)
  have h : PostT xc K W g O0 e σ H Q (match ev cl ea ⟨e, s⟩ with
    | .ok r m1 => match deref m1.e r with
      | some d => if strFits d = true then .ok (truth d) m1 else .bad
      | none => .bad
    | .rz c f m1 => .rz c f m1
    | .bad => .bad) := h
  cases hf : ev cl ea ⟨e, s⟩ with
  | rz c f m1 => simp only [hf] at h; exact h
  | bad => simp only [hf] at h; exact h
  | ok r m1 =>
    obtain ⟨b, rfl⟩ := hb _ _ _ hf
    simp only [hf] at h
    intro v H1 F1 t1 rv
    exact ⟨b, sh_bool.mp rv.2, h H1 t1.forget⟩
theorem op_bool {o : Op} (h : ∀ e rs r, opE e o rs = some r → ∃ b, r = .v (.bool b)) : BoolE cl (.op o as) := by
  intro m r m1 hm
  have hm : (match evs cl as m with
    | .ok rs m1 => match opE m1.e o rs with
      | some r => Res.ok r m1
      | none => .bad
    | .rz c f m1 => .rz c f m1
    | .bad => .bad) = .ok r m1 := hm
  cases hf : evs cl as m with
  | rz c f m1 => simp only [hf] at hm; cases hm
  | bad => simp only [hf] at hm; cases hm
  | ok rs m1 =>
    simp only [hf] at hm
    cases ho : opE m1.e o rs with
    | none => simp only [ho] at hm; cases hm
    | some z => simp only [ho] at hm; cases hm; exact h _ _ _ ho
theorem boolV {o : Op} (hn : ∀ e rs, dictOp e o rs = none) (h : ∀ ds r, opD o ds = some r → ∃ b, r = .v (.bool b)) : ∀ e rs r, opE e o rs = some r → ∃ b, r = .v (.bool b) := by
  intro e rs r hz
  unfold opE at hz
  rw [hn] at hz
  cases hd : derefs e rs with
  | none => rw [hd] at hz; cases hz
  | some ds => rw [hd] at hz; exact h ds r hz
theorem cmpR_b {o : Op} : ∀ ds r, cmpR o ds = some r → ∃ b, r = .v (.bool b) := by
  intro ds r h
  unfold cmpR at h
  split at h
  · rename_i x y
    cases hc : cmpD o x y with
    | none => rw [hc] at h; cases h
    | some b => rw [hc] at h; cases h; exact ⟨b, rfl⟩
  · cases h
theorem b_lt : BoolE cl (.op .lt as) := op_bool (boolV (fun _ _ => rfl) cmpR_b)
theorem b_le : BoolE cl (.op .le as) := op_bool (boolV (fun _ _ => rfl) cmpR_b)
theorem b_gt : BoolE cl (.op .gt as) := op_bool (boolV (fun _ _ => rfl) cmpR_b)
theorem b_ge : BoolE cl (.op .ge as) := op_bool (boolV (fun _ _ => rfl) cmpR_b)
theorem b_eq : BoolE cl (.op .eq as) := op_bool (boolV (fun _ _ => rfl) fun ds r h => by
  have h : eqD ds = some r := h
  unfold eqD at h
  split at h
  · cases h; exact ⟨_, rfl⟩
  · split at h
    · cases h; exact ⟨_, rfl⟩
    · cases h
  · cases h)
theorem b_ne : BoolE cl (.op .ne as) := op_bool (boolV (fun _ _ => rfl) fun ds r h => by
  have h : neD ds = some r := h
  unfold neD at h
  split at h
  · cases h; exact ⟨_, rfl⟩
  · split at h
    · cases h; exact ⟨_, rfl⟩
    · cases h
  · cases h)
theorem b_isN : BoolE cl (.op .isN as) := op_bool (boolV (fun _ _ => rfl) fun ds r h => by
  have h : isND ds = some r := h
  unfold isND at h
  split at h
  · cases h; exact ⟨_, rfl⟩
  · cases h)
theorem b_notN : BoolE cl (.op .notN as) := op_bool (boolV (fun _ _ => rfl) fun ds r h => by
  have h : notND ds = some r := h
  unfold notND at h
  split at h
  · cases h; exact ⟨_, rfl⟩
  · cases h)
theorem inD_b : ∀ ds r, inD ds = some r → ∃ b, r = .v (.bool b) := by
  intro ds r h
  unfold inD at h
  split at h
  · rename_i x y
    cases hh : hasD x y with
    | none => rw [hh] at h; cases h
    | some b => rw [hh] at h; cases h; exact ⟨_, rfl⟩
  · cases h
theorem notinD_b : ∀ ds r, notinD ds = some r → ∃ b, r = .v (.bool b) := by
  intro ds r h
  unfold notinD at h
  split at h
  · rename_i x y
    cases hh : hasD x y with
    | none => rw [hh] at h; cases h
    | some b => rw [hh] at h; cases h; exact ⟨_, rfl⟩
  · cases h
theorem b_in : BoolE cl (.op .inn as) := op_bool fun e rs r hz => by
  unfold opE at hz
  cases hn : dictOp e .inn rs with
  | some z =>
    rw [hn] at hz; cases hz
    unfold dictOp at hn
    split at hn <;> try contradiction
    · split at hn
      · split at hn
        · cases hn; exact ⟨_, rfl⟩
        · cases hn
      · cases hn
  | none =>
    rw [hn] at hz
    cases hd : derefs e rs with
    | none => rw [hd] at hz; cases hz
    | some ds =>
      rw [hd] at hz
      exact inD_b ds r hz
theorem b_notin : BoolE cl (.op .notin as) := op_bool fun e rs r hz => by
  unfold opE at hz
  cases hn : dictOp e .notin rs with
  | some z =>
    rw [hn] at hz; cases hz
    unfold dictOp at hn
    split at hn <;> try contradiction
    · split at hn
      · split at hn
        · cases hn; exact ⟨_, rfl⟩
        · cases hn
      · cases hn
  | none =>
    rw [hn] at hz
    cases hd : derefs e rs with
    | none => rw [hd] at hz; cases hz
    | some ds =>
      rw [hd] at hz
      exact notinD_b ds r hz
/-- a op b as a test, as a value: the operation is known -/
theorem dt_cmp {op : CmpOp} {o : Op} {r : R2} (ho : OpR X (compareOp op) r) (hv : OpE X.K (V2 r) o) (hb : BoolE cl (.op o (.cons ea (.cons eb .nil)))) (ha : DE X xc W cl a ea) (hb2 : DE X xc W cl b eb)
    (hm : behindInMarks op b = false := by first | exact nomark _ | with_unfolding_all rfl) : DT X xc W cl (.Compare a [op] [b] pos) (.e (.op o (.cons ea (.cons eb .nil)))) :=
  PTimp (pt_cmpR ho ha hb2 hm) fun σ H Q h => (two_ok (hv.use (bool_ok hb h))).mono fun x H1 h => h.mono fun y H2 h => by
    obtain ⟨x', y', e, h⟩ := h
    cases e; exact h
theorem dt_pw (h : DW X xc W cl a ta) : DT X xc W cl a ta := PW.pt h
theorem dw_and1 (ha : DT X xc W cl a ta) : DW X xc W cl (.BoolOp .And [a] pos) ta := pw_and1 ha
theorem dw_or1 (ha : DT X xc W cl a ta) : DW X xc W cl (.BoolOp .Or [a] pos) ta := pw_or1 ha
theorem dw_and (ha : DT X xc W cl a ta) (hb : DW X xc W cl (.BoolOp .And (b :: es) pos) tb) : DW X xc W cl (.BoolOp .And (a :: b :: es) pos) (.and ta tb) :=
  PWimp (pw_and ha hb) fun σ H Q h => (ift_ok (f := fun m => evT cl tb m) (k := fun m => .ok false m) h).mono fun b H1 h => by
    cases b with
    | true => simpa using h
    | false => simpa using tT.ret (by simpa using h)
theorem dw_or (ha : DT X xc W cl a ta) (hb : DW X xc W cl (.BoolOp .Or (b :: es) pos) tb) : DW X xc W cl (.BoolOp .Or (a :: b :: es) pos) (.or ta tb) :=
  PWimp (pw_or ha hb) fun σ H Q h => (ift_ok (f := fun m => .ok true m) (k := fun m => evT cl tb m) h).mono fun b H1 h => by
    cases b with
    | false => simpa using h
    | true => simpa using tT.ret (by simpa using h)
theorem dt_not (ha : DT X xc W cl a ta) : DT X xc W cl (.UnaryOp .Not a pos) (.not ta) :=
  PTimp (pt_not ha) fun σ H Q h => by
    obtain ⟨g, O0, e, s, G, h⟩ := h
    refine ⟨g, O0, e, s, G, ?_⟩
    show PostT xc X.K W g O0 e σ H _ (evT cl ta ⟨e, s⟩)
    have h : PostT xc X.K W g O0 e σ H Q (match evT cl ta ⟨e, s⟩ with
      | .ok b m1 => .ok (!b) m1
      | .rz c f m1 => .rz c f m1
      | .bad => .bad) := h
    cases hf : evT cl ta ⟨e, s⟩ with
    | rz c f m1 => simp only [hf] at h; exact h
    | bad => simp only [hf] at h; exact h
    | ok b m1 => simp only [hf] at h; exact h
end
end PV

/-! PV.12: statements -/
namespace PV
open PySem PySem.Spec L2

structure StS (K : PySem.W.Frag) (g : Gd) (O0 : AP) (e : Env) (σ : L2.St) (H : Hp) (A : Nat → Bool) (m : M) (σ' : L2.St) (H' : Hp) : Prop where
  keep : Keep (Mu g e σ) H H'
  own : ∀ a, own m.e σ' a → PV.own e σ a ∨ H a = none
  rep : Rep K g O0 m.e σ' H'
  dk : DkRep g m.s H'
  fx : ∀ j, A j = false → σ'[j]? = σ[j]?
structure StR (K : PySem.W.Frag) (g : Gd) (O0 : AP) (e : Env) (σ : L2.St) (H : Hp) (m : M) (σ' : L2.St) (H' : Hp) (v : V) (F : List Addr) (r : R) : Prop where
  keep : Keep (Mu g e σ) H H'
  own : ∀ a, own m.e σ' a → PV.own e σ a ∨ H a = none
  new : ∀ p ∈ F, H p = none ∧ H' p ≠ none
  rep : Rep K g O0 m.e σ' H'
  dk : DkRep g m.s H'
  rv : RV1 K g (Ow (plus O0 F) m.e σ') σ' H' v F r
def PostS (xc : XC) (K : PySem.W.Frag) (W : WX) (g : Gd) (O0 : AP) (e : Env) (σ : L2.St) (H : Hp) (A : Nat → Bool) (D : Ends) : Res Flow → Prop
  | .ok .nx m => ∀ σ' H', StS K g O0 e σ H A m σ' H' → D.nx σ' H'
  | .ok .brk m => ∀ σ' H', StS K g O0 e σ H A m σ' H' → D.bk σ' H'
  | .ok .ct m => ∀ σ' H', StS K g O0 e σ H A m σ' H' → D.ct σ' H'
  | .ok (.rt r) m => ∀ v σ' H' F, StR K g O0 e σ H m σ' H' v F r → D.rt v H'
  | .rz c f m => ∀ cls dd σ' H', StS K g O0 e σ H A m σ' H' → XcR xc K (Ow O0 m.e σ') H' c f cls dd → W cls dd σ' H'
  | .bad => False
def tS (xc : XC) (K : PySem.W.Frag) (W : WX) (A : Nat → Bool) (f : M → Res Flow) : TS := fun D σ H => ∃ g O0 e s, Good K g O0 e s σ H ∧ PostS xc K W g O0 e σ H A D (f ⟨e, s⟩)

section
variable {xc : XC} {K : PySem.W.Frag} {W : WX} {g : Gd} {O0 : AP} {e : Env} {s : DS} {σ σ1 σ' : L2.St} {H H1 H' : Hp} {A A' : Nat → Bool} {D D' : Ends} {F : List Addr} {m m1 : M} {v : V} {r : R}
theorem Good.ss (G : Good K g O0 e s σ H) (t : StS K g O0 e σ H A m σ' H') : Good K g O0 m.e m.s σ' H' := ⟨G.dk0, fun a z q => G.oe a z (t.keep.old a q), t.rep, t.dk⟩
theorem StS.refl (G : Good K g O0 e s σ H) : StS K g O0 e σ H A ⟨e, s⟩ σ H := ⟨Keep.refl, fun a z => .inl z, G.rep, G.dk, fun _ _ => rfl⟩
theorem StS.mono (t : StS K g O0 e σ H A m σ' H') (h : ∀ j, A' j = false → A j = false) : StS K g O0 e σ H A' m σ' H' := ⟨t.keep, t.own, t.rep, t.dk, fun j z => t.fx j (h j z)⟩
theorem mu_of (own : ∀ a, own m1.e σ1 a → PV.own e σ a ∨ H a = none) : ∀ a, Mu g m1.e σ1 a → Mu g e σ a ∨ H a = none := fun a z => z.elim (fun z => (own a z).imp .inl id) fun z => .inl (.inr z)
theorem StS.trans (a : StS K g O0 e σ H A m1 σ1 H1) (b : StS K g O0 m1.e σ1 H1 A m σ' H') : StS K g O0 e σ H A m σ' H' :=
  ⟨a.keep.trans b.keep (mu_of a.own), fun x z => (b.own x z).elim (a.own x) fun z => .inr (a.keep.old x z), b.rep, b.dk, fun j z => (b.fx j z).trans (a.fx j z)⟩
theorem StR.after (a : StS K g O0 e σ H A m1 σ1 H1) (b : StR K g O0 m1.e σ1 H1 m σ' H' v F r) : StR K g O0 e σ H m σ' H' v F r :=
  ⟨a.keep.trans b.keep (mu_of a.own), fun x z => (b.own x z).elim (a.own x) fun z => .inr (a.keep.old x z), fun p hp => ⟨a.keep.old p (b.new p hp).1, (b.new p hp).2⟩, b.rep, b.dk, b.rv⟩
theorem PostS.step {x : Res Flow} (a : StS K g O0 e σ H A m1 σ1 H1) (h : PostS xc K W g O0 e σ H A D x) : PostS xc K W g O0 m1.e σ1 H1 A D x := by
  cases x with
  | bad => exact h
  | rz c f m => exact fun cls dd σ' H' t x => h cls dd σ' H' (a.trans t) x
  | ok fl m => cases fl with
    | nx => exact fun σ' H' t => h σ' H' (a.trans t)
    | brk => exact fun σ' H' t => h σ' H' (a.trans t)
    | ct => exact fun σ' H' t => h σ' H' (a.trans t)
    | rt r => exact fun v σ' H' F t => h v σ' H' F (StR.after a t)
theorem PostS.mono {x : Res Flow} (h : PostS xc K W g O0 e σ H A D x) (i : ∀ j, A j = false → A' j = false) : PostS xc K W g O0 e σ H A' D x := by
  cases x with
  | bad => exact h
  | rz c f m => exact fun cls dd σ' H' t x => h cls dd σ' H' (t.mono i) x
  | ok fl m => cases fl with
    | nx => exact fun σ' H' t => h σ' H' (t.mono i)
    | brk => exact fun σ' H' t => h σ' H' (t.mono i)
    | ct => exact fun σ' H' t => h σ' H' (t.mono i)
    | rt r => exact h
/-- an expression's step is a statement's -/
theorem Stp.ss (G : Good K g O0 e s σ H) (t : Stp K g O0 e σ H F m H') : StS K g O0 e σ H A m σ H' := ⟨t.keep, fun a z => .inl (t.own a z), t.repO, t.dk, fun _ _ => rfl⟩

/-! targets -/
def tGs (K : PySem.W.Frag) (A : Nat → Bool) (f : Env → List PyData → Option Env) : TGs := fun vs σ H Q => ∃ g O0 e s ds e', Good K g O0 e s σ H ∧ ShA K (Ow O0 e σ) H vs ds ∧ f e ds = some e' ∧ ∀ σ', Rep K g O0 e' σ' H → (∀ a, own e' σ' a → own e σ a) → (∀ j, A j = false → σ'[j]? = σ[j]?) → Q σ' H
def tGa (K : PySem.W.Frag) (A : Nat → Bool) (f : Env → PyData → Option Env) : TG := fun v σ H Q => ∃ g O0 e s d e', Good K g O0 e s σ H ∧ Sh K (Ow O0 e σ) H v d ∧ f e d = some e' ∧ ∀ σ', Rep K g O0 e' σ' H → (∀ a, own e' σ' a → own e σ a) → (∀ j, A j = false → σ'[j]? = σ[j]?) → Q σ' H
end
section
variable (X : Cx) (xc : XC) (W : WX) (cl : Nat → List Arg → DS → FRes)
def DG (t : Expr) (a : Tg) : Prop := PG X t (tGa X.K (asgT a) fun e d => bind1 e a d)
def DGs (t : List Expr) (a : Tgs) : Prop := PGs X t (tGs X.K (asgTs a) fun e d => bindL e a d)
def DS' (st : Stmt) (a : S) : Prop := PS X st (tS xc X.K W (asgS a) fun m => ex cl a m)
def DSs (st : List Stmt) (a : Ss) : Prop := PSs X st (tS xc X.K W (asgSs a) fun m => exs cl a m)
end
section
variable {X : Cx} {xc : XC} {W : WX} {cl : Nat → List Arg → DS → FRes} {t : Expr} {ts : List Expr} {a : Tg} {as : Tgs} {pos : Pos}
theorem PGimp {e : Expr} {t t' : TG} (h : PG X e t) (i : ∀ v σ H Q, t' v σ H Q → t v σ H Q) : PG X e t' := ⟨fun pins s σ H v u Q I r z => h.run pins s σ H v u Q I r (i v σ H Q z)⟩
theorem PGsimp {e : List Expr} {t t' : TGs} (h : PGs X e t) (i : ∀ v σ H Q, t' v σ H Q → t v σ H Q) : PGs X e t' := ⟨fun pins s σ H v u Q I r z => h.run pins s σ H v u Q I r (i v σ H Q z)⟩
theorem dg_nm {i : Nat} {x : Str} (o : Ok X) (hi : X.N[i]? = some x) (hx : Loc X.env.scope x) (hf : X.fn x = true ∨ X.env.scope.names.lookup x = some .local := by first | exact .inl rfl | exact .inr rfl | assumption) : DG X (.Name x pos) (.nm i) :=
  PGimp (pg_name o.nd hi hx hf) fun v σ H Q h => by
    obtain ⟨g, O0, e, s, d, e', G, hs, he, h⟩ := h
    obtain rfl : e.set i (.sh d) = e' := by simpa [bind1] using he
    refine h _ (G.rep.setSh hs) (fun a z => own_set rfl z) fun j z => ?_
    rw [List.getElem?_set_ne]
    intro q; subst q; simp [asgT] at z
theorem dgs_nil : DGs X [] .nil := PGsimp pgs_nil fun vs σ H Q h => by
  obtain ⟨g, O0, e, s, ds, e', G, hs, he, h⟩ := h
  cases ds with
  | nil =>
    obtain rfl : e = e' := by simpa [bindL] using he
    cases hs
    exact ⟨rfl, h σ G.rep (fun _ z => z) fun _ _ => rfl⟩
  | cons d ds => simp [bindL] at he
theorem dgs_cons (h1 : DG X t a) (h2 : DGs X ts as) (hs : (assignEach (t :: ts) X.env).map (·.2) = assign t X.env :: (assignEach ts X.env).map (·.2) := by rfl) : DGs X (t :: ts) (.cons a as) :=
  PGsimp (pgs_cons h1 h2 hs) fun vs σ H Q h => by
    obtain ⟨g, O0, e, s, ds, e', G, hs, he, h⟩ := h
    cases ds with
    | nil => simp [bindL] at he
    | cons d ds =>
      cases hs with
      | cons s1 s2 =>
        rename_i v vs
        simp only [bindL] at he
        cases hb : bind1 e a d with
        | none => rw [hb] at he; cases he
        | some e1 =>
          rw [hb] at he
          refine ⟨v, vs, rfl, g, O0, e, s, d, e1, G, s1, hb, fun σ1 r1 o1 f1 => ?_⟩
          refine ⟨g, O0, e1, s, ds, e', ⟨G.dk0, G.oe, r1, G.dk⟩, ShA.weak (fun a z => z.imp id (o1 a)) s2, he, fun σ2 r2 o2 f2 => h σ2 r2 (fun a z => o1 a (o2 a z)) fun j z => ?_⟩
          have z' : asgT a j = false ∧ asgTs as j = false := by simpa [asgTs] using z
          exact (f2 j z'.2).trans (f1 j z'.1)
theorem dg_tup {k n : Nat} (o : Ok X) (h : DGs X ts as) (hn : (assignEach ts X.env).length = n := by rfl) (hl : ∀ e ds e', bindL e as ds = some e' → ds.length = n) (hst : (assignEach ts X.env).findIdx? (·.1) = none := by rfl) : DG X (.Tuple ts k pos) (.tp as) :=
  PGimp (pg_tup o.calm h hn hst) fun v σ H Q h => by
    obtain ⟨g, O0, e, s, d, e', G, hs, he, h⟩ := h
    cases d with
    | tuple ds =>
      obtain ⟨p, xs, rfl, ht, _, q⟩ := sh_tuple.mp hs
      have he : bindL e as ds = some e' := he
      exact ⟨p, xs, rfl, ht.sq, by rw [Paired.len q]; exact hl _ _ _ he, g, O0, e, s, ds, e', G, q, he, h⟩
    | none => simp [bind1] at he
    | bool b => simp [bind1] at he
    | int b => simp [bind1] at he
    | str b => simp [bind1] at he
    | list b => simp [bind1] at he
    | dict b => simp [bind1] at he
def lenTs : Tgs → Nat
  | .nil => 0
  | .cons _ ts => lenTs ts + 1
theorem bindL_len : ∀ (as : Tgs) (e : Env) (ds : List PyData) (e' : Env), bindL e as ds = some e' → ds.length = lenTs as
  | .nil, e, [], e', h => rfl
  | .nil, e, d :: ds, e', h => by simp [bindL] at h
  | .cons t ts, e, [], e', h => by simp [bindL] at h
  | .cons t ts, e, d :: ds, e', h => by
    simp only [bindL] at h
    cases hb : bind1 e t d with
    | none => rw [hb] at h; cases h
    | some e1 => rw [hb] at h; simp [lenTs, bindL_len ts e1 ds e' h]
theorem dg_tp {k : Nat} (o : Ok X) (h : DGs X ts as) (hn : (assignEach ts X.env).length = lenTs as := by rfl) (hst : (assignEach ts X.env).findIdx? (·.1) = none := by rfl) : DG X (.Tuple ts k pos) (.tp as) :=
  dg_tup o h hn (bindL_len as) hst
end
end PV

/-! PV.13: what is walked -/
namespace PV
open PySem PySem.Spec L2

structure ItOk (K : PySem.W.Frag) (J : L2.It) (ds : List PyData) (P : AP → Hp → Prop) : Prop where
  go : ∀ i O H, P O H → i < ds.length → J.go i H
  stop : ∀ O H, P O H → J.stop ds.length H
  yld : ∀ i O H x H', P O H → i < ds.length → J.yld i H x H' → Keep (fun _ => False) H H' ∧ ∃ d, ds[i]? = some d ∧ Sh K O H' x d
def ItR (K : PySem.W.Frag) (σ : L2.St) (O : AP) (H : Hp) (J : L2.It) (ds : List PyData) : Src → Prop
  | none => ∃ P, ItOk K J ds P ∧ P O H ∧ ∀ M O O' H H', P O H → Keep M H H' → (∀ a, M a → O a) → (∀ a, O' a → O a ∨ H a = none) → P O' H'
  | some (i, d0) => ∃ p, σ[i]? = some (some (.ref p)) ∧ ItOk K J ds fun O H => ShT K O H (.ref p) (.list d0)
def PostI (xc : XC) (K : PySem.W.Frag) (W : WX) (g : Gd) (O0 : AP) (e : Env) (σ : L2.St) (H : Hp) (R : L2.It → Hp → Prop) : Res (List PyData × Src) → Prop
  | .ok (ds, src) m => ∀ J H' F, Stp K g O0 e σ H F m H' → ItR K σ (Ow O0 m.e σ) H' J ds src → R J H'
  | .rz c f m => ∀ cls dd H', Stp K g O0 e σ H [] m H' → XcR xc K (Ow O0 m.e σ) H' c f cls dd → W cls dd σ H'
  | .bad => False
def tI (xc : XC) (K : PySem.W.Frag) (W : WX) (f : M → Res (List PyData × Src)) : TI := fun σ H R => ∃ g O0 e s, Good K g O0 e s σ H ∧ PostI xc K W g O0 e σ H R (f ⟨e, s⟩)
def DI (X : Cx) (xc : XC) (W : WX) (cl : Nat → List Arg → DS → FRes) (tg it : Expr) (a : It) : Prop := PI X tg it (tI xc X.K W fun m => evI cl a m)
theorem PIimp {X : Cx} {tg e : Expr} {t t' : TI} (h : PI X tg e t) (i : ∀ σ H R, t' σ H R → t σ H R) : PI X tg e t' := ⟨fun pins s σ H R I z => h.run pins s σ H R I (i σ H R z)⟩
theorem PIor {X : Cx} {tg e : Expr} {t t' : TI} (h : PI X tg e t) (h' : PI X tg e t') : PI X tg e (fun σ H R => t σ H R ∨ t' σ H R) := ⟨fun pins s σ H R I z => z.elim (h.run pins s σ H R I) (h'.run pins s σ H R I)⟩

section
variable {X : Cx} {xc : XC} {W : WX} {cl : Nat → List Arg → DS → FRes} {K : PySem.W.Frag} {g : Gd} {O O0 : AP} {e : Env} {s : DS} {σ : L2.St} {H H1 H' : Hp} {F : List Addr} {m : M}
theorem itl_ok {a : Addr} {ds : List PyData} {P : AP → Hp → Prop} (h : ∀ O H, P O H → ShT K O H (.ref a) (.list ds)) : ItOk K (Itl K a) ds P := by
  refine ⟨fun i O H p hi => ?_, fun O H p => ?_, fun i O H x H' p hi hy => ?_⟩
  · obtain ⟨b, xs, e, l, _, q⟩ := t_list (h O H p)
    cases e
    obtain ⟨x, hx, _⟩ := Paired.get q (List.getElem?_eq_getElem hi)
    exact ⟨xs, x, SqL.of l, hx⟩
  · obtain ⟨b, xs, e, l, _, q⟩ := t_list (h O H p)
    cases e
    exact ⟨xs, SqL.of l, Nat.le_of_eq (Paired.len q)⟩
  · obtain ⟨rfl, hy⟩ := hy
    obtain ⟨b, xs, e, l, _, q⟩ := t_list (h O H' p)
    cases e
    obtain ⟨x', hx, s⟩ := Paired.get q (List.getElem?_eq_getElem hi)
    have := hy xs (SqL.of l)
    rw [hx] at this; cases this
    exact ⟨Keep.refl, _, List.getElem?_eq_getElem hi, s⟩
theorem itt_ok {a : Addr} {ds : List PyData} {P : AP → Hp → Prop} (h : ∀ O H, P O H → ShT K O H (.ref a) (.tuple ds)) : ItOk K (Itt K a) ds P := by
  refine ⟨fun i O H p hi => ?_, fun O H p => ?_, fun i O H x H' p hi hy => ?_⟩
  · obtain ⟨b, xs, e, l, _, q⟩ := t_tup (h O H p)
    cases e
    obtain ⟨x, hx, _⟩ := Paired.get q (List.getElem?_eq_getElem hi)
    exact ⟨xs, x, l, hx⟩
  · obtain ⟨b, xs, e, l, _, q⟩ := t_tup (h O H p)
    cases e
    exact ⟨xs, l, Nat.le_of_eq (Paired.len q)⟩
  · obtain ⟨rfl, hy⟩ := hy
    obtain ⟨b, xs, e, l, _, q⟩ := t_tup (h O H' p)
    cases e
    obtain ⟨x', hx, s⟩ := Paired.get q (List.getElem?_eq_getElem hi)
    have := hy xs l
    rw [hx] at this; cases this
    exact ⟨Keep.refl, _, List.getElem?_eq_getElem hi, s⟩
theorem itr_ok {lo : Int} {n : Nat} : ItOk K (Itr lo n) ((List.range n).map fun (k : Nat) => .int (lo + (k : Int))) fun _ _ => True := by
  refine ⟨fun i O H p hi => ?_, fun O H p => ?_, fun i O H x H' p hi hy => ?_⟩
  · show i < n; simpa using hi
  · show n ≤ _; simp
  · obtain ⟨rfl, rfl⟩ := hy
    have hi' : i < n := by simpa using hi
    exact ⟨Keep.refl, _, by rw [List.getElem?_map, List.getElem?_range hi']; rfl, sh_int.mpr rfl⟩
theorem di_e {tg a : Expr} {ea : E} (ha : DE X xc W cl a ea) : DI X xc W cl tg a (.e ea) :=
  PIimp (PIor (pi_list ha) (pi_tup ha)) fun σ H R h => by
    obtain ⟨g, O0, e, s, G, h⟩ := h
    have h : PostI xc X.K W g O0 e σ H R (match ev cl ea ⟨e, s⟩ with
      | .ok r m1 => match items m1.e r with
        | some p => .ok p m1
        | none => .bad
      | .rz c f m1 => .rz c f m1
      | .bad => .bad) := h
    cases hf : ev cl ea ⟨e, s⟩ with
    | bad => simp only [hf] at h; exact h.elim
    | rz c f m1 => exact .inl ⟨g, O0, e, s, G, by show PostE xc X.K W g O0 e σ H _ (ev cl ea ⟨e, s⟩); rw [hf]; simp only [hf] at h; exact h⟩
    | ok r m1 =>
      simp only [hf] at h
      have list : ∀ ds, (∀ v H1 F, Stp X.K g O0 e σ H F m1 H1 → RV1 X.K g (Ow (plus O0 F) m1.e σ) σ H1 v F r → Sh X.K (Ow O0 m1.e σ) H1 v (.list ds)) → items m1.e r = some (ds, none) → ∃ g O0 e s, Good X.K g O0 e s σ H ∧ PostE xc X.K W g O0 e σ H (fun x H1 => ∃ a, x = .ref a ∧ (∃ xs, SqL X.K H1 a xs) ∧ R (Itl X.K a) H1) (ev cl ea ⟨e, s⟩) := fun ds hv hi => by
        simp only [hi] at h
        refine ⟨g, O0, e, s, G, ?_⟩
        rw [hf]
        intro v H1 F t1 rv
        have hs := hv v H1 F t1 rv
        obtain ⟨a, xs, rfl, l, _, q⟩ := sh_list.mp hs
        exact ⟨a, rfl, ⟨xs, l.sq⟩, h _ H1 F t1 ⟨fun O H => Sh X.K O H (.ref a) (.list ds), itl_ok fun O H z => z.top, hs, fun M O O' H H' p k m n => p.go k m n⟩⟩
      cases r with
      | dk => simp only [items] at h; exact h.elim
      | fd t kvs => simp only [items] at h; exact h.elim
      | fl ds =>
        refine .inl (list ds (fun v H1 F t1 rv => ?_) rfl)
        obtain ⟨p, xs, rfl, rfl, hp, z, q⟩ := rv
        obtain ⟨_, n1, n2, _⟩ := t1.new p (by simp)
        exact sh_list.mpr ⟨p, xs, rfl, ⟨fun z => z.elim n1 n2, hp⟩, z, q.weak fun a z => z.imp .inl id⟩
      | v d =>
        cases d with
        | list ds => exact .inl (list ds (fun v H1 F t1 rv => rv.2.weak fun a z => z.imp .inl id) rfl)
        | tuple ds =>
          simp only [items] at h
          refine .inr ⟨g, O0, e, s, G, ?_⟩
          show PostE xc X.K W g O0 e σ H _ (ev cl ea ⟨e, s⟩)
          rw [hf]
          intro v H1 F t1 rv
          have hs : Sh X.K (Ow O0 m1.e σ) H1 v (.tuple ds) := rv.2.weak fun a z => z.imp .inl id
          obtain ⟨a, xs, rfl, l, _, q⟩ := sh_tuple.mp hs
          exact ⟨a, rfl, ⟨xs, l.sq⟩, h _ H1 F t1 ⟨fun O H => Sh X.K O H (.ref a) (.tuple ds), itt_ok fun O H z => z.top, hs, fun M O O' H H' p k m n => p.go k m n⟩⟩
        | none => simp only [items] at h; exact h.elim
        | bool b => simp only [items] at h; exact h.elim
        | int b => simp only [items] at h; exact h.elim
        | str b => simp only [items] at h; exact h.elim
        | dict b => simp only [items] at h; exact h.elim
      | pl i =>
        cases hs : m1.e[i]? with
        | none => simp only [items, hs] at h; exact h.elim
        | some sl =>
          cases sl with
          | un => simp only [items, hs] at h; exact h.elim
          | dk => simp only [items, hs] at h; exact h.elim
          | od t kvs => simp only [items, hs] at h; exact h.elim
          | sh d =>
            cases d with
            | list ds =>
              refine .inl (list ds (fun v H1 F t1 rv => ?_) (by simp only [items, hs]))
              obtain ⟨v', h1, h2⟩ := t1.repO.at' i _ hs
              rw [rv.2] at h1; cases h1
              exact h2
            | tuple ds => simp only [items, hs] at h; exact h.elim
            | none => simp only [items, hs] at h; exact h.elim
            | bool b => simp only [items, hs] at h; exact h.elim
            | int b => simp only [items, hs] at h; exact h.elim
            | str b => simp only [items, hs] at h; exact h.elim
            | dict b => simp only [items, hs] at h; exact h.elim
          | ol ds =>
            simp only [items, hs] at h
            refine .inl ⟨g, O0, e, s, G, ?_⟩
            show PostE xc X.K W g O0 e σ H _ (ev cl ea ⟨e, s⟩)
            rw [hf]
            intro v H1 F t1 rv
            obtain ⟨p, xs, h1, _, h3, h4, h5⟩ := t1.repO.at' i _ hs
            have hi := rv.2
            rw [hi] at h1; cases h1
            exact ⟨p, rfl, ⟨xs, SqL.of h3⟩, h _ H1 F t1 ⟨p, hi, itl_ok fun O H z => z⟩⟩
theorem rvs1 {O : AP} {vs : List V} {a : R} (h : RVs K g O σ H vs F [a]) : ∃ x, vs = [x] ∧ RV1 K g O σ H x F a := by
  generalize hr : [a] = rs at h
  cases h with
  | nil => cases hr
  | cons r t _ =>
    cases hr
    cases t
    exact ⟨_, rfl, by rw [List.append_nil]; exact r⟩
def lenEs : Es → Nat
  | .nil => 0
  | .cons _ es => lenEs es + 1
theorem evs_len : ∀ (es : Es) (m : M) (rs : List R) (m1 : M), evs cl es m = .ok rs m1 → rs.length = lenEs es
  | .nil, m, rs, m1, h => by cases h; rfl
  | .cons a es, m, rs, m1, h => by
    have h : (match ev cl a m with
      | .ok r m1 => match evs cl es m1 with
        | .ok rs m2 => Res.ok (r :: rs) m2
        | .rz c f m2 => .rz c f m2
        | .bad => .bad
      | .rz c f m1 => .rz c f m1
      | .bad => .bad) = .ok rs m1 := h
    split at h
    · rename_i r m2 h1
      split at h
      · rename_i rs' m3 h2
        cases h
        rw [List.length_cons, evs_len es _ _ _ h2]; rfl
      · cases h
      · cases h
    · cases h
    · cases h
theorem rng_ok {es : Es} (R : L2.It → Hp → Prop) (h : tI xc K W (fun m => evI cl (.rng es) m) σ H R) (Q : List V → Hp → Prop)
    (hq : ∀ rs ds vs g O H1 F, rs.length = lenEs es → rngD rs = some ds → RVs K g O σ H1 vs F rs → (∀ J, (∃ P, ItOk K J ds P ∧ P (fun _ => True) H1 ∧ ∀ O H O' H', P O H → P O' H') → R J H1) → Q vs H1) : tEs xc K W (fun m => evs cl es m) σ H Q := by
  obtain ⟨g, O0, e, s, G, h⟩ := h
  refine ⟨g, O0, e, s, G, ?_⟩
  show PostEs xc K W g O0 e σ H _ (evs cl es ⟨e, s⟩)
  have h : PostI xc K W g O0 e σ H R (match evs cl es ⟨e, s⟩ with
    | .ok rs m1 => match rngD rs with
      | some ds => .ok (ds, none) m1
      | none => .bad
    | .rz c f m1 => .rz c f m1
    | .bad => .bad) := h
  cases hf : evs cl es ⟨e, s⟩ with
  | bad => simp only [hf] at h; exact h.elim
  | rz c f m1 => simp only [hf] at h; exact h
  | ok rs m1 =>
    simp only [hf] at h
    intro vs H1 F t1 rvs
    cases hd : rngD rs with
    | none => simp only [hd] at h; exact h.elim
    | some ds =>
      simp only [hd] at h
      refine hq rs ds vs g _ H1 F (evs_len _ _ _ _ hf) hd rvs fun J ⟨P, h1, h2, h3⟩ => h J H1 F t1 ⟨P, h1, h3 _ _ _ _ h2, fun M O O' H H' p _ _ _ => h3 _ _ _ _ p⟩
theorem di_rng1 {tg a : Expr} {ea : E} {p pos : Pos} (hg : Gl X "range") (hm : X.mg "range" = none) (ha : DE X xc W cl a ea) (hs : starEach [a] X.env = [(false, eval a X.env)] := by rfl) : DI X xc W cl tg (.Call (.Name "range" p) [a] [] pos) (.rng (.cons ea .nil)) :=
  PIimp (pi_range1 hg hm (da_cons ha da_nil hs) hs) fun σ H R h => rng_ok R h _ fun rs ds vs g O H1 F hl hd rvs hR => by
    unfold rngD at hd
    split at hd
    · split at hd
      · rename_i j hj
        cases hd
        obtain ⟨x, rfl, r⟩ := rvs1 rvs
        obtain rfl := sh_int.mp r.2
        exact ⟨j, rfl, hj.1, hj.2, hR _ ⟨fun _ _ => True, itr_ok, trivial, fun _ _ _ _ _ => trivial⟩⟩
      · cases hd
    · exact absurd hl (by simp [lenEs])
    · cases hd
theorem di_rng2 {tg a b : Expr} {ea eb : E} {p pos : Pos} (hg : Gl X "range") (hm : X.mg "range" = none) (ha : DE X xc W cl a ea) (hb : DE X xc W cl b eb) (hs : starEach [a, b] X.env = [(false, eval a X.env), (false, eval b X.env)] := by rfl) (hs2 : starEach [b] X.env = [(false, eval b X.env)] := by rfl) :
    DI X xc W cl tg (.Call (.Name "range" p) [a, b] [] pos) (.rng (.cons ea (.cons eb .nil))) :=
  PIimp (pi_range2 hg hm (da_cons ha (da_cons hb da_nil hs2) (by rw [hs, hs2])) hs hs2) fun σ H R h => rng_ok R h _ fun rs ds vs g O H1 F hl hd rvs hR => by
    unfold rngD at hd
    split at hd
    · exact absurd hl (by simp [lenEs])
    · split at hd
      · rename_i i j hj
        cases hd
        obtain ⟨x, y, F1, F2, rfl, r1, r2⟩ : ∃ x y F1 F2, vs = [x, y] ∧ RV1 X.K g O σ H1 x F1 (.v (.int i)) ∧ RV1 X.K g O σ H1 y F2 (.v (.int j)) := by
          cases rvs with
          | cons r t _ => cases t with
            | cons r' t' _ => cases t'; exact ⟨_, _, _, _, rfl, r, r'⟩
        obtain rfl := sh_int.mp r1.2
        obtain rfl := sh_int.mp r2.2
        exact ⟨i, j, rfl, hj, hR _ ⟨fun _ _ => True, itr_ok, trivial, fun _ _ _ _ _ => trivial⟩⟩
      · cases hd
    · cases hd
end
end PV

/-! PV.14: the rules for statements; loops -/
namespace PV
open PySem PySem.Spec L2

section
variable {X : Cx} {xc : XC} {W : WX} {cl : Nat → List Arg → DS → FRes} {K : PySem.W.Frag} {g : Gd} {O O0 : AP} {e : Env} {s : DS} {σ : L2.St} {H H1 H' : Hp} {F : List Addr} {m m1 : M} {D : Ends} {A : Nat → Bool}
/-- behind an expression, a statement's end -/
theorem PostS.stp {x : Res Flow} (G : Good K g O0 e s σ H) (t : Stp K g O0 e σ H F m1 H1) (h : PostS xc K W g O0 e σ H A D x) : PostS xc K W g O0 m1.e σ H1 A D x := PostS.step (t.ss G) h
theorem nx_of (G : Good K g O0 e s σ H) (h : PostS xc K W g O0 e σ H A D (.ok .nx ⟨e, s⟩)) : D.nx σ H := h σ H (StS.refl G)
theorem tS.intro {f : M → Res Flow} (G : Good K g O0 e s σ H) (h : PostS xc K W g O0 e σ H A D (f ⟨e, s⟩)) : tS xc K W A f D σ H := ⟨g, O0, e, s, G, h⟩
/-- a test, then one of two -/
theorem ifs_ok {c : T} {f k : M → Res Flow} (h : tS xc K W A (fun m => match evT cl c m with
      | .ok true m1 => f m1
      | .ok false m1 => k m1
      | .rz c f m1 => .rz c f m1
      | .bad => .bad) D σ H) : tT xc K W (fun m => evT cl c m) σ H fun b H1 => if b = true then tS xc K W A f D σ H1 else tS xc K W A k D σ H1 := by
  obtain ⟨g, O0, e, s, G, h⟩ := h
  refine ⟨g, O0, e, s, G, ?_⟩
  show PostT xc K W g O0 e σ H _ (evT cl c ⟨e, s⟩)
  cases hf : evT cl c ⟨e, s⟩ with
  | rz c f m1 => simp only [hf] at h; exact fun cls dd H' t x => h cls dd σ H' (t.ss G) x
  | bad => simp only [hf] at h; exact h
  | ok b m1 =>
    intro H1 t1
    cases b with
    | true => simp only [hf] at h; rw [if_pos rfl]; exact tS.intro (G.step0 t1) (PostS.stp G t1 h)
    | false => simp only [hf] at h; rw [if_neg (by simp)]; exact tS.intro (G.step0 t1) (PostS.stp G t1 h)
theorem tS.mono {f : M → Res Flow} {A' : Nat → Bool} (h : tS xc K W A f D σ H) (i : ∀ j, A j = false → A' j = false) : tS xc K W A' f D σ H := by
  obtain ⟨g, O0, e, s, G, h⟩ := h
  exact ⟨g, O0, e, s, G, h.mono i⟩
theorem PostS.ends {x : Res Flow} {D' : Ends} (h : PostS xc K W g O0 e σ H A D x) (n : ∀ σ H, D.nx σ H → D'.nx σ H) (b : ∀ σ H, D.bk σ H → D'.bk σ H) (c : ∀ σ H, D.ct σ H → D'.ct σ H) (r : ∀ v H, D.rt v H → D'.rt v H) : PostS xc K W g O0 e σ H A D' x := by
  cases x with
  | bad => exact h
  | rz c f m => exact h
  | ok fl m => cases fl with
    | nx => exact fun σ' H' t => n _ _ (h σ' H' t)
    | brk => exact fun σ' H' t => b _ _ (h σ' H' t)
    | ct => exact fun σ' H' t => c _ _ (h σ' H' t)
    | rt z => exact fun v σ' H' F t => r _ _ (h v σ' H' F t)
theorem seq_ok {f k : M → Res Flow} (h : tS xc K W A (fun m => match f m with
      | .ok .nx m1 => k m1
      | r => r) D σ H) : tS xc K W A f { D with nx := tS xc K W A k D } σ H := by
  obtain ⟨g, O0, e, s, G, h⟩ := h
  refine ⟨g, O0, e, s, G, ?_⟩
  cases hf : f ⟨e, s⟩ with
  | rz c f m1 => simp only [hf] at h; exact h
  | bad => simp only [hf] at h; exact h
  | ok fl m1 =>
    cases fl with
    | nx => simp only [hf] at h; exact fun σ' H' t => tS.intro (G.ss t) (PostS.step t h)
    | brk => simp only [hf] at h; exact h
    | ct => simp only [hf] at h; exact h
    | rt r => simp only [hf] at h; exact h
end

section
variable {X : Cx} {xc : XC} {W : WX} {cl : Nat → List Arg → DS → FRes} {st : Stmt} {rest sa sb : List Stmt} {a b c e : Expr} {ia : S} {ib ic : Ss} {ea : E} {tc : T} {tg : Tg} {it : It} {pos : Pos}
theorem ds_nil : DSs X xc W cl [] .nil := PSsimp pss_nil fun D σ H h => by
  obtain ⟨g, O0, e, s, G, h⟩ := h
  exact nx_of G h
theorem ds_cons (h1 : DS' X xc W cl st ia) (h2 : DSs X xc W cl rest ib) : DSs X xc W cl (st :: rest) (.cons ia ib) := PSsimp (pss_cons h1 h2) fun D σ H h => by
  have h : tS xc X.K W (asgSs (.cons ia ib)) (fun m => match (fun m => ex cl ia m) m with
      | .ok .nx m1 => (fun m => exs cl ib m) m1
      | r => r) D σ H := h
  have s1 : ∀ j, asgSs (.cons ia ib) j = false → asgS ia j = false ∧ asgSs ib j = false := fun j z => by simpa [asgSs] using z
  obtain ⟨g, O0, e, s, G, h⟩ := (seq_ok h).mono fun j z => (s1 j z).1
  exact ⟨g, O0, e, s, G, h.ends (fun σ H z => z.mono fun j z => (s1 j z).2) (fun _ _ z => z) (fun _ _ z => z) fun _ _ z => z⟩
theorem ds_if (hc : DT X xc W cl c tc) (ha : DSs X xc W cl sa ib) (hb : DSs X xc W cl sb ic) : DS' X xc W cl (.If c sa sb pos) (.ite tc ib ic) := PSimp (ps_if hc ha hb) fun D σ H h => by
  have s1 : ∀ j, asgS (.ite tc ib ic) j = false → asgSs ib j = false ∧ asgSs ic j = false := fun j z => by simpa [asgS] using z
  refine (ifs_ok (f := fun m => exs cl ib m) (k := fun m => exs cl ic m) h).mono fun b H1 h => ?_
  cases b with
  | true => exact (show tS xc X.K W _ _ D σ H1 from by simpa using h).mono fun j z => (s1 j z).1
  | false => exact (show tS xc X.K W _ _ D σ H1 from by simpa using h).mono fun j z => (s1 j z).2
theorem ds_pass : DS' X xc W cl (.Pass pos) .pass := PSimp ps_pass fun D σ H h => by
  obtain ⟨g, O0, e, s, G, h⟩ := h
  exact h σ H (StS.refl G)
theorem ds_brk : DS' X xc W cl (.Break pos) .brk := PSimp ps_break fun D σ H h => by
  obtain ⟨g, O0, e, s, G, h⟩ := h
  exact h σ H (StS.refl G)
theorem ds_cont : DS' X xc W cl (.Continue pos) .cont := PSimp ps_continue fun D σ H h => by
  obtain ⟨g, O0, e, s, G, h⟩ := h
  exact h σ H (StS.refl G)
theorem ds_doc {x : Str} {j : Nat} {p p' : Pos} : DS' X xc W cl (.Expr (.Constant (.str x) j p) p') .pass := PSimp ps_doc fun D σ H h => by
  obtain ⟨g, O0, e, s, G, h⟩ := h
  exact h σ H (StS.refl G)
theorem ds_ret (ha : DE X xc W cl a ea) : DS' X xc W cl (.Return (some a) pos) (.ret ea) := PSimp (ps_ret ha) fun D σ H h => by
  obtain ⟨g, O0, e, s, G, h⟩ := h
  refine ⟨g, O0, e, s, G, ?_⟩
  show PostE xc X.K W g O0 e σ H _ (ev cl ea ⟨e, s⟩)
  have h : PostS xc X.K W g O0 e σ H (asgS (.ret ea)) D (match ev cl ea ⟨e, s⟩ with
    | .ok r m1 => .ok (.rt r) m1
    | .rz c f m1 => .rz c f m1
    | .bad => .bad) := h
  cases hf : ev cl ea ⟨e, s⟩ with
  | rz c f m1 => simp only [hf] at h; exact fun cls dd H' t x => h cls dd σ H' (t.ss G) x
  | bad => simp only [hf] at h; exact h
  | ok r m1 =>
    simp only [hf] at h
    exact fun v H' F t rv => h v σ H' F ⟨t.keep, fun a z => .inl (t.own a z), fun p hp => ⟨(t.new p hp).1, (t.new p hp).2.2.2⟩, t.repO, t.dk, rv⟩
theorem ds_retN : DS' X xc W cl (.Return none pos) .retN := PSimp ps_retN fun D σ H h => by
  obtain ⟨g, O0, e, s, G, h⟩ := h
  exact h .non σ H [] ⟨Keep.refl, fun a z => .inl z, (fun _ z => nomatch z), G.rep, G.dk, ⟨rfl, sh_none.mpr rfl⟩⟩
theorem ds_ex (ha : DE X xc W cl a ea) (hs : swapsWith a none pos.line X.env = pure false := by rfl) : DS' X xc W cl (.Expr a pos) (.ex ea) := PSimp (ps_expr ha hs) fun D σ H h => by
  obtain ⟨g, O0, e, s, G, h⟩ := h
  refine ⟨g, O0, e, s, G, ?_⟩
  show PostE xc X.K W g O0 e σ H _ (ev cl ea ⟨e, s⟩)
  have h : PostS xc X.K W g O0 e σ H (asgS (.ex ea)) D (match ev cl ea ⟨e, s⟩ with
    | .ok _ m1 => .ok .nx m1
    | .rz c f m1 => .rz c f m1
    | .bad => .bad) := h
  cases hf : ev cl ea ⟨e, s⟩ with
  | rz c f m1 => simp only [hf] at h; exact fun cls dd H' t x => h cls dd σ H' (t.ss G) x
  | bad => simp only [hf] at h; exact h
  | ok r m1 =>
    simp only [hf] at h
    exact fun v H' F t rv => h σ H' (t.ss G)
/-- slot i takes it -/
theorem setR_ok {K : PySem.W.Frag} {g : Gd} {O0 : AP} {e e' : Env} {s : DS} {σ : L2.St} {H H1 : Hp} {F : List Addr} {m1 : M} {v : V} {r : R} {i : Nat} {A : Nat → Bool} (G : Good K g O0 e s σ H) (t : Stp K g O0 e σ H F m1 H1) (rv : RV1 K g (Ow (plus O0 F) m1.e σ) σ H1 v F r) (hr : setR i r m1.e = some e') (hA : A i = true) :
    StS K g O0 e σ H A ⟨e', m1.s⟩ (σ.set i (some v)) H1 := by
  have fx : ∀ j, A j = false → (σ.set i (some v))[j]? = σ[j]? := fun j z => List.getElem?_set_ne fun q => by subst q; rw [hA] at z; cases z
  have hn : ∀ p ∈ F, ¬ O0 p ∧ ¬ own m1.e σ p := fun p hp => ⟨(t.new p hp).2.1, (t.new p hp).2.2.1⟩
  -- what escapes
  have shared : ∀ {d e1}, esc m1.e r = some (d, e1) → StS K g O0 e σ H A ⟨e1.set i (.sh d), m1.s⟩ (σ.set i (some v)) H1 := fun {d e1} he => by
    obtain ⟨r2, o2, s2⟩ := esc_ok t.repO rv hn he
    exact ⟨t.keep, fun a z => .inl (t.own a (o2 a (own_set rfl z))), r2.setSh s2, t.dk, fx⟩
  have mine : ∀ {p : Addr} {sl : Slot}, isOwn (some sl) = true → F = [p] → v = .ref p → (i < m1.e.length → SlotR K g O0 (Ow (plus O0 [p]) m1.e σ) (σ.set i (some (.ref p))) H1 i sl) → StS K g O0 e σ H A ⟨m1.e.set i sl, m1.s⟩ (σ.set i (some v)) H1 := fun {p sl} ow hF hv hs => by
    subst hF
    subst hv
    obtain ⟨n1, n2, n3, n4⟩ := t.new p (by simp)
    refine ⟨t.keep, fun a z => ?_, t.rep.setOwn n2 n3 hs, t.dk, fx⟩
    obtain ⟨j, h1, h2⟩ := z
    rcases isOwn_set h1 with ⟨z, y⟩ | ⟨z, y⟩
    · rcases get_set h2 with ⟨_, q, _⟩ | ⟨q, _⟩
      · cases q; exact .inr n1
      · exact absurd z q
    · rcases get_set h2 with ⟨q, _, _⟩ | ⟨_, q⟩
      · exact absurd q z
      · exact .inl (t.own a ⟨j, y, q⟩)
  cases r with
  | fl ds =>
    obtain rfl : m1.e.set i (.ol ds) = e' := by simpa [setR] using hr
    obtain ⟨p, xs, h1, h2, h3, h4, h5⟩ := rv
    exact mine rfl h1 h2 fun l => ⟨p, xs, by rw [List.getElem?_set_self (by rw [← t.rep.len]; exact l)], (t.new p (by rw [h1]; simp)).2.1, h3, h4, by subst h1; exact h5⟩
  | fd tt kvs =>
    obtain rfl : m1.e.set i (.od tt kvs) = e' := by simpa [setR] using hr
    obtain ⟨p, o, h1, h2, h3, h5⟩ := rv
    exact mine rfl h1 h2 fun l => ⟨p, o, by rw [List.getElem?_set_self (by rw [← t.rep.len]; exact l)], (t.new p (by rw [h1]; simp)).2.1, h3, by subst h1; exact h5⟩
  | dk =>
    obtain rfl : m1.e.set i .dk = e' := by simpa [setR] using hr
    obtain ⟨_, rfl⟩ := rv
    exact ⟨t.keep, fun a z => .inl (t.own a (own_set rfl z)), t.repO.setDk, t.dk, fx⟩
  | v d =>
    simp only [setR] at hr
    cases he : esc m1.e (.v d) with
    | none => rw [he] at hr; cases hr
    | some q => rw [he] at hr; cases hr; exact shared he
  | pl j =>
    simp only [setR] at hr
    cases he : esc m1.e (.pl j) with
    | none => rw [he] at hr; cases hr
    | some q => rw [he] at hr; cases hr; exact shared he
theorem ds_set {i : Nat} {x : Str} {p : Pos} (o : Ok X) (hi : X.N[i]? = some x) (hx : Loc X.env.scope x) (ha : DE X xc W cl a ea) (hs : swapsWith a (some (.Name x p)) pos.line X.env = pure false := by rfl) (hf : X.fn x = true ∨ X.env.scope.names.lookup x = some .local := by first | exact .inl rfl | exact .inr rfl | assumption) :
    DS' X xc W cl (.Assign [.Name x p] a pos) (.set (.nm i) ea) := PSimp (ps_set o.nd hi hx ha hs hf) fun D σ H h => by
  obtain ⟨g, O0, e, s, G, h⟩ := h
  refine ⟨g, O0, e, s, G, ?_⟩
  show PostE xc X.K W g O0 e σ H _ (ev cl ea ⟨e, s⟩)
  have h : PostS xc X.K W g O0 e σ H (asgS (.set (.nm i) ea)) D (match ev cl ea ⟨e, s⟩ with
    | .ok r m1 => match setR i r m1.e with
      | some e => .ok .nx ⟨e, m1.s⟩
      | none => .bad
    | .rz c f m1 => .rz c f m1
    | .bad => .bad) := h
  cases hf : ev cl ea ⟨e, s⟩ with
  | rz c f m1 => simp only [hf] at h; exact fun cls dd H' t x => h cls dd σ H' (t.ss G) x
  | bad => simp only [hf] at h; exact h
  | ok r m1 =>
    simp only [hf] at h
    intro v H1 F t rv
    cases hr : setR i r m1.e with
    | none => simp only [hr] at h; exact h.elim
    | some e' =>
      simp only [hr] at h
      exact h _ H1 (setR_ok G t rv hr (by simp [asgS, asgT]))
theorem ds_unp {t : Expr} {as : Tgs} (ht : DG X t (.tp as)) (ha : DE X xc W cl a ea) (hs : swapsWithSole [t] a pos.line X.env = pure false := by rfl) (hw : swappedStores [t] a X.env = pure none := by rfl) (h1 : (assignEach [t] X.env).map (·.2) = [assign t X.env] := by rfl) :
    DS' X xc W cl (.Assign [t] a pos) (.set (.tp as) ea) := PSimp (ps_asg ha ht hs hw h1) fun D σ H h => by
  obtain ⟨g, O0, e, s, G, h⟩ := h
  refine ⟨g, O0, e, s, G, ?_⟩
  show PostE xc X.K W g O0 e σ H _ (ev cl ea ⟨e, s⟩)
  have h : PostS xc X.K W g O0 e σ H (asgS (.set (.tp as) ea)) D (match ev cl ea ⟨e, s⟩ with
    | .ok r m1 => match esc m1.e r with
      | some (d, e1) => match bind1 e1 (.tp as) d with
        | some e => .ok .nx ⟨e, m1.s⟩
        | none => .bad
      | none => .bad
    | .rz c f m1 => .rz c f m1
    | .bad => .bad) := h
  cases hf : ev cl ea ⟨e, s⟩ with
  | rz c f m1 => simp only [hf] at h; exact fun cls dd H' t x => h cls dd σ H' (t.ss G) x
  | bad => simp only [hf] at h; exact h
  | ok r m1 =>
    simp only [hf] at h
    intro v H1 F t rv
    cases hr : esc m1.e r with
    | none => simp only [hr] at h; exact h.elim
    | some q =>
      obtain ⟨d, e1⟩ := q
      simp only [hr] at h
      cases hb : bind1 e1 (.tp as) d with
      | none => simp only [hb] at h; exact h.elim
      | some e2 =>
        simp only [hb] at h
        obtain ⟨r2, o2, s2⟩ := esc_ok t.repO rv (fun p hp => ⟨(t.new p hp).2.1, (t.new p hp).2.2.1⟩) hr
        have G1 := G.step0 t
        exact ⟨g, O0, e1, m1.s, d, e2, ⟨G1.dk0, G1.oe, r2, G1.dk⟩, s2, hb, fun σ' r3 o3 f3 => h σ' H1 ⟨t.keep, fun a z => .inl (t.own a (o2 a (o3 a z))), r3, t.dk, f3⟩⟩
end
end PV

/-! PV.15: several at once; loops -/
namespace PV
open PySem PySem.Spec L2

structure StX (K : PySem.W.Frag) (g : Gd) (O0 : AP) (e : Env) (σ : L2.St) (H : Hp) (A : Nat → Bool) (F : List Addr) (m : M) (σ' : L2.St) (H' : Hp) : Prop where
  keep : Keep (Mu g e σ) H H'
  own : ∀ a, own m.e σ' a → PV.own e σ a ∨ H a = none
  new : ∀ p ∈ F, H p = none ∧ ¬ O0 p ∧ ¬ PV.own m.e σ' p ∧ H' p ≠ none
  rep : Rep K g (plus O0 F) m.e σ' H'
  dk : DkRep g m.s H'
  fx : ∀ j, A j = false → σ'[j]? = σ[j]?
section
variable {xc : XC} {K : PySem.W.Frag} {g : Gd} {O0 : AP} {e e' : Env} {s : DS} {σ σ' : L2.St} {H H' : Hp} {A : Nat → Bool} {F F1 F2 : List Addr} {m : M} {v : V} {r : R} {vs : List V} {rs : List R}
theorem StX.ss (t : StX K g O0 e σ H A [] m σ' H') : StS K g O0 e σ H A m σ' H' := ⟨t.keep, t.own, t.rep.weak fun _ z => .inl z, t.dk, t.fx⟩
theorem Stp.sx (t : Stp K g O0 e σ H F m H') : StX K g O0 e σ H A F m σ H' := ⟨t.keep, fun a z => .inl (t.own a z), t.new, t.rep, t.dk, fun _ _ => rfl⟩
def plR : R → Bool
  | .pl _ => true
  | _ => false
theorem setX {i : Nat} (t : StX K g O0 e σ H A (F1 ++ F2) m σ' H') (np : plR r = false) (rv : RV1 K g (Ow (plus O0 (F1 ++ F2)) m.e σ') σ' H' v F1 r) (ap : ∀ p ∈ F1, p ∉ F2) (hr : setR i r m.e = some e') (hA : A i = true) :
    StX K g O0 e σ H A F2 ⟨e', m.s⟩ (σ'.set i (some v)) H' ∧ ∀ a, Ow (plus O0 F2) e' (σ'.set i (some v)) a → Ow (plus O0 (F1 ++ F2)) m.e σ' a := by
  have fx : ∀ j, A j = false → (σ'.set i (some v))[j]? = σ[j]? := fun j z => by
    rw [List.getElem?_set_ne fun q => by subst q; rw [hA] at z; cases z]
    exact t.fx j z
  have sub : ∀ a, plus O0 F2 a → plus O0 (F1 ++ F2) a := fun a z => z.imp id fun z => List.mem_append_right _ z
  have rep2 : Rep K g (plus O0 F2) m.e σ' H' := t.rep.weak sub
  have plain : ∀ {sl : Slot}, isOwn (some sl) = false → Rep K g (plus O0 F2) (m.e.set i sl) (σ'.set i (some v)) H' → StX K g O0 e σ H A F2 ⟨m.e.set i sl, m.s⟩ (σ'.set i (some v)) H' ∧ ∀ a, Ow (plus O0 F2) (m.e.set i sl) (σ'.set i (some v)) a → Ow (plus O0 (F1 ++ F2)) m.e σ' a := fun {sl} hs rp =>
    ⟨⟨t.keep, fun a z => t.own a (own_set hs z), fun p hp => by
      obtain ⟨h1, h2, h3, h4⟩ := t.new p (List.mem_append_right _ hp)
      exact ⟨h1, h2, fun z => h3 (own_set hs z), h4⟩, rp, t.dk, fx⟩, fun a z => z.imp (sub a) fun z => own_set hs z⟩
  have mine : ∀ {p : Addr} {sl : Slot}, F1 = [p] → v = .ref p → (i < m.e.length → SlotR K g (plus O0 F2) (Ow (plus (plus O0 F2) [p]) m.e σ') (σ'.set i (some (.ref p))) H' i sl) → StX K g O0 e σ H A F2 ⟨m.e.set i sl, m.s⟩ (σ'.set i (some v)) H' ∧ ∀ a, Ow (plus O0 F2) (m.e.set i sl) (σ'.set i (some v)) a → Ow (plus O0 (F1 ++ F2)) m.e σ' a := fun {p sl} hF hv hs => by
    subst hF
    subst hv
    obtain ⟨n1, n2, n3, n4⟩ := t.new p (by simp)
    have o1 : ∀ a, PV.own (m.e.set i sl) (σ'.set i (some (.ref p))) a → a = p ∨ PV.own m.e σ' a := fun a z => by
      obtain ⟨j, h1, h2⟩ := z
      rcases isOwn_set h1 with ⟨z, y⟩ | ⟨z, y⟩
      · rcases get_set h2 with ⟨_, q, _⟩ | ⟨q, _⟩
        · cases q; exact .inl rfl
        · exact absurd z q
      · rcases get_set h2 with ⟨q, _, _⟩ | ⟨_, q⟩
        · exact absurd q z
        · exact .inr ⟨j, y, q⟩
    refine ⟨⟨t.keep, fun a z => ?_, fun q hq => ?_, ?_, t.dk, fx⟩, fun a z => ?_⟩
    · rcases o1 a z with rfl | z
      · exact .inr n1
      · exact t.own a z
    · obtain ⟨h1, h2, h3, h4⟩ := t.new q (List.mem_append_right _ hq)
      refine ⟨h1, h2, fun z => ?_, h4⟩
      rcases o1 q z with rfl | z
      · exact ap q (by simp) hq
      · exact h3 z
    · refine (t.rep.weak (O0' := plus (plus O0 F2) [p]) fun a z => ?_).setOwn (fun z => z.elim n2 fun z => ap p (by simp) z) n3 hs
      rcases z with (z | z) | z
      · exact .inl z
      · exact .inr (List.mem_append_right _ z)
      · exact .inr (List.mem_append_left _ z)
    · rcases z with z | z
      · exact .inl (sub a z)
      · rcases o1 a z with rfl | z
        · exact .inl (.inr (by simp))
        · exact .inr z
  cases r with
  | fl ds =>
    obtain rfl : m.e.set i (.ol ds) = e' := by simpa [setR] using hr
    obtain ⟨p, xs, h1, h2, h3, h4, h5⟩ := rv
    refine mine h1 h2 fun l => ⟨p, xs, by rw [List.getElem?_set_self (by rw [← t.rep.len]; exact l)], fun z => z.elim (t.new p (by rw [h1]; simp)).2.1 fun z => ap p (by rw [h1]; simp) z, h3, h4, h5.weak fun a z => ?_⟩
    subst h1
    rcases z with ((z | z) | z) | z
    · exact .inl (.inl z)
    · exact .inl (.inr (List.mem_append_right _ z))
    · exact .inl (.inr (List.mem_append_left _ z))
    · exact .inr z
  | fd tt kvs =>
    obtain rfl : m.e.set i (.od tt kvs) = e' := by simpa [setR] using hr
    obtain ⟨p, o, h1, h2, h3, h5⟩ := rv
    refine mine h1 h2 fun l => ⟨p, o, by rw [List.getElem?_set_self (by rw [← t.rep.len]; exact l)], fun z => z.elim (t.new p (by rw [h1]; simp)).2.1 fun z => ap p (by rw [h1]; simp) z, h3, h5.weak fun a z => ?_⟩
    subst h1
    rcases z with ((z | z) | z) | z
    · exact .inl (.inl z)
    · exact .inl (.inr (List.mem_append_right _ z))
    · exact .inl (.inr (List.mem_append_left _ z))
    · exact .inr z
  | dk =>
    obtain rfl : m.e.set i .dk = e' := by simpa [setR] using hr
    obtain ⟨_, rfl⟩ := rv
    exact plain rfl rep2.setDk
  | v d =>
    obtain rfl : m.e.set i (.sh d) = e' := by simpa [setR, esc] using hr
    exact plain rfl (rep2.setSh (rv.2.weak fun a z => z.imp (sub a) id))
  | pl j => cases np
theorem RVs.one {O : AP} {a : R} (h : RVs K g O σ H vs F [a]) : ∃ x, vs = [x] ∧ RV1 K g O σ H x F a := rvs1 h
theorem RVs.uncons {O : AP} {a : R} (h : RVs K g O σ H vs F (a :: rs)) : ∃ x vs' F1 F2, vs = x :: vs' ∧ F = F1 ++ F2 ∧ RV1 K g O σ H x F1 a ∧ RVs K g O σ H vs' F2 rs ∧ ∀ p ∈ F1, p ∉ F2 := by
  generalize hr : a :: rs = rs' at h
  cases h with
  | nil => cases hr
  | cons r t d => cases hr; exact ⟨_, _, _, _, rfl, rfl, r, t, d⟩
/-- the slot's own entry does not count where nothing is read there -/
theorem RV1.slot {O : AP} {i : Nat} {x : Option V} (np : plR r = false) (h : RV1 K g O σ H v F r) : RV1 K g O (σ.set i x) H v F r := by
  cases r with
  | pl j => cases np
  | v d => exact h
  | fl d => exact h
  | fd t d => exact h
  | dk => exact h
theorem RVs.slot {O : AP} {i : Nat} {x : Option V} (np : noPl rs = true) (h : RVs K g O σ H vs F rs) : RVs K g O (σ.set i x) H vs F rs := by
  induction h with
  | nil => exact .nil
  | @cons v vs F1 F2 r rs q t d ih =>
    have n1 : plR r = false ∧ noPl rs = true := by cases r <;> simp_all [noPl, plR]
    exact .cons (q.slot n1.1) (ih n1.2) d
theorem np1 {a : R} (h : noPl (a :: rs) = true) : plR a = false ∧ noPl rs = true := by cases a <;> simp_all [noPl, plR]
end

section
variable {X : Cx} {xc : XC} {W : WX} {cl : Nat → List Arg → DS → FRes} {a b c : Expr} {ea eb ec : E} {pos px py pz pt : Pos} {as : Es}
theorem par_ok {K : PySem.W.Frag} {is : List Nat} {A : Nat → Bool} {D : Ends} {σ : L2.St} {H : Hp} (h : tS xc K W A (fun m => ex cl (.par is as) m) D σ H) (Q : List V → Hp → Prop)
    (hq : ∀ g O0 e s vs F rs m1 H1, Good K g O0 e s σ H → evs cl as ⟨e, s⟩ = .ok rs m1 → StX K g O0 e σ H A F m1 σ H1 → RVs K g (Ow (plus O0 F) m1.e σ) σ H1 vs F rs → noPl rs = true → ∀ e', setRs is rs m1.e = some e' → (∀ σ' H', StS K g O0 e σ H A ⟨e', m1.s⟩ σ' H' → D.nx σ' H') → Q vs H1) : tEs xc K W (fun m => evs cl as m) σ H Q := by
  obtain ⟨g, O0, e, s, G, h⟩ := h
  refine ⟨g, O0, e, s, G, ?_⟩
  show PostEs xc K W g O0 e σ H _ (evs cl as ⟨e, s⟩)
  have h : PostS xc K W g O0 e σ H A D (match evs cl as ⟨e, s⟩ with
    | .ok rs m1 => if noPl rs = true then match setRs is rs m1.e with
        | some e => .ok .nx ⟨e, m1.s⟩
        | none => .bad
      else .bad
    | .rz c f m1 => .rz c f m1
    | .bad => .bad) := h
  cases hf : evs cl as ⟨e, s⟩ with
  | rz c f m1 => simp only [hf] at h; exact fun cls dd H' t x => h cls dd σ H' (t.ss G) x
  | bad => simp only [hf] at h; exact h
  | ok rs m1 =>
    simp only [hf] at h
    intro vs H1 F t rv
    by_cases np : noPl rs = true
    · rw [if_pos np] at h
      cases hr : setRs is rs m1.e with
      | none => simp only [hr] at h; exact h.elim
      | some e' =>
        simp only [hr] at h
        exact hq g O0 e s vs F rs m1 H1 G hf t.sx rv np e' hr h
    · rw [if_neg np] at h; exact h.elim
theorem ds_par {i j : Nat} {x y : Str} {kt k2 pt2} (o : Ok X) (hi : X.N[i]? = some x) (hj : X.N[j]? = some y) (hij : i ≠ j) (hx : X.env.scope.names.lookup x = some .local) (hy : X.env.scope.names.lookup y = some .local) (ha : DA X xc W cl [a, b] (.cons ea (.cons eb .nil)))
    (hw : swappedStores [.Tuple [.Name x px, .Name y py] kt pt] (.Tuple [a, b] k2 pt2) X.env = pure (some [x, y])) (hs : swapsWithSole [.Tuple [.Name x px, .Name y py] kt pt] (.Tuple [a, b] k2 pt2) pos.line X.env = pure false := by rfl) :
    DS' X xc W cl (.Assign [.Tuple [.Name x px, .Name y py] kt pt] (.Tuple [a, b] k2 pt2) pos) (.par [i, j] (.cons ea (.cons eb .nil))) :=
  PSimp (ps_par o.calm o.nd hi hj hij hx hy ha hw hs) fun D σ H h => par_ok h _ fun g O0 e s vs F rs m1 H1 G hf t rv np e' hr h => by
    have hl := evs_len _ _ _ _ hf
    match rs, hl, rv, np, hr with
    | [r1, r2], _, rv, np, hr =>
      obtain ⟨v, vs', F1, F2, rfl, rfl, q1, q2, ap⟩ := rv.uncons
      obtain ⟨w, rfl, q3⟩ := rvs1 q2
      obtain ⟨n1, n2⟩ := np1 np
      refine ⟨v, w, rfl, ?_⟩
      simp only [setRs] at hr
      cases he1 : setR i r1 m1.e with
      | none => rw [he1] at hr; cases hr
      | some e1 =>
        rw [he1] at hr
        simp only at hr
        cases he2 : setR j r2 e1 with
        | none => rw [he2] at hr; cases hr
        | some e2 =>
          rw [he2] at hr
          cases hr
          obtain ⟨t1, sb⟩ := setX t n1 q1 ap he1 (by simp [asgS])
          obtain ⟨t2, _⟩ := setX (v := w) (F1 := F2) (F2 := []) (m := ⟨e1, m1.s⟩) (i := j) (by rw [List.append_nil]; exact t1) (np1 n2).1 (by rw [List.append_nil]; exact RV1.slot (np1 n2).1 (RV1.weak sb q3)) (fun _ _ z => nomatch z) he2 (by simp [asgS])
          exact h _ H1 t2.ss
end
end PV

/-! PV.16: loops; a def by its body -/
namespace PV
open PySem PySem.Spec L2

section
variable {xc : XC} {K : PySem.W.Frag} {W : WX} {cl : Nat → List Arg → DS → FRes} {g : Gd} {O O0 : AP} {e : Env} {s : DS} {σ σ1 : L2.St} {H H1 H' : Hp} {F : List Addr} {m m1 : M} {D : Ends} {A : Nat → Bool}
/-- behind an iterable, a statement's end -/
theorem iter_ok {it : It} {k : List PyData × Src → M → Res Flow} (h : tS xc K W A (fun m => match evI cl it m with
      | .ok p m1 => k p m1
      | .rz c f m1 => .rz c f m1
      | .bad => .bad) D σ H) {R : L2.It → Hp → Prop}
    (hq : ∀ g O0 e s ds src J H1, Good K g O0 e s σ H1 → ItR K σ (Ow O0 e σ) H1 J ds src → PostS xc K W g O0 e σ H1 A D (k (ds, src) ⟨e, s⟩) → R J H1) : tI xc K W (fun m => evI cl it m) σ H R := by
  obtain ⟨g, O0, e, s, G, h⟩ := h
  refine ⟨g, O0, e, s, G, ?_⟩
  show PostI xc K W g O0 e σ H R (evI cl it ⟨e, s⟩)
  cases hf : evI cl it ⟨e, s⟩ with
  | rz c f m1 => simp only [hf] at h; exact fun cls dd H' t x => h cls dd σ H' (t.ss G) x
  | bad => simp only [hf] at h; exact h
  | ok p m1 =>
    obtain ⟨ds, src⟩ := p
    simp only [hf] at h
    exact fun J H1 F t r => hq g O0 m1.e m1.s ds src J H1 (G.step0 t) r (PostS.stp G t h)
/-- the source, later on -/
theorem src_now {J : L2.It} {ds : List PyData} {src : Src} (r : ItR K σ (Ow O0 e σ) H J ds src) : ∃ P, ItOk K J ds P ∧ ∀ m σ1 H1, StS K g O0 e σ H A m σ1 H1 → (∀ a, DkS g a → O0 a) → srcFree A src = true → srcOk m src → P (Ow O0 m.e σ1) H1 := by
  cases src with
  | none =>
    obtain ⟨P, h1, h2, h3⟩ := r
    refine ⟨P, h1, fun m σ1 H1 t d _ _ => h3 (Mu g e σ) _ _ H H1 h2 t.keep (fun a z => z.elim .inr fun z => .inl (d a z)) fun a z => ?_⟩
    rcases z with z | z
    · exact .inl (.inl z)
    · exact (t.own a z).imp .inr id
  | some q =>
    obtain ⟨i, d0⟩ := q
    obtain ⟨p, h1, h2⟩ := r
    refine ⟨_, h2, fun m σ1 H1 t _ hA hs => ?_⟩
    have hA : A i = false := by simpa [srcFree] using hA
    obtain ⟨q, xs, e1, _, e3, e4, e5⟩ := t.rep.at' i _ (show m.e[i]? = some (.ol d0) from hs)
    rw [t.fx i hA, h1] at e1; cases e1
    exact ⟨p, xs, rfl, e3, e4, e5⟩
/-- the turns of a for loop -/
theorem loop_ok {J : L2.It} {tg : Tg} {A1 A2 : Nat → Bool} {f : M → Res Flow} {gt : TG} {tb : TS} {ds : List PyData} {src : Src} (G : Good K g O0 e s σ H) (r : ItR K σ (Ow O0 e σ) H J ds src) (hA : srcFree A src = true) (h1 : ∀ j, A j = false → A1 j = false ∧ A2 j = false)
    (hg : ∀ v σ H Q, tGa K A1 (fun e d => bind1 e tg d) v σ H Q → gt v σ H Q) (hb : ∀ D σ H, tS xc K W A2 f D σ H → tb D σ H)
    (h : PostS xc K W g O0 e σ H A D (lopL src (fun d m => match bind1 m.e tg d with
        | some e => f ⟨e, m.s⟩
        | none => .bad) ds ⟨e, s⟩)) :
    ∃ Wt : Nat → Nat → L2.St → Hp → Prop, (∃ m, Wt 0 m σ H) ∧ ∀ i m σ H, Wt i m σ H →
      (J.stop i H ∧ D.nx σ H) ∨ (J.go i H ∧ ∃ N : L2.St → Hp → Prop, (∀ σ' H', N σ' H' → ∃ m', m' < m ∧ Wt (i + 1) m' σ' H') ∧ ∀ x H', J.yld i H x H' → gt x σ H' fun σ2 H2 => tb { D with nx := N, ct := N, bk := D.nx } σ2 H2) := by
  let bd : PyData → M → Res Flow := fun d m => match bind1 m.e tg d with
        | some e => f ⟨e, m.s⟩
        | none => .bad
  obtain ⟨P, hI, hP⟩ := src_now (g := g) (A := A) r
  refine ⟨fun i n σ' H' => i + n = ds.length ∧ ∃ m, StS K g O0 e σ H A m σ' H' ∧ PostS xc K W g O0 m.e σ' H' A D (lopL src bd (ds.drop i) m), ⟨ds.length, by omega, ⟨e, s⟩, StS.refl G, by rw [List.drop_zero]; exact h⟩, ?_⟩
  rintro i n σ' H' ⟨hi, m, t, h⟩
  by_cases z : i < ds.length
  rotate_left
  · have : i = ds.length := by omega
    subst this
    rw [List.drop_length] at h
    unfold lopL at h
    by_cases hs : srcOk m src
    · rw [if_pos hs] at h
      exact .inl ⟨hI.stop _ _ (hP m σ' H' t G.dk0 hA hs), h σ' H' (StS.refl (s := m.s) (G.ss t))⟩
    · rw [if_neg hs] at h; exact h.elim
  · have hd : ds.drop i = ds[i] :: ds.drop (i + 1) := List.drop_eq_getElem_cons z
    rw [hd] at h
    unfold lopL at h
    by_cases hs : srcOk m src
    · rw [if_pos hs] at h
      have Pn := hP m σ' H' t G.dk0 hA hs
      have G1 := G.ss t
      refine .inr ⟨hI.go _ _ _ Pn z, fun σ2 H2 => (i + 1) + (n - 1) = ds.length ∧ ∃ m, StS K g O0 e σ H A m σ2 H2 ∧ PostS xc K W g O0 m.e σ2 H2 A D (lopL src bd (ds.drop (i + 1)) m), fun σ2 H2 hN => ⟨n - 1, by omega, hN⟩, fun x H2 hy => hg _ _ _ _ ?_⟩
      obtain ⟨k, d, hd1, hs1⟩ := hI.yld _ _ _ _ _ Pn z hy
      obtain rfl : ds[i] = d := by rw [List.getElem?_eq_getElem z] at hd1; exact Option.some.inj hd1
      -- the heap with the item
      have st2 : Stp K g O0 m.e σ' H' [] ⟨m.e, m.s⟩ H2 := G1.pure k nilF
      have G2 : Good K g O0 m.e m.s σ' H2 := G1.step0 st2
      have h2 := PostS.stp G1 st2 h
      cases hbd : bind1 m.e tg ds[i] with
      | none =>
        have hbd' : bd ds[i] m = .bad := by show (match bind1 m.e tg ds[i] with | some e => f ⟨e, m.s⟩ | none => .bad) = _; rw [hbd]
        simp only [hbd'] at h2
        exact h2.elim
      | some e1 =>
        have hbd' : bd ds[i] m = f ⟨e1, m.s⟩ := by show (match bind1 m.e tg ds[i] with | some e => f ⟨e, m.s⟩ | none => .bad) = _; rw [hbd]
        refine ⟨g, O0, m.e, m.s, ds[i], e1, G2, hs1, hbd, fun σ3 r3 o3 f3 => hb _ _ _ ?_⟩
        have t3 : StS K g O0 m.e σ' H2 A ⟨e1, m.s⟩ σ3 H2 := ⟨Keep.refl, fun a z => .inl (o3 a z), r3, G2.dk, fun j z => f3 j (h1 j z).1⟩
        have t03 : StS K g O0 e σ H A ⟨e1, m.s⟩ σ3 H2 := (t.trans (st2.ss G1)).trans t3
        have h3 := PostS.step t3 h2
        refine tS.mono (A := A) (tS.intro (G2.ss t3) ?_) fun j z => (h1 j z).2
        rw [hbd'] at h3
        show PostS xc K W g O0 e1 σ3 H2 A _ (f ⟨e1, m.s⟩)
        cases hf : f ⟨e1, m.s⟩ with
        | bad => simp only [hf] at h3; exact h3
        | rz c x m1 => simp only [hf] at h3; exact h3
        | ok fl m1 =>
          cases fl with
          | nx => simp only [hf] at h3; exact fun σ4 H4 t4 => ⟨by omega, m1, t03.trans t4, PostS.step t4 h3⟩
          | ct => simp only [hf] at h3; exact fun σ4 H4 t4 => ⟨by omega, m1, t03.trans t4, PostS.step t4 h3⟩
          | brk => simp only [hf] at h3; exact h3
          | rt r => simp only [hf] at h3; exact h3
    · rw [if_neg hs] at h; exact h.elim
/-- the turns of a while loop -/
theorem while_ok {tc : TT} {tb : TS} {c : M → Res Bool} {f : M → Res Flow} {n : Nat} (G : Good K g O0 e s σ H) (hc : ∀ σ H Q, tT xc K W c σ H Q → tc σ H Q) (hb : ∀ D σ H, tS xc K W A f D σ H → tb D σ H)
    (h : PostS xc K W g O0 e σ H A D (whL c f n ⟨e, s⟩)) : tWhile tc tb D σ H := by
  refine ⟨fun n σ' H' => ∃ m, StS K g O0 e σ H A m σ' H' ∧ PostS xc K W g O0 m.e σ' H' A D (whL c f n m), ⟨n, ⟨e, s⟩, StS.refl G, h⟩, ?_⟩
  rintro n σ' H' ⟨m, t, h⟩
  cases n with
  | zero => exact h.elim
  | succ n =>
    have G1 := G.ss t
    refine hc _ _ _ ⟨g, O0, m.e, m.s, G1, ?_⟩
    unfold whL at h
    show PostT xc K W g O0 m.e σ' H' _ (c m)
    cases hf : c m with
    | bad => simp only [hf] at h; exact h
    | rz c x m1 => simp only [hf] at h; exact fun cls dd H' t x => h cls dd σ' H' (t.ss G1) x
    | ok b m1 =>
      intro H1 t1
      have t1' := t1.ss (A := A) G1
      have G2 := G1.ss t1'
      cases b with
      | false =>
        simp only [hf] at h
        rw [if_neg (by simp)]
        exact h σ' H1 t1'
      | true =>
        simp only [hf] at h
        rw [if_pos rfl]
        have h2 := PostS.step t1' h
        refine ⟨fun σ2 H2 => ∃ m, StS K g O0 e σ H A m σ2 H2 ∧ PostS xc K W g O0 m.e σ2 H2 A D (whL c f n m), fun σ2 H2 hN => ⟨n, by omega, hN⟩, hb _ _ _ (tS.intro G2 ?_)⟩
        show PostS xc K W g O0 m1.e σ' H1 A _ (f m1)
        have t01 := t.trans t1'
        cases hg : f m1 with
        | bad => simp only [hg] at h2; exact h2
        | rz c x m2 => simp only [hg] at h2; exact h2
        | ok fl m2 =>
          cases fl with
          | nx => simp only [hg] at h2; exact fun σ4 H4 t4 => ⟨m2, t01.trans t4, PostS.step t4 h2⟩
          | ct => simp only [hg] at h2; exact fun σ4 H4 t4 => ⟨m2, t01.trans t4, PostS.step t4 h2⟩
          | brk => simp only [hg] at h2; exact h2
          | rt r => simp only [hg] at h2; exact h2
end
section
variable {X : Cx} {xc : XC} {W : WX} {cl : Nat → List Arg → DS → FRes} {body : List Stmt} {tg iter c : Expr} {t : Tg} {it : It} {tc : T} {ib : Ss} {pos : Pos}
theorem ds_for (o : Ok X) (hp : PassesOwn (model X.prog X.w) X.A X.env X.xe) (hi : DI X xc W cl tg iter it) (ht : DG X tg t) (hb : DSs X xc W cl body ib) (hs : ∀ x, foldedSetIterable iter X.env x = pure x := by intro _; rfl) :
    DS' X xc W cl (.For tg iter body [] pos) (.lop t it ib) := PSimp (ps_for hp o.calm hi ht hb hs) fun D σ H h =>
  iter_ok (k := fun p m1 => if srcFree (fun j => asgT t j || asgSs ib j) p.2 = true then lopL p.2 (fun d m => match bind1 m.e t d with
        | some e => exs cl ib ⟨e, m.s⟩
        | none => .bad) p.1 m1 else .bad) (A := asgS (.lop t it ib)) (by
      obtain ⟨g, O0, e, s, G, h⟩ := h
      refine ⟨g, O0, e, s, G, ?_⟩
      have h : PostS xc X.K W g O0 e σ H (asgS (.lop t it ib)) D (match evI cl it ⟨e, s⟩ with
        | .ok (ds, src) m1 => if srcFree (fun j => asgT t j || asgSs ib j) src = true then lopL src (fun d m => match bind1 m.e t d with
            | some e => exs cl ib ⟨e, m.s⟩
            | none => .bad) ds m1 else .bad
        | .rz c f m1 => .rz c f m1
        | .bad => .bad) := h
      cases hf : evI cl it ⟨e, s⟩ with
      | bad => simp only [hf] at h ⊢; exact h
      | rz c f m1 => simp only [hf] at h ⊢; exact h
      | ok p m1 => obtain ⟨ds, src⟩ := p; simp only [hf] at h ⊢; exact h) fun g O0 e s ds src J H1 G r h => by
    by_cases hA : srcFree (fun j => asgT t j || asgSs ib j) src = true
    · simp only [hA, if_true] at h
      exact loop_ok (A := asgS (.lop t it ib)) (A1 := asgT t) (A2 := asgSs ib) (f := fun m => exs cl ib m) (tg := t) (xc := xc) (W := W) G r hA (fun j z => by simpa [asgS] using z) (fun v σ H Q z => z) (fun D σ H z => z) h
    · simp only [hA] at h
      exact h.elim
theorem ds_while (hp : PassesOwn (model X.prog X.w) X.A X.env X.xe) (hc : DT X xc W cl c tc) (hb : DSs X xc W cl body ib) : DS' X xc W cl (.While c body [] pos) (.wh tc ib) := PSimp (ps_while hp hc hb) fun D σ H h => by
  obtain ⟨g, O0, e, s, G, h⟩ := h
  exact while_ok (A := asgS (.wh tc ib)) (c := fun m => evT cl tc m) (f := fun m => exs cl ib m) (n := 100000) G (fun _ _ _ z => z) (fun _ _ _ z => z) h
end
end PV

/-! PV.17: a def by its body's walk -/
namespace PV
open PySem PySem.Spec L2

section
variable {xc : XC} {K : PySem.W.Frag} {cl : Nat → List Arg → DS → FRes} {g : Gd} {O : AP} {s : DS} {H : Hp}
def e0 (ns : Nat) (as : List Arg) : Env := as.map slotA ++ List.replicate ns .un
theorem e0_get {ns : Nat} {as : List Arg} {i : Nat} {sl : Slot} (h : (e0 ns as)[i]? = some sl) : (∃ a, as[i]? = some a ∧ sl = slotA a) ∨ sl = .un := by
  unfold e0 at h
  by_cases z : i < as.length
  · rw [List.getElem?_append_left (by simpa using z), List.getElem?_map] at h
    cases hq : as[i]? with
    | none => rw [hq] at h; cases h
    | some a => rw [hq] at h; cases h; exact .inl ⟨a, rfl, rfl⟩
  · rw [List.getElem?_append_right (by simpa using z), List.getElem?_replicate] at h
    split at h
    · cases h; exact .inr rfl
    · cases h
theorem e0_own {ns : Nat} {as : List Arg} {i : Nat} : isOwn (e0 ns as)[i]? = false := by
  cases h : (e0 ns as)[i]? with
  | none => rfl
  | some sl =>
    rcases e0_get h with ⟨a, _, rfl⟩ | rfl
    · cases a <;> rfl
    · rfl
theorem e0_no {ns : Nat} {as : List Arg} {σ : L2.St} {a : Addr} : ¬ own (e0 ns as) σ a := fun ⟨i, h, _⟩ => by rw [e0_own] at h; cases h
theorem good0 {N : List Str} {vs : List V} {as : List Arg} (h1 : ∀ a, DkS g a → O a) (h2 : ∀ a, O a → H a ≠ none) (dk : DkRep g s H) (hp : Paired (ArgR K g O H) vs as) (hl : vs.length ≤ N.length) : Good K g O (e0 (N.length - as.length) as) s (start N vs) H := by
  refine ⟨h1, h2, ⟨?_, fun i sl hi => ?_, fun i j a z _ _ _ => ?_⟩, dk⟩
  · unfold e0 L2.start
    simp [← Paired.len hp]
  · rcases e0_get hi with ⟨a, ha, rfl⟩ | rfl
    · obtain ⟨v, hv, r⟩ := Paired.get hp ha
      have hs : (start N vs)[i]? = some (some v) := by
        unfold L2.start
        rw [List.getElem?_append_left (by simpa using (List.getElem?_eq_some_iff.mp hv).1), List.getElem?_map, hv]
        rfl
      cases r with
      | sh h => exact ⟨v, hs, h.weak fun a z => z.elim id fun z => (e0_no z).elim⟩
      | dk => exact hs
    · trivial
  · rw [e0_own] at z; cases z
theorem runB_len {fd : FD} {as : List Arg} {s : DS} (h : runB cl fd as s ≠ .bad) : as.length = fd.np := by
  unfold runB at h
  by_cases z : as.length = fd.np
  · exact z
  · rw [if_neg z] at h; exact absurd rfl h
theorem body_ok {N : List Str} {vs : List V} {np : Nat} {ib : Ss} {Q : VK} {E : XK} (hn : np ≤ N.length) (h : spF xc K np (runB cl ⟨N.length, np, ib⟩) vs H Q E) :
    tS xc K (fun c d _ H => E c d H) (asgSs ib) (fun m => exs cl ib m) { nx := fun _ H' => Q .non H', rt := Q } (start N vs) H := by
  obtain ⟨hl, g, O, as, s, h1, h2, dk, hp, h⟩ := h
  have G := good0 (N := N) h1 h2 dk hp (by omega)
  have la : as.length = np := by rw [← Paired.len hp]; exact hl
  have kp : ∀ {H'}, Keep (Mu g (e0 (N.length - as.length) as) (start N vs)) H H' → Keep (DkS g) H H' := fun k => k.mono fun a z => z.elim (fun z => (e0_no z).elim) id
  have nw : ∀ {m : M} {σ' a}, (own m.e σ' a → own (e0 (N.length - as.length) as) (start N vs) a ∨ H a = none) → own m.e σ' a → H a = none := fun f z => (f z).elim (fun z => (e0_no z).elim) id
  unfold runB at h
  simp only at h
  rw [if_pos la] at h
  rw [show as.map slotA ++ List.replicate (N.length - np) .un = e0 (N.length - as.length) as by rw [la]; rfl] at h
  refine tS.intro G ?_
  cases hf : exs cl ib ⟨e0 (N.length - as.length) as, s⟩ with
  | bad => rw [hf] at h; exact h
  | rz c f m =>
    rw [hf] at h
    exact fun cls dd σ' H' t x => h cls dd H' (kp t.keep) (x.weak fun a z => .inl z) t.dk
  | ok fl m =>
    rw [hf] at h
    cases fl with
    | brk => exact h.elim
    | ct => exact h.elim
    | nx => exact fun σ' H' t => h .non H' [] (kp t.keep) nilF (RO.sh (sh_none.mpr rfl)) t.dk
    | rt r =>
      intro v σ' H' F t
      simp only at h
      have sub : ∀ a, plus O F a → Ow (plus O F) m.e σ' a := fun a z => .inl z
      cases r with
      | dk => exact h.elim
      | v d => exact h v H' F (kp t.keep) t.new (RO.weak sub (show RO K _ H' v F (.v d) from t.rv)) t.dk
      | fl ds => exact h v H' F (kp t.keep) t.new (RO.weak sub (show RO K _ H' v F (.fl ds) from t.rv)) t.dk
      | fd tt kvs => exact h v H' F (kp t.keep) t.new (RO.weak sub (show RO K _ H' v F (.fd tt kvs) from t.rv)) t.dk
      | pl i =>
        obtain ⟨rfl, hi⟩ := t.rv
        unfold finR at h
        simp only at h
        cases hs : m.e[i]? with
        | none => rw [hs] at h; exact h.elim
        | some sl =>
          have q := t.rep.at' i _ hs
          cases sl with
          | un => rw [hs] at h; exact h.elim
          | dk => rw [hs] at h; exact h.elim
          | sh d =>
            rw [hs] at h
            obtain ⟨v', e1, e2⟩ := q
            rw [hi] at e1; cases e1
            exact h v H' [] (kp t.keep) nilF (RO.sh (e2.weak fun a z => .inl z)) t.dk
          | ol ds =>
            rw [hs] at h
            obtain ⟨p, xs, e1, e2, e3, e4, e5⟩ := q
            rw [hi] at e1; cases e1
            have op : own m.e σ' p := ⟨i, by rw [hs]; rfl, hi⟩
            refine h _ H' [p] (kp t.keep) (fun z hz => ?_) ⟨p, xs, rfl, rfl, e3, e4, e5.weak fun a z => ?_⟩ t.dk
            · rw [List.mem_singleton.mp hz]; exact ⟨nw (t.own p) op, by rw [e3]; simp⟩
            · rcases z with z | z
              · exact .inl z
              · rw [List.mem_singleton.mp z]; exact .inr op
          | od tt kvs =>
            rw [hs] at h
            obtain ⟨p, o, e1, e2, e3, e5⟩ := q
            rw [hi] at e1; cases e1
            have op : own m.e σ' p := ⟨i, by rw [hs]; rfl, hi⟩
            refine h _ H' [p] (kp t.keep) (fun z hz => ?_) ⟨p, o, rfl, rfl, e3, e5.weak fun a z => ?_⟩ t.dk
            · rw [List.mem_singleton.mp hz]; exact ⟨nw (t.own p) op, by rw [e3]; simp⟩
            · rcases z with z | z
              · exact .inl z
              · rw [List.mem_singleton.mp z]; exact .inr op
end
section
variable {P : Program} {w : World} {K : PySem.W.Frag} {mg : Str → Option Value} {base : Heap} {xc : XC} {cl : Nat → List Arg → DS → FRes}
/-- what a body's walk may use -/
structure Bd (X : Cx) (W : WX) (k : Nat) : Prop where
  ok : Ok X
  room : Room k X.A
  pass : PassesOwn (model X.prog X.w) X.A X.env X.xe
  takes : Takes X W
abbrev CxD (P : Program) (w : World) (K : PySem.W.Frag) (mg : Str → Option Value) (base : Heap) (N : List Str) (qual : Str) (st : Stmt) (f : Addr) (cdv : Value) (A : Around) (outer : List PySem.Env) (s : Shared) (H : Hp) (E : XK) : Cx := cxOf (L2.CX P w) P w K mg base N qual (defScope st) f cdv A outer s H E
theorem def_ok {x qual : Str} {st : Stmt} {f : Addr} {fd : FuncData} {N ps : List Str} {k : Nat} {ib : Ss} (F : Fun K x qual st f fd) (S : FnScope N ps (defScope st))
    (hb : ∀ (cdv : Value) (A : Around) (outer : List PySem.Env) (s : Shared) (H : Hp) (E : XK), Bd (CxD P w K mg base N qual st f cdv A outer s H E) (fun c d _ H => E c d H) k → DSs (CxD P w K mg base N qual st f cdv A outer s H E) xc (fun c d _ H => E c d H) cl (defBody st) ib) :
    FnG P w K mg base (L2.CX P w) (k + 1) f fd ps (spF xc K ps.length (runB cl ⟨N.length, ps.length, ib⟩)) := by
  obtain ⟨oc, od, kV, doc, pm, an, cdv, ct, osl, rfl, lk, hcd⟩ := F.ex
  refine FnG.body lk hcd S (fun vs H Q E h => h.1) fun A outer s H vs Q E hg hr hf hsp => ?_
  have un := hr.un
  refine ⟨_, hb cdv A outer s H E ⟨⟨rfl, S.nd, ?_, deeper_gd hg⟩, hr, L2.passes_of rfl, L2.takes_of rfl rfl rfl rfl⟩, body_ok ?_ hsp⟩
  · show (A.deeper _).units + 65 < cLine
    omega
  · have := congrArg List.length S.pre
    rw [List.length_take] at this
    omega
end
end PV

/-! PV.18: list comprehensions -/
namespace PV
open PySem PySem.Spec L2

section
variable {xc : XC} {K : PySem.W.Frag} {W : WX} {cl : Nat → List Arg → DS → FRes} {g : Gd} {O O0 : AP} {e e' e1 e2 : Env} {s : DS} {σ σ1 σ2 : L2.St} {H H1 H' : Hp} {F : List Addr} {m m1 : M} {vs : List Nat}
theorem wipe_get {j : Nat} : ∀ {vs : List Nat}, (wipe σ vs)[j]? = if j ∈ vs then σ[j]?.map fun _ => none else σ[j]?
  | [] => by simp [wipe]
  | v :: vs => by
    unfold wipe
    by_cases h : v = j
    · subst h
      rw [if_pos List.mem_cons_self, List.getElem?_set, if_pos rfl, wipe_length]
      by_cases z : v < σ.length
      · rw [if_pos z, List.getElem?_eq_getElem z]; rfl
      · rw [if_neg z, List.getElem?_eq_none (by simpa using z)]; rfl
    · rw [List.getElem?_set_ne h, wipe_get (vs := vs)]
      by_cases q : j ∈ vs
      · rw [if_pos q, if_pos (List.mem_cons_of_mem _ q)]
      · rw [if_neg q, if_neg (fun z => (List.mem_cons.mp z).elim (fun z => h z.symm) q)]
theorem clear_len : ∀ {vs : List Nat}, (clear e vs).length = e.length
  | [] => rfl
  | v :: vs => by unfold clear; rw [List.length_set, clear_len]
theorem back_get {j : Nat} : ∀ {vs : List Nat}, (back e e1 vs)[j]? = if j ∈ vs then e[j]?.map fun _ => (e1[j]?).getD .un else e[j]?
  | [] => by simp [back]
  | v :: vs => by
    unfold back
    have hl : ∀ vs : List Nat, (back e e1 vs).length = e.length := fun vs => by
      induction vs with
      | nil => rfl
      | cons v vs ih => unfold back; rw [List.length_set, ih]
    by_cases h : v = j
    · subst h
      rw [if_pos List.mem_cons_self, List.getElem?_set, if_pos rfl, hl]
      by_cases z : v < e.length
      · rw [if_pos z, List.getElem?_eq_getElem z]; rfl
      · rw [if_neg z, List.getElem?_eq_none (l := e) (by simpa using z)]; rfl
    · rw [List.getElem?_set_ne h, back_get (vs := vs)]
      by_cases q : j ∈ vs
      · rw [if_pos q, if_pos (List.mem_cons_of_mem _ q)]
      · rw [if_neg q, if_neg (fun z => (List.mem_cons.mp z).elim (fun z => h z.symm) q)]
theorem back_len : ∀ {vs : List Nat}, (back e e1 vs).length = e.length
  | [] => rfl
  | v :: vs => by unfold back; rw [List.length_set, back_len]
theorem Rep.clear (r : Rep K g O0 e σ H) : ∀ vs : List Nat, Rep K g O0 (PV.clear e vs) (wipe σ vs) H ∧ ∀ a, own (PV.clear e vs) (wipe σ vs) a → own e σ a
  | [] => ⟨r, fun _ z => z⟩
  | v :: vs => by
    obtain ⟨r1, o1⟩ := Rep.clear r vs
    exact ⟨r1.setUn, fun a z => o1 a (own_set rfl z)⟩
theorem clear_get {j : Nat} (h : j ∈ vs) : ∀ sl, (clear e vs)[j]? = some sl → sl = .un := by
  induction vs with
  | nil => cases h
  | cons v vs ih =>
    intro sl hs
    unfold clear at hs
    rcases get_set hs with ⟨_, q, _⟩ | ⟨q, z⟩
    · exact q
    · exact ih ((List.mem_cons.mp h).resolve_left q) sl z
/-- the block's own slots as they were -/
theorem Rep.back {O' : AP} (r2 : Rep K g O' e2 (wipe σ vs) H') (r1 : Rep K g O0 e1 σ H1) (k : Keep (Mu g e1 σ) H1 H') (dk : ∀ a, DkS g a → O0 a) (o : ∀ a, own e2 (wipe σ vs) a → own e1 σ a) (hv : vs.all (fun i => !isOwn e1[i]?) = true) (hO : ∀ a, O' a → O0 a ∨ H1 a = none) (hl : e2.length = e1.length) :
    Rep K g O' (PV.back e2 e1 vs) σ H' ∧ ∀ a, own (PV.back e2 e1 vs) σ a → own e2 (wipe σ vs) a := by
  have nv : ∀ j ∈ vs, isOwn e1[j]? = false := fun j hj => by
    have := List.all_eq_true.mp hv j hj
    simpa using this
  have at1 : ∀ {j}, isOwn (PV.back e2 e1 vs)[j]? = true → j ∉ vs ∧ isOwn e2[j]? = true := fun {j} h => by
    rw [back_get] at h
    by_cases q : j ∈ vs
    · rw [if_pos q] at h
      exfalso
      cases hq : e2[j]? with
      | none => rw [hq] at h; simp [isOwn] at h
      | some sl =>
        rw [hq] at h
        have z := nv j q
        cases hq1 : e1[j]? with
        | none => rw [hq1] at h; simp [isOwn] at h
        | some s1 =>
          rw [hq1] at z h
          have h : isOwn (some s1) = true := h
          rw [z] at h; cases h
    · rw [if_neg q] at h; exact ⟨q, h⟩
  have sg : ∀ {j}, j ∉ vs → (wipe σ vs)[j]? = σ[j]? := fun {j} q => by rw [wipe_get, if_neg q]
  have oo : ∀ a, own (PV.back e2 e1 vs) σ a → own e2 (wipe σ vs) a := fun a ⟨j, h1, h2⟩ => by
    obtain ⟨q, h⟩ := at1 h1
    exact ⟨j, h, by rw [sg q]; exact h2⟩
  refine ⟨⟨by rw [back_len, r2.len, wipe_length], fun j sl h => ?_, fun i j a h1 h2 h3 h4 => ?_⟩, oo⟩
  · rw [back_get] at h
    by_cases q : j ∈ vs
    · rw [if_pos q] at h
      cases hq : e2[j]? with
      | none => rw [hq] at h; cases h
      | some s2 =>
        have lt : j < e1.length := by rw [← hl]; exact (List.getElem?_eq_some_iff.mp hq).1
        have h1 := List.getElem?_eq_getElem lt
        have z := nv j q
        rw [h1] at z
        rw [hq, h1] at h
        obtain rfl : e1[j] = sl := by simpa using h
        have q1 := r1.at' j _ h1
        generalize e1[j] = s1 at q1 z
        cases s1 with
        | un => trivial
        | dk => exact q1
        | ol ds => cases z
        | od t kvs => cases z
        | sh d =>
          obtain ⟨v, a1, a2⟩ := q1
          refine ⟨v, a1, a2.go k (fun a z => z.elim .inr fun z => .inl (dk a z)) fun a z => ?_⟩
          rcases z with z | z
          · exact (hO a z).imp .inl id
          · exact .inl (.inr (o a (oo a z)))
    · rw [if_neg q] at h
      have q2 := r2.at' j sl h
      have wk : ∀ a, Ow O' (PV.back e2 e1 vs) σ a → Ow O' e2 (wipe σ vs) a := fun a z => z.imp id (oo a)
      refine SlotR.weak (O := Ow O' e2 (wipe σ vs)) ?_ wk fun _ z => .inl z
      cases sl with
      | un => trivial
      | sh d => obtain ⟨v, a1, a2⟩ := q2; exact ⟨v, by rw [← sg q]; exact a1, a2⟩
      | ol ds => obtain ⟨p, xs, a1, a2⟩ := q2; exact ⟨p, xs, by rw [← sg q]; exact a1, a2⟩
      | od t kvs => obtain ⟨p, xs, a1, a2⟩ := q2; exact ⟨p, xs, by rw [← sg q]; exact a1, a2⟩
      | dk => show σ[j]? = _; rw [← sg q]; exact q2
  · obtain ⟨q1, z1⟩ := at1 h1
    obtain ⟨q2, z2⟩ := at1 h2
    exact r2.inj i j a z1 z2 (by rw [sg q1]; exact h3) (by rw [sg q2]; exact h4)
/- the targets are the block's own -/
mutual
def tgIn (own : List Nat) : Tg → Bool
  | .nm i => own.contains i
  | .tp ts => tgsIn own ts
def tgsIn (own : List Nat) : Tgs → Bool
  | .nil => true
  | .cons t ts => tgIn own t && tgsIn own ts
end
mutual
theorem tgIn_mem {own : List Nat} {j : Nat} : ∀ {t : Tg}, tgIn own t = true → asgT t j = true → j ∈ own
  | .nm i, h, h2 => by
    have : i = j := by simpa [asgT] using h2
    subst this
    simpa [tgIn] using h
  | .tp ts, h, h2 => tgsIn_mem (by simpa [tgIn] using h) (by simpa [asgT] using h2)
theorem tgsIn_mem {own : List Nat} {j : Nat} : ∀ {t : Tgs}, tgsIn own t = true → asgTs t j = true → j ∈ own
  | .nil, _, h2 => by simp [asgTs] at h2
  | .cons t ts, h, h2 => by
    have h : tgIn own t = true ∧ tgsIn own ts = true := by simpa [tgsIn] using h
    have h2 : asgT t j = true ∨ asgTs ts j = true := by simpa [asgTs] using h2
    exact h2.elim (tgIn_mem h.1) (tgsIn_mem h.2)
end
mutual
theorem bind1_len : ∀ {t : Tg} {e : Env} {d : PyData} {e' : Env}, bind1 e t d = some e' → e'.length = e.length
  | .nm i, e, d, e', h => by
    obtain rfl : e.set i (.sh d) = e' := by simpa [bind1] using h
    simp
  | .tp ts, e, d, e', h => by
    cases d with
    | tuple ds => exact bindL_len' (show bindL e ts ds = some e' from h)
    | none => simp [bind1] at h
    | bool b => simp [bind1] at h
    | int b => simp [bind1] at h
    | str b => simp [bind1] at h
    | list b => simp [bind1] at h
    | dict b => simp [bind1] at h
theorem bindL_len' : ∀ {t : Tgs} {e : Env} {d : List PyData} {e' : Env}, bindL e t d = some e' → e'.length = e.length
  | .nil, e, [], e', h => by
    obtain rfl : e = e' := by simpa [bindL] using h
    rfl
  | .nil, e, d :: ds, e', h => by simp [bindL] at h
  | .cons t ts, e, [], e', h => by simp [bindL] at h
  | .cons t ts, e, d :: ds, e', h => by
    simp only [bindL] at h
    cases hb : bind1 e t d with
    | none => rw [hb] at h; cases h
    | some e1 => rw [hb] at h; rw [bindL_len' h, bind1_len hb]
end
theorem wipe_eq (hl : σ2.length = σ.length) (h : ∀ j, j ∉ vs → σ2[j]? = (wipe σ vs)[j]?) : wipe σ2 vs = wipe σ vs := by
  refine List.ext_getElem? fun j => ?_
  rw [wipe_get, wipe_get]
  by_cases q : j ∈ vs
  · rw [if_pos q, if_pos q]
    by_cases z : j < σ.length
    · rw [List.getElem?_eq_getElem z, List.getElem?_eq_getElem (by omega)]; rfl
    · rw [List.getElem?_eq_none (by omega), List.getElem?_eq_none (by omega)]
  · rw [if_neg q, if_neg q, h j q, wipe_get, if_neg q]

/-- where a comprehension stands -/
structure LcI (K : PySem.W.Frag) (g : Gd) (O0 : AP) (e1 : Env) (σ : L2.St) (H1 : Hp) (D : Addr) (vs : List Nat) (m : M) (H : Hp) : Prop where
  keep : Keep (Mu g e1 σ) H1 H
  own : ∀ a, own m.e (wipe σ vs) a → PV.own e1 σ a
  good : Good K g (plus O0 [D]) m.e m.s (wipe σ vs) H
theorem LcI.ow {D : Addr} (t : LcI K g O0 e1 σ H1 D vs m H) (nD : H1 D = none) : ∀ a, Ow (plus O0 [D]) m.e (wipe σ vs) a → Ow O0 e1 σ a ∨ H1 a = none := fun a z => by
  rcases z with (z | z) | z
  · exact .inl (.inl z)
  · rw [List.mem_singleton.mp z]; exact .inr nD
  · exact .inl (.inr (t.own a z))
theorem lc_src {J : L2.It} {ds : List PyData} {src : Src} (r : ItR K σ (Ow O0 e1 σ) H1 J ds src) (dk : ∀ a, DkS g a → O0 a) : ∃ P, ItOk K J ds P ∧ ∀ D m H, H1 D = none → LcI K g O0 e1 σ H1 D vs m H → srcOk m src → P (Ow (plus O0 [D]) m.e (wipe σ vs)) H := by
  cases src with
  | none =>
    obtain ⟨P, h1, h2, h3⟩ := r
    exact ⟨P, h1, fun D m H nD t _ => h3 (Mu g e1 σ) _ _ H1 H h2 t.keep (fun a z => z.elim .inr fun z => .inl (dk a z)) (t.ow nD)⟩
  | some q =>
    obtain ⟨i, d0⟩ := q
    obtain ⟨p, h1, h2⟩ := r
    refine ⟨_, h2, fun D m H nD t hs => ?_⟩
    obtain ⟨q, xs, a1, _, a3, a4, a5⟩ := t.good.rep.at' i _ (show m.e[i]? = some (.ol d0) from hs)
    have := (wipe_some a1).1
    rw [h1] at this; cases this
    exact ⟨p, xs, rfl, a3, a4, a5⟩
theorem upd_id {H : Hp} {a : Addr} {o : HO} (h : H a = some o) : upd H a o = H := by
  funext b
  unfold upd
  split
  · rename_i q; rw [q, h]
  · rfl
/-- the turns of a list comprehension -/
theorem lc_ok {J : L2.It} {tg : Tg} {gt : TG} {tt : TT} {te : TE} {fc : M → Res Bool} {fe : M → Res R} {ds : List PyData} {src : Src} {Q : VK} (G : Good K g O0 e1 s σ H1) (r : ItR K σ (Ow O0 e1 σ) H1 J ds src) (hn : vs.all (fun i => !isOwn e1[i]?) = true) (hl : ds.length ≤ LIM) (ht : tgIn vs tg = true)
    (hg : ∀ v σ H Q, tGa K (asgT tg) (fun e d => bind1 e tg d) v σ H Q → gt v σ H Q) (hc : ∀ σ H Q, tT xc K (fun _ _ _ _ => False) fc σ H Q → tt σ H Q) (he : ∀ σ H Q, tE xc K (fun _ _ _ _ => False) fe σ H Q → te σ H Q)
    (h : PostE xc K W g O0 e1 σ H1 Q (match lcL src vs (fun d m => match bind1 m.e tg d with
            | some e => fc ⟨e, m.s⟩
            | none => .bad) fe ds [] ⟨clear e1 vs, s⟩ with
        | .ok acc m2 => .ok (.fl acc) ⟨back m2.e e1 vs, m2.s⟩
        | _ => .bad)) (D : Addr) (nD : H1 D = none) :
    ∃ Wt : Nat → Nat → Hp → Prop, (∃ m, Wt 0 m (upd H1 D (.lst []))) ∧ ∀ i m H, Wt i m H →
      (J.stop i H ∧ Q (.ref D) H) ∨ (J.go i H ∧ ∃ Nx : Hp → Prop, (∀ H', Nx H' → ∃ m', m' < m ∧ Wt (i + 1) m' H') ∧ ∀ x H', J.yld i H x H' → gt x (wipe σ vs) H' fun σ2 H2 => wipe σ2 vs = wipe σ vs ∧ tt σ2 H2 fun b H3 =>
        if b = true then te σ2 H3 fun y H4 => ∃ acc, H4 D = some (.lst acc) ∧ acc.length < sizeLine ∧ Nx (upd H4 D (.lst (acc ++ [y]))) else Nx H3) := by
  let bd : PyData → M → Res Bool := fun d m => match bind1 m.e tg d with
            | some e => fc ⟨e, m.s⟩
            | none => .bad
  obtain ⟨P, hI, hP⟩ := lc_src (vs := vs) r G.dk0
  have D0 : ¬ O0 D := fun z => G.oe D z nD
  have Dk : ¬ DkS g D := fun z => D0 (G.dk0 D z)
  -- the invariant
  let Inv' : Nat → M → Hp → Prop := fun i m H => LcI K g O0 e1 σ H1 D vs m H ∧ m.e.length = e1.length ∧ (∃ xs acc, H D = some (.lst xs) ∧ xs.length ≤ i ∧ ShA K (Ow (plus O0 [D]) m.e (wipe σ vs)) H xs acc ∧
    PostE xc K W g O0 e1 σ H1 Q (match lcL src vs bd fe (ds.drop i) acc m with
        | .ok acc m2 => .ok (.fl acc) ⟨back m2.e e1 vs, m2.s⟩
        | _ => .bad))
  refine ⟨fun i n H => i + n = ds.length ∧ ∃ m, Inv' i m H, ⟨ds.length, by omega, ⟨clear e1 vs, s⟩, ⟨?_, ?_, ?_⟩, clear_len, [], [], upd_same, Nat.le_refl _, .nil, by rw [List.drop_zero]; exact h⟩, ?_⟩
  · exact Keep.new nD
  · exact (G.rep.clear vs).2
  · have k0 : Keep (fun _ => False) H1 (upd H1 D (.lst [])) := Keep.new nD
    refine ⟨fun a z => .inl (G.dk0 a z), fun a z => ?_, (G.rep.clear vs).1.go k0 (fun _ z => z.elim) fun a z => z.imp id fun z => by rw [List.mem_singleton.mp z]; exact nD, G.dk.keep k0 fun _ z => z.elim⟩
    rcases z with z | z
    · exact fun q => G.oe a z (k0.old a q)
    · rw [List.mem_singleton.mp z, upd_same]; simp
  rintro i n H ⟨hi, m, t, ml, xs, acc, hD, hx, hs, h⟩
  by_cases z : i < ds.length
  rotate_left
  · have : i = ds.length := by omega
    subst this
    rw [List.drop_length] at h
    unfold lcL at h
    by_cases hso : srcOk m src
    · rw [if_pos hso] at h
      refine .inl ⟨hI.stop _ _ (hP D m H nD t hso), ?_⟩
      obtain ⟨rb, ob⟩ := t.good.rep.back G.rep t.keep G.dk0 t.own hn (fun a z => z.imp id fun z => by rw [List.mem_singleton.mp z]; exact nD) ml
      have os : ∀ a, own (back m.e e1 vs) σ a → own e1 σ a := fun a z => t.own a (ob a z)
      refine h (.ref D) H [D] ⟨t.keep, os, fun p hp => ?_, rb, t.good.dk⟩ ⟨D, xs, rfl, rfl, hD, ?_, ?_⟩
      · rw [List.mem_singleton.mp hp]
        refine ⟨nD, D0, fun z => ?_, by rw [hD]; simp⟩
        obtain ⟨_, o, ho, _⟩ := G.rep.owned (os D z)
        rw [nD] at ho; cases ho
      · rw [← LIM_eq]; omega
      · exact ShA.weak (fun a z => z.imp id (ob a)) hs
    · rw [if_neg hso] at h; exact h.elim
  · have hd : ds.drop i = ds[i] :: ds.drop (i + 1) := List.drop_eq_getElem_cons z
    rw [hd] at h
    unfold lcL at h
    by_cases hso : srcOk m src
    rotate_left
    · rw [if_neg hso] at h; exact h.elim
    · rw [if_pos hso] at h
      have Pn := hP D m H nD t hso
      refine .inr ⟨hI.go _ _ _ Pn z, fun H2 => (i + 1) + (n - 1) = ds.length ∧ ∃ m, Inv' (i + 1) m H2, fun H2 hN => ⟨n - 1, by omega, hN⟩, fun x H2 hy => hg _ _ _ _ ?_⟩
      obtain ⟨k, d, hd1, hs1⟩ := hI.yld _ _ _ _ _ Pn z hy
      obtain rfl : ds[i] = d := by rw [List.getElem?_eq_getElem z] at hd1; exact Option.some.inj hd1
      have G1 := t.good
      have st2 : Stp K g (plus O0 [D]) m.e (wipe σ vs) H [] ⟨m.e, m.s⟩ H2 := G1.pure k nilF
      have G2 : Good K g (plus O0 [D]) m.e m.s (wipe σ vs) H2 := G1.step0 st2
      cases hbd : bind1 m.e tg ds[i] with
      | none =>
        have hbd' : bd ds[i] m = .bad := by show (match bind1 m.e tg ds[i] with | some e => fc ⟨e, m.s⟩ | none => .bad) = _; rw [hbd]
        simp only [hbd'] at h
        exact h.elim
      | some ea =>
        have hbd' : bd ds[i] m = fc ⟨ea, m.s⟩ := by show (match bind1 m.e tg ds[i] with | some e => fc ⟨e, m.s⟩ | none => .bad) = _; rw [hbd]
        rw [hbd'] at h
        refine ⟨g, plus O0 [D], m.e, m.s, ds[i], ea, G2, hs1, hbd, fun σ3 r3 o3 f3 => ?_⟩
        have hl3 : σ3.length = σ.length := by rw [← r3.len, bind1_len hbd, G1.rep.len, wipe_length]
        have hw : wipe σ3 vs = wipe σ vs := wipe_eq hl3 fun j hj => f3 j (by
          cases q : asgT tg j with
          | false => rfl
          | true => exact absurd (tgIn_mem ht q) hj)
        have G3 : Good K g (plus O0 [D]) ea m.s σ3 H2 := ⟨G2.dk0, G2.oe, r3, G2.dk⟩
        have k12 : Keep (Mu g e1 σ) H1 H2 := t.keep.trans k fun _ z => z.elim
        refine ⟨hw, hc _ _ _ ⟨g, plus O0 [D], ea, m.s, G3, ?_⟩⟩
        -- what stands at D goes on standing
        have stayD : ∀ {F m4 H4}, Stp K g (plus O0 [D]) ea σ3 H2 F m4 H4 → H4 D = some (.lst xs) := fun {F m4 H4} t4 => t4.keep.stay D _ (k.stay D _ hD (.inl fun z => z)) (.inl fun z => by
          rcases z with z | z
          · exact (G3.rep.owned z).1 (.inr (by simp))
          · exact Dk z)
        have keepA : ∀ {F m4 H4}, Stp K g (plus O0 [D]) ea σ3 H2 F m4 H4 → ShA K (Ow (plus O0 [D]) m4.e σ3) H4 xs acc := fun {F m4 H4} t4 => ShA.go (ShA.go hs k (fun _ z => z.elim) fun a z => .inl z) (M := Mu g ea σ3) t4.keep (fun a z => z.elim (fun z => .inr (o3 a z)) fun z => .inl (.inl (G.dk0 a z))) fun a z => .inl (z.imp id fun z => o3 a (t4.own a z))
        -- at the end of the turn
        have done : ∀ {F m4 H4}, Stp K g (plus O0 [D]) ea σ3 H2 F m4 H4 → ∀ {e5}, Rep K g (plus O0 [D]) e5 σ3 H4 → (∀ a, own e5 σ3 a → own m4.e σ3 a) → e5.length = e1.length → ∀ ys acc', ys.length ≤ i + 1 → ShA K (Ow (plus O0 [D]) e5 σ3) H4 ys acc' →
            PostE xc K W g O0 e1 σ H1 Q (match lcL src vs bd fe (ds.drop (i + 1)) acc' ⟨clear e5 vs, m4.s⟩ with
              | .ok acc m2 => .ok (.fl acc) ⟨back m2.e e1 vs, m2.s⟩
              | _ => .bad) → Inv' (i + 1) ⟨clear e5 vs, m4.s⟩ (upd H4 D (.lst ys)) := fun {F m4 H4} t4 {e5} r5 o5 l5 ys acc' hy ha h => by
          have hD4 := stayD t4
          have kw : Keep (fun a => a = D) H4 (upd H4 D (.lst ys)) := Keep.write hD4 rfl rfl
          have k14 : Keep (Mu g e1 σ) H1 H4 := k12.trans t4.keep fun a z => .inl (z.imp (fun z => t.own a (o3 a z)) id)
          have r6 : Rep K g (plus O0 [D]) (clear e5 vs) (wipe σ vs) H4 := by rw [← hw]; exact (r5.clear vs).1
          have o6 : ∀ a, own (clear e5 vs) (wipe σ vs) a → own e5 σ3 a := by rw [← hw]; exact (r5.clear vs).2
          refine ⟨⟨k14.trans kw fun a z => .inr (by rw [z]; exact nD), fun a z => t.own a (o3 a (t4.own a (o5 a (o6 a z)))), fun a z => .inl (G.dk0 a z), fun a z q => ?_, r6.go kw (fun a z => .inr (by simp [z])) fun a z => .inl z, t4.dk.keep kw fun a z q => Dk (by rw [← z]; exact q)⟩, by rw [clear_len]; exact l5, ys, acc', upd_same, hy, ?_, h⟩
          · exact G2.oe a z (t4.keep.old a (kw.old a q))
          · exact ShA.go (ShA.weak (fun a z => z.imp id (o6 a)) ha) (M := fun a => a = D) kw (fun a z => .inl (.inr (by simp [z]))) fun a z => .inl z
        show PostT xc K _ g (plus O0 [D]) ea σ3 H2 _ (fc ⟨ea, m.s⟩)
        cases hf : fc ⟨ea, m.s⟩ with
        | bad => simp only [hf] at h; exact h.elim
        | rz c x m4 => simp only [hf] at h; exact h.elim
        | ok b m4 =>
          intro H4 t4
          have e4l : m4.e.length = e1.length := by rw [t4.rep.len, ← r3.len, bind1_len hbd, ml]
          cases b with
          | false =>
            simp only [hf] at h
            rw [if_neg (by simp)]
            refine ⟨by omega, ⟨clear m4.e vs, m4.s⟩, ?_⟩
            have hD4 := stayD t4
            have := done t4 (e5 := m4.e) t4.repO (fun _ z => z) e4l xs acc (by omega) (keepA t4) h
            rwa [upd_id hD4] at this
          | true =>
            simp only [hf] at h
            rw [if_pos rfl]
            have G4 := G3.step0 t4
            refine he _ _ _ ⟨g, plus O0 [D], m4.e, m4.s, G4, ?_⟩
            show PostE xc K _ g (plus O0 [D]) m4.e σ3 H4 _ (fe m4)
            cases hf2 : fe m4 with
            | bad => simp only [hf2] at h; exact h.elim
            | rz c x m5 => simp only [hf2] at h; exact h.elim
            | ok y m5 =>
              simp only [hf2] at h
              intro v H5 F t5 rv
              cases hes : esc m5.e y with
              | none => simp only [hes] at h; exact h.elim
              | some q =>
                obtain ⟨yd, e6⟩ := q
                simp only [hes] at h
                obtain ⟨r6, o6, s6⟩ := esc_ok t5.repO rv (fun p hp => ⟨(t5.new p hp).2.1, (t5.new p hp).2.2.1⟩) hes
                have t45 := t4.trans0 t5
                have l6 : e6.length = e1.length := by rw [r6.len, hl3, ← G.rep.len]
                refine ⟨xs, stayD t45, by rw [← LIM_eq]; omega, by omega, _, done t45 r6 o6 l6 (xs ++ [v]) (acc ++ [yd]) (by simp; omega) ?_ h⟩
                exact Paired.app (ShA.weak (fun a z => z.imp id (o6 a)) (keepA t45)) (.cons s6 .nil)
end
section
variable {X : Cx} {xc : XC} {W : WX} {cl : Nat → List Arg → DS → FRes} {c e elt tg iter : Expr} {ifs : List Expr} {scope : Scope} {own : List (Str × Nat)} {ea : E} {t : Tg} {it : It} {tc : T} {pos spos py : Pos}
/-- the tests of a block -/
def DTs (X : Cx) (xc : XC) (W : WX) (cl : Nat → List Arg → DS → FRes) (ifs : List Expr) (a : T) : Prop := PTs X ifs (tT xc X.K W fun m => evT cl a m)
theorem PTsimp {X : Cx} {e : List Expr} {t t' : TT} (h : PTs X e t) (i : ∀ σ H Q, t' σ H Q → t σ H Q) : PTs X e t' := ⟨fun pins s σ H Q I z => h.run pins s σ H Q I (i σ H Q z)⟩
theorem dts_nil : DTs X xc W cl [] .yes := PTsimp pts_nil fun σ H Q h => tT.ret h
theorem dts_one (h : DT X xc W cl c tc) : DTs X xc W cl [c] tc := pts_one h
theorem PostE.step0 {K : PySem.W.Frag} {g : Gd} {O0 : AP} {e : Env} {σ : L2.St} {H H1 : Hp} {m1 : M} {Q : VK} {x : Res R} (t1 : Stp K g O0 e σ H [] m1 H1) (h : PostE xc K W g O0 e σ H Q x) : PostE xc K W g O0 m1.e σ H1 Q x := by
  cases x with
  | bad => exact h
  | rz c f m2 => exact rz_of0 t1 h
  | ok r m2 => exact fun v2 H2 F2 t2 r2 => h v2 H2 F2 (t1.trans0 t2) r2
theorem lcv_ok {K : PySem.W.Frag} {vs : List Nat} {σ : L2.St} {H : Hp} {Q : VK} (h : tE xc K W (fun m => ev cl (.lc t it tc ea vs) m) σ H Q) {Rr : L2.It → Hp → Prop}
    (hq : ∀ g O0 e s ds src J H1, Good K g O0 e s σ H1 → ItR K σ (Ow O0 e σ) H1 J ds src → vs.all (fun i => !isOwn e[i]?) = true → ds.length ≤ LIM → PostE xc K W g O0 e σ H1 Q (match lcL src vs (fun d m => match bind1 m.e t d with
            | some e => evT cl tc ⟨e, m.s⟩
            | none => .bad) (fun m => ev cl ea m) ds [] ⟨clear e vs, s⟩ with
        | .ok acc m2 => .ok (.fl acc) ⟨back m2.e e vs, m2.s⟩
        | _ => .bad) → Rr J H1) : tI xc K W (fun m => evI cl it m) σ H Rr := by
  obtain ⟨g, O0, e, s, G, h⟩ := h
  refine ⟨g, O0, e, s, G, ?_⟩
  show PostI xc K W g O0 e σ H Rr (evI cl it ⟨e, s⟩)
  have h : PostE xc K W g O0 e σ H Q (match evI cl it ⟨e, s⟩ with
    | .ok (ds, src) m1 => if vs.all (fun i => !isOwn m1.e[i]?) = true ∧ ds.length ≤ LIM then match lcL src vs (fun d m => match bind1 m.e t d with
            | some e => evT cl tc ⟨e, m.s⟩
            | none => .bad) (fun m => ev cl ea m) ds [] ⟨clear m1.e vs, m1.s⟩ with
        | .ok acc m2 => .ok (.fl acc) ⟨back m2.e m1.e vs, m2.s⟩
        | _ => .bad
        else .bad
    | .rz c f m1 => .rz c f m1
    | .bad => .bad) := h
  cases hf : evI cl it ⟨e, s⟩ with
  | rz c f m1 => simp only [hf] at h; exact h
  | bad => simp only [hf] at h; exact h
  | ok p m1 =>
    obtain ⟨ds, src⟩ := p
    simp only [hf] at h
    intro J H1 F t1 r
    by_cases z : vs.all (fun i => !isOwn m1.e[i]?) = true ∧ ds.length ≤ LIM
    · rw [if_pos z] at h
      refine hq g O0 m1.e m1.s ds src J H1 (G.step0 t1) r z.1 z.2 ?_
      exact PostE.step0 t1.forget h
    · rw [if_neg z] at h; exact h.elim
theorem de_lc (o : Ok X) (hi : DI X xc W cl tg iter it) (ok : BlkOk X.N X.env.scope scope own) (ht : tgIn (own.map (·.2)) t = true)
    (hg : ∀ (s : Shared) (H : Hp) (C : Addr) (cl : List (Str × Addr)) (fp : List Addr), Ok (X.blk s H scope (compEnvC scope cl C X.env) fp) → DG (X.blk s H scope (compEnvC scope cl C X.env) fp) tg t)
    (hc : ∀ (s : Shared) (H : Hp) (C : Addr) (cx : List (Str × Addr)) (fp : List Addr), Ok (X.blk s H scope (compEnvC scope cx C X.env) fp) → DTs (X.blk s H scope (compEnvC scope cx C X.env) fp) xc (fun _ _ _ _ => False) cl ifs tc)
    (he : ∀ (s : Shared) (H : Hp) (C : Addr) (cx : List (Str × Addr)) (fp : List Addr), Ok (X.blk s H scope (compEnvC scope cx C X.env) fp) → DE (X.blk s H scope (compEnvC scope cx C X.env) fp) xc (fun _ _ _ _ => False) cl elt ea)
    (hs : ∀ x, foldedSetIterable iter X.env x = pure x := by intro _; rfl) :
    DE X xc W cl (.ListComp elt [⟨tg, iter, ifs, 0⟩] scope pos) (.lc t it tc ea (own.map (·.2))) :=
  PEimp (pe_lc (g := tGa X.K (asgT t) fun e d => bind1 e t d) (tt := tT xc X.K (fun _ _ _ _ => False) fun m => evT cl tc m) (te := tE xc X.K (fun _ _ _ _ => False) fun m => ev cl ea m) o.calm o.nd hi ok (fun s H C cx fp => hg s H C cx fp ⟨o.calm, o.nd, o.un, o.gd⟩) (fun s H C cx fp => hc s H C cx fp ⟨o.calm, o.nd, o.un, o.gd⟩) (fun s H C cx fp => he s H C cx fp ⟨o.calm, o.nd, o.un, o.gd⟩) hs) fun σ H Q h =>
    lcv_ok h fun g O0 e s ds src J H1 G r hn hl h D nD => lc_ok G r hn hl ht (fun _ _ _ _ z => z) (fun _ _ _ z => z) (fun _ _ _ z => z) h D nD
end
end PV

/-! PV.19: a comprehension stored; methods that write -/
namespace PV
open PySem PySem.Spec L2

section
variable {X : Cx} {xc : XC} {W : WX} {cl : Nat → List Arg → DS → FRes} {a b c e elt tg iter : Expr} {ifs es : List Expr} {scope : Scope} {own : List (Str × Nat)} {ea : E} {as : Es} {t : Tg} {it : It} {tc : T} {pos spos py p apos cpos : Pos} {i : Nat} {y x : Str}
theorem set_ok {K : PySem.W.Frag} {D : Ends} {σ : L2.St} {H : Hp} (h : tS xc K W (asgS (.set (.nm i) ea)) (fun m => ex cl (.set (.nm i) ea) m) D σ H) : tE xc K W (fun m => ev cl ea m) σ H fun x H1 => gName i x σ H1 D.nx := by
  obtain ⟨g, O0, e, s, G, h⟩ := h
  refine ⟨g, O0, e, s, G, ?_⟩
  show PostE xc K W g O0 e σ H _ (ev cl ea ⟨e, s⟩)
  have h : PostS xc K W g O0 e σ H (asgS (.set (.nm i) ea)) D (match ev cl ea ⟨e, s⟩ with
    | .ok r m1 => match setR i r m1.e with
      | some e => .ok .nx ⟨e, m1.s⟩
      | none => .bad
    | .rz c f m1 => .rz c f m1
    | .bad => .bad) := h
  cases hf : ev cl ea ⟨e, s⟩ with
  | rz c f m1 => simp only [hf] at h; exact fun cls dd H' t x => h cls dd σ H' (t.ss G) x
  | bad => simp only [hf] at h; exact h
  | ok r m1 =>
    simp only [hf] at h
    intro v H1 F t rv
    cases hr : setR i r m1.e with
    | none => simp only [hr] at h; exact h.elim
    | some e' =>
      simp only [hr] at h
      exact h _ H1 (setR_ok G t rv hr (by simp [asgS, asgT]))
theorem ds_setLc (o : Ok X) (hy : X.N[i]? = some y) (hyl : X.env.scope.names.lookup y = some .local) (hk : X.env.scope.kind = .function) (hl : (py.line == pos.line) = true) (hq : (scope.names.any fun (n, k) => n == y && (k == .local || k == .cell)) = false)
    (hi : DI X xc W cl tg iter it) (ok : BlkOk X.N X.env.scope scope own) (ht : tgIn (own.map (·.2)) t = true)
    (hg : ∀ (s : Shared) (H : Hp) (C : Addr) (cl : List (Str × Addr)) (fp : List Addr), Ok (X.blk s H scope (compEnvC scope cl C X.env) fp) → DG (X.blk s H scope (compEnvC scope cl C X.env) fp) tg t)
    (hc : ∀ (s : Shared) (H : Hp) (C : Addr) (cx : List (Str × Addr)) (fp : List Addr), Ok (X.blk s H scope (compEnvC scope cx C X.env) fp) → DTs (X.blk s H scope (compEnvC scope cx C X.env) fp) xc (fun _ _ _ _ => False) cl ifs tc)
    (he : ∀ (s : Shared) (H : Hp) (C : Addr) (cx : List (Str × Addr)) (fp : List Addr), Ok (X.blk s H scope (compEnvC scope cx C X.env) fp) → DE (X.blk s H scope (compEnvC scope cx C X.env) fp) xc (fun _ _ _ _ => False) cl elt ea)
    (hs : ∀ x, foldedSetIterable iter X.env x = pure x := by intro _; rfl) :
    DS' X xc W cl (.Assign [.Name y py] (.ListComp elt [⟨tg, iter, ifs, 0⟩] scope pos) spos) (.set (.nm i) (.lc t it tc ea (own.map (·.2)))) :=
  PSimp (ps_setLc (g := tGa X.K (asgT t) fun e d => bind1 e t d) (tt := tT xc X.K (fun _ _ _ _ => False) fun m => evT cl tc m) (te := tE xc X.K (fun _ _ _ _ => False) fun m => ev cl ea m) o.calm o.nd hy hyl (sw_true hk hyl hl hq) hi ok
    (fun s H C cx fp => hg s H C cx fp ⟨o.calm, o.nd, o.un, o.gd⟩) (fun s H C cx fp => hc s H C cx fp ⟨o.calm, o.nd, o.un, o.gd⟩) (fun s H C cx fp => he s H C cx fp ⟨o.calm, o.nd, o.un, o.gd⟩) hs) fun D σ H h =>
    lcv_ok (set_ok h) fun g O0 e s ds src J H1 G r hn hl h D nD => lc_ok G r hn hl ht (fun _ _ _ _ z => z) (fun _ _ _ z => z) (fun _ _ _ z => z) h D nD

/-! methods that write one's own list -/
theorem tyV_of {K : PySem.W.Frag} {H : Hp} {p : Addr} {xs : List V} (h : H p = some (.lst xs)) : tyV K "list" (.ref p) H := .inl ⟨rfl, xs, SqL.of h⟩
/-- the slot's list, then the arguments, then the method -/
theorem mut_ok {K : PySem.W.Frag} {o : MOp} {Q : VK} {σ : L2.St} {H : Hp} (ho : o ≠ .upd) (h : tE xc K W (fun m => ev cl (.mut o i as) m) σ H Q) {r : V → List V → Hp → VK → Prop}
    (hr : ∀ g O0 e s H1 F vs rs m p, Good K g O0 e s σ H1 → σ[i]? = some (some (.ref p)) → RVs K g (Ow (plus O0 F) e σ) σ H1 vs F rs → (∀ q ∈ F, ¬ O0 q ∧ ¬ PV.own e σ q) → evs cl as m = .ok rs ⟨e, s⟩ → PostE xc K W g O0 e σ H1 Q (mutD o i rs ⟨e, s⟩) → r (.ref p) vs H1 Q) :
    ∃ v, σ[i]? = some (some v) ∧ tyV K "list" v H ∧ tEs xc K W (fun m => evs cl as m) σ H fun vs H1 => r v vs H1 Q := by
  obtain ⟨g, O0, e, s, G, h⟩ := h
  have h : PostE xc K W g O0 e σ H Q (if mutOk o e[i]? = true then match evs cl as ⟨e, s⟩ with
      | .ok rs m1 => mutD o i rs m1
      | .rz c f m1 => .rz c f m1
      | .bad => .bad
    else .bad) := h
  by_cases z : mutOk o e[i]? = true
  · rw [if_pos z] at h
    obtain ⟨ds, hi⟩ : ∃ ds, e[i]? = some (.ol ds) := by
      cases hs : e[i]? with
      | none => rw [hs] at z; cases o <;> simp_all [mutOk]
      | some sl => rw [hs] at z; cases sl <;> cases o <;> simp_all [mutOk]
    obtain ⟨p, xs, h1, h2, h3, h4, h5⟩ := G.rep.at' i _ hi
    refine ⟨_, h1, tyV_of h3, g, O0, e, s, G, ?_⟩
    show PostEs xc K W g O0 e σ H _ (evs cl as ⟨e, s⟩)
    cases hf : evs cl as ⟨e, s⟩ with
    | rz c f m1 => simp only [hf] at h; exact h
    | bad => simp only [hf] at h; exact h
    | ok rs m1 =>
      simp only [hf] at h
      exact fun vs H1 F t rv => hr g O0 m1.e m1.s H1 F vs rs ⟨e, s⟩ p (G.step0 t) h1 rv (fun q hq => ⟨(t.new q hq).2.1, (t.new q hq).2.2.1⟩) hf (PostE.step0 t.forget h)
  · rw [if_neg z] at h; exact h.elim
/-- the slot's list is written -/
theorem write_ok {K : PySem.W.Frag} {Q : VK} {g : Gd} {O0 : AP} {e : Env} {s : DS} {σ : L2.St} {H : Hp} {p : Addr} {xs ys : List V} {ds ds' : List PyData} {v : V} {d : PyData} (G : Good K g O0 e s σ H) (hi : e[i]? = some (.ol ds)) (hp : σ[i]? = some (some (.ref p))) (hx : H p = some (.lst xs))
    (hl : ys.length ≤ sizeLine) (hs : ShA K (Ow O0 e σ) H ys ds') (hv : Sh K (Ow O0 e σ) H v d) (h : PostE xc K W g O0 e σ H Q (.ok (.v d) ⟨e.set i (.ol ds'), s⟩)) : Q v (upd H p (.lst ys)) := by
  have op : PV.own e σ p := ⟨i, by rw [hi]; rfl, hp⟩
  have oe : ∀ a, PV.own (e.set i (.ol ds')) σ a ↔ PV.own e σ a := fun a => own_eq (s := .ol ds') hi rfl
  have kw : Keep (PV.own e σ) H (upd H p (.lst ys)) := Keep.write hx rfl op
  have go : ∀ {u w}, Sh K (Ow O0 e σ) H u w → Sh K (Ow O0 e σ) (upd H p (.lst ys)) u w := fun q => q.go kw (fun a z => .inr z) fun a z => .inl z
  obtain ⟨n0, _⟩ := G.rep.owned op
  have nk : ¬ DkS g p := fun z => n0 (G.dk0 p z)
  have rep : Rep K g O0 (e.set i (.ol ds')) σ (upd H p (.lst ys)) := G.rep.write hi rfl rfl hp fun _ => ⟨p, ys, hp, n0, upd_same, hl, Paired.imp hs fun _ _ q => go q⟩
  refine h v _ [] ⟨kw.mono fun a z => .inl z, fun a z => (oe a).mp z, (fun _ z => nomatch z), rep.weak fun a z => z.elim id (fun z => nomatch z), ?_⟩ ⟨rfl, (go hv).weak fun a z => ?_⟩
  · exact G.dk.keep kw fun a z q => (G.rep.owned z).1 (G.dk0 a q)
  · rcases z with (z | z) | z
    · exact .inl z
    · exact nomatch z
    · exact .inr ((oe a).mp z)
theorem de_app (o : Ok X) (hN : X.N[i]? = some x) (hv : Vis X.env.scope x) (ha : DE X xc W cl a ea) (hbase : attributeBase (.Name x p) "append" X.env (eval (.Name x p) X.env) = eval (.Name x p) X.env := by rfl)
    (hfew : ((backTo cpos (starEach [a] X.env)).all (fun x => !x.1) && (backToKw cpos (keywordEach [] X.env)).all (fun x => x.1.isSome)
      && decide (([a] : List Expr).length + ([] : List Keyword).length + (if ([] : List Keyword).isEmpty then 0 else 1) < 30)) = true := by rfl)
    (hline : (apos.endLine == cpos.line) = true := by rfl) (hs : starEach [a] X.env = (false, eval a X.env) :: starEach [] X.env := by rfl) (hplain : (backTo cpos (starEach [] X.env)).any (·.1) = false := by rfl)
    (hd : (x == ("__debug__" : Str)) = false := by decide) (hcd : (x == ("__classdict__" : Str)) = false := by decide) :
    DE X xc W cl (.Call (.Attribute (.Name x p) "append" apos) [a] [] cpos) (.mut .app i (.cons ea .nil)) :=
  PEimp (pe_bm PySem.F.plainAttrs_list PySem.F.slot_list_append PySem.F.type_list_append mt_append (pe_var hN hv hd hcd) (da_cons ha da_nil hs) hbase hfew hline hs hplain) fun σ H Q h =>
    mut_ok (o := .app) (fun z => nomatch z) h (r := rAppend) fun g O0 e s H1 F vs rs m p G hp rv hn hf h => by
      have hl := evs_len _ _ _ _ hf
      match rs, hl, rv, h with
      | [r], _, rv, h =>
        obtain ⟨v, rfl, q⟩ := rvs1 rv
        have h : PostE xc X.K W g O0 e σ H1 Q (match esc e r with
          | some (d, e) => match e[i]? with
            | some (.ol ds) => if ds.length < LIM then .ok (.v .none) ⟨e.set i (.ol (ds ++ [d])), s⟩ else .bad
            | _ => .bad
          | none => .bad) := h
        cases he : esc e r with
        | none => simp only [he] at h; exact h.elim
        | some q2 =>
          obtain ⟨d, e'⟩ := q2
          simp only [he] at h
          obtain ⟨r2, o2, s2⟩ := esc_ok G.rep q hn he
          cases hi : e'[i]? with
          | none => simp only [hi] at h; exact h.elim
          | some sl =>
            cases sl with
            | ol ds =>
              simp only [hi] at h
              by_cases z : ds.length < LIM
              · rw [if_pos z] at h
                obtain ⟨p', xs, h1, h2, h3, h4, h5⟩ := r2.at' i _ hi
                rw [hp] at h1; cases h1
                have G2 : Good X.K g O0 e' s σ H1 := ⟨G.dk0, G.oe, r2, G.dk⟩
                have xl : xs.length < sizeLine := by rw [Paired.len h5, ← LIM_eq]; exact z
                refine ⟨p, xs, v, rfl, rfl, h3, xl, write_ok G2 hi hp h3 (by simp; omega) (Paired.app h5 (.cons s2 .nil)) (sh_none.mpr rfl) (PostE.step0 (stp_esc G r2 o2) h)⟩
              · rw [if_neg z] at h; exact h.elim
            | un => simp only [hi] at h; exact h.elim
            | sh d => simp only [hi] at h; exact h.elim
            | od t k => simp only [hi] at h; exact h.elim
            | dk => simp only [hi] at h; exact h.elim
end
end PV

/-! PV.20: t[::-1] -/
namespace PVR
open PySem PySem.Spec PyProof.Rows HT PySem.SeqAt PySem.MeetsSeq PySem.MeetsSeq2 PySem.MeetsSeq3
section
variable {prog : Program} {w : World} {A : Around} {E : Value → Shared → Prop} {s : Shared}
theorem places_back (n : Nat) : Builtin.Slice.slicePlaces ((n : Int) - 1) (-1) (-1) = n := by
  unfold Builtin.Slice.slicePlaces
  rw [if_neg (by decide)]
  by_cases h : ((n : Int) - 1) > -1
  · rw [if_pos h]
    have : ((n : Int) - 1 - -1 - 1) / (- -1) + 1 = n := by
      rw [show (- -1 : Int) = 1 by decide, Int.ediv_one]; omega
    rw [this]; rfl
  · rw [if_neg h]
    show (0 : Int).toNat = n
    have : (n : Int) = 0 := by omega
    simp; omega
theorem back_pick (xs : Array Value) : ((List.range xs.size).filterMap fun (k : Nat) => xs[((xs.size : Int) - 1 + (k : Int) * (-1)).toNat]?).toArray = xs.toList.reverse.toArray := by
  congr 1
  have e : (fun (k : Nat) => xs[((xs.size : Int) - 1 + (k : Int) * (-1)).toNat]?) = (fun k => xs[k]?) ∘ fun k => xs.size - 1 - k := by
    funext k
    have : ((xs.size : Int) - 1 + (k : Int) * (-1)).toNat = xs.size - 1 - k := by omega
    show _ = xs[xs.size - 1 - k]?
    rw [this]
  rw [e, ← List.filterMap_map, PySem.W.krv_range, List.filterMap_reverse]
  exact congrArg List.reverse (PySem.W.krv_all xs)
theorem applied_back {sl : Addr} {n : Nat} {vl vu vk : Value} {R : Int × Int × Nat → Shared → Prop} (hs : s.heap.IsSliceOf sl vl vu vk) (pl : IsPart vl none) (pu : IsPart vu none) (pk : IsPart vk (some (-1))) (hR : R ((n : Int) - 1, -1, n) s) :
    wpAny (model prog w) A (Builtin.Slice.sliceApplied (.ref sl) (pure (n : Int))) R E s := by
  obtain ⟨os, hos, hcs, hds⟩ := id hs
  unfold Builtin.Slice.sliceApplied Builtin.Slice.sliceFields
  refine wpAny_bind (wpAny_bind (wpAny_field hos hds (x := vl) rfl (wpAny_bind (wpAny_field hos hds (x := vu) rfl (wpAny_bind (wpAny_field hos hds (x := vk) rfl (wpAny_pure ?_)))))))
  refine wpAny_bind (slicePart_ pk ?_)
  show wpAny _ _ (if ((-1 : Int) == 0) = true then _ else _) _ _ s
  rw [if_neg (by decide)]
  refine wpAny_bind (slicePart_ pl (wpAny_bind (slicePart_ pu (wpAny_bind (wpAny_pure ?_)))))
  show wpAny _ _ (pure ((n : Int) - 1, (-1 : Int), Builtin.Slice.slicePlaces ((n : Int) - 1) (-1) (-1))) _ _ s
  rw [places_back]
  exact wpAny_pure hR
theorem item_back {t sl : Addr} {items : Array Value} {vl vu vk : Value} {Q : Value → Shared → Prop} (ht : IsTup s.heap t items) (hs : s.heap.IsSliceOf sl vl vu vk) (pl : IsPart vl none) (pu : IsPart vu none) (pk : IsPart vk (some (-1)))
    (h : Q (.ref s.heap.objs.size) { s with heap := s.heap.push { cls := .type "tuple", data := .seq items.toList.reverse.toArray } }) (hsz : items.size ≤ sizeLine) : wpAny (model prog w) A (getItem (.ref t) (.ref sl)) Q E s := by
  have hfit : sizeOk (.seq items.toList.reverse.toArray) := by
    show items.toList.reverse.toArray.size ≤ sizeLine
    simpa using hsz
  obtain ⟨os, hos, hcs, hds⟩ := id hs
  have hTs : s.TypeIs (.ref sl) "slice" := ⟨os, hos, hcs⟩
  unfold getItem
  try with_reducible refine wpAny_holding ?_
  first | refine wpAny_bind (wpAny_pure ?_) | skip
  refine wpAny_bind (wpAny_sequenceKey ht.typeIs (by decide) ?_)
  refine wpAny_bind (wpAny_callSpecial?_slot (name := Str.ofString "__getitem__") ht.typeIs PyProof.Rows.slot_tuple_getitem
    (wpAny_call_entry PyProof.Rows.slot_tuple_getitem ht.typeIs entry_tuple_getitem ?_ (args_tuple_getitem _ _)))
  show wpAny _ _ (Builtin.Tuple.tupleItemsOf (.ref t) >>= _) _ _ s
  refine wpAny_bind (tupleItemsOf_ ht (wpAny_bind (wpAny_typeOf hTs ?_)))
  rw [if_pos (by decide)]
  refine wpAny_bind (applied_back hs pl pu pk ?_)
  show wpAny _ _ (if ((((items.size : Int) - 1) == 0 && (-1 : Int) == 1) && items.size == items.size) = true then _ else _) _ _ s
  rw [if_neg (by simp), back_pick]
  first
    | exact wpAny_bind (m := Builtin.Tuple.tupleExact _) (wpAny_newObj_type (wpAny_pure ⟨_, rfl, wpAny_pure h⟩) hfit)
    | exact wpAny_bind (m := Builtin.Tuple.tupleExact _) (wpAny_newObj_type (wpAny_bind (wpAny_pure (wpAny_pure ⟨_, rfl, wpAny_pure h⟩))) hfit)
    | exact wpAny_bind (wpAny_bind (m := Builtin.Tuple.tupleExact _) (wpAny_newObj_type (wpAny_pure (wpAny_pure ⟨_, rfl, wpAny_pure h⟩)) hfit))
    | exact wpAny_bind (wpAny_bind (m := Builtin.Tuple.tupleExact _) (wpAny_newObj_type (wpAny_pure ⟨_, rfl, wpAny_pure h⟩) hfit))
end
end PVR
namespace PV
open PySem PySem.Spec PyProof.Rows L2
section
variable {X : Cx} {xc : XC} {W : WX} {cl : Nat → List Arg → DS → FRes}
def tRev (K : PySem.W.Frag) (te : TE) : TE := fun σ H Q => te σ H fun x H1 => ∃ a xs, x = .ref a ∧ ((SqL K H1 a xs ∧ ∀ p, H1 p = none → Q (.ref p) (upd H1 p (.lst xs.reverse))) ∨ (SqT K H1 a xs ∧ ∀ p, H1 p = none → Q (.ref p) (upd H1 p (.tup xs.reverse))))
theorem pe_rev {e : Expr} {te : TE} {k : Nat} {p1 p2 p3 pos : Pos} (he : PE X e te) : PE X (.Subscript e (.Slice none none (some (.UnaryOp .USub (.Constant (.int 1) k p1) p2)) p3) pos) (tRev X.K te) := by
  refine ⟨fun pins s σ H Q I h => Subscript_ (thn (he.run pins s σ H _ I h) fun v s1 ⟨x, H1, I1, r1, q1⟩ => ?_)⟩
  obtain ⟨a, xs, rfl, q⟩ := q1
  cases r1
  have hst : PO X (some (.UnaryOp .USub (.Constant (.int 1) k p1) p2)) (tPart (tUn (rU fun i => .int (-i)) (tC (.int 1)))) := po_some (pe_un un_neg pe_int)
  refine wpAny_Slice (thn (po_none.run pins s1 σ H1 (fun o H2 => o = none ∧ H2 = H1) I1 ⟨rfl, rfl⟩) fun vl s2 ⟨l, H2, I2, pl, el, e2⟩ => ?_)
  subst el e2
  refine thn (po_none.run pins s2 σ H2 (fun o H3 => o = none ∧ H3 = H2) I2 ⟨rfl, rfl⟩) fun vu s3 ⟨u, H3, I3, pu, eu, e3⟩ => ?_
  subst eu e3
  refine thn (hst.run pins s3 σ H3 (fun o H4 => o = some (-1) ∧ H4 = H3) I3 ⟨1, rfl, -1, rfl, rfl, rfl⟩) fun vs s4 ⟨o, H4, I4, ps, eo, e4⟩ => ?_
  subst eo e4
  have I5 : Inv X pins σ H4 { s4 with heap := s4.heap.push { cls := .type "slice", data := .fields #[vl, vu, vs] } } := I4.kept (t' := s4.toks) fun b ob q => Heap.get?_push_of_some _ q
  show wpAny (model X.prog X.w) X.A (subscriptTail e (.Slice none none (some (.UnaryOp .USub (.Constant (.int 1) k p1) p2)) p3) (.ref a) (.ref s4.heap.objs.size)) (EP X pins σ Q) X.xe { s4 with heap := s4.heap.push { cls := .type "slice", data := .fields #[vl, vu, vs] } }
  rcases q with ⟨hx, q⟩ | ⟨hx, q⟩
  · obtain ⟨its, r, ht, hz⟩ := I5.list hx
    have hlen := r.length
    refine tail_any (ops := [.ref a, .ref s4.heap.objs.size]) ht.isList.typeIs (PySem.slot_list_getitem.lookup) ?_ (by with_unfolding_all rfl)
    refine wpAny_getItem_list_slice ht.isList (Heap.IsSliceOf.new _ vl vu vs) pl pu ps (by decide) ?_ (by rw [List.size_toArray]; omega)
    rw [PySem.W.krv_pick]
    exact ⟨.ref _, _, I5.laid (t' := s4.toks) (o := .lst xs.reverse) (fun b ob q => Heap.get?_push_of_some _ q) (Nat.le_refl _) ⟨by rw [List.length_reverse]; exact hz, _, 0, r.reverse, Heap.get?_push_size _ rfl⟩, rfl, q _ (I5.hok.fresh (Nat.le_refl _))⟩
  · obtain ⟨its, r, ht, hz⟩ := I5.tuple hx
    have hlen := r.length
    refine tail_any (ops := [.ref a, .ref s4.heap.objs.size]) ht.typeIs PyProof.Rows.slot_tuple_getitem.lookup ?_ (by with_unfolding_all rfl)
    refine PVR.item_back ht (Heap.IsSliceOf.new _ vl vu vs) pl pu ps ?_ (by rw [List.size_toArray]; omega)
    exact ⟨.ref _, _, I5.laid (t' := s4.toks) (o := .tup xs.reverse) (fun b ob q => Heap.get?_push_of_some _ q) (Nat.le_refl _) ⟨by rw [List.length_reverse]; exact hz, _, r.reverse, IsTup.new _ _⟩, rfl, q _ (I5.hok.fresh (Nat.le_refl _))⟩
theorem v_rev {K : PySem.W.Frag} : OpV K (V1 fun x H1 Q => ∃ a xs, x = .ref a ∧ ((SqL K H1 a xs ∧ ∀ p, H1 p = none → Q (.ref p) (upd H1 p (.lst xs.reverse))) ∨ (SqT K H1 a xs ∧ ∀ p, H1 p = none → Q (.ref p) (upd H1 p (.tup xs.reverse))))) revD := by
  intro O H vs ds z Q hp hz hQ
  unfold revD at hz
  split at hz
  · obtain ⟨x, rfl, h1⟩ := p1 hp
    cases hz
    obtain ⟨a, xs, rfl, l, hl, q⟩ := t_list h1
    exact ⟨_, rfl, a, xs, rfl, .inl ⟨SqL.of l, fin_l hQ (by rw [List.length_reverse]; exact hl) (Paired.rv q)⟩⟩
  · obtain ⟨x, rfl, h1⟩ := p1 hp
    cases hz
    obtain ⟨a, xs, rfl, l, hl, q⟩ := t_tup h1
    exact ⟨_, rfl, a, xs, rfl, .inr ⟨l, fin_t hQ (by rw [List.length_reverse]; exact hl) (Paired.rv q)⟩⟩
  · cases hz
theorem de_rev {a : Expr} {ea : E} {k : Nat} {p1 p2 p3 pos : Pos} (ha : DE X xc W cl a ea) : DE X xc W cl (.Subscript a (.Slice none none (some (.UnaryOp .USub (.Constant (.int 1) k p1) p2)) p3) pos) (.op .rev (.cons ea .nil)) :=
  PEimp (pe_rev ha) fun σ H Q h => (one_ok ((OpE.of v_rev).use h)).mono fun x H1 h => by
    obtain ⟨x', e, h⟩ := h
    cases e; exact h
end
end PV

/-! PV.21: repr -/
namespace PV
open PySem PySem.Spec PyProof.Rows L2
theorem hasDict_nod : ∀ d : PyData, nod d = true → d.hasDict = false
  | .none, _ => rfl
  | .bool _, _ => rfl
  | .int _, _ => rfl
  | .str _, _ => rfl
  | .list xs, h => hasDict_all xs (by simpa [nod] using h)
  | .tuple xs, h => hasDict_all xs (by simpa [nod] using h)
  | .dict _, h => by simp [nod] at h
where hasDict_all : ∀ ds : List PyData, nodA ds = true → PyData.hasDictAll ds = false
  | [], _ => rfl
  | d :: ds, h => by
    have h : nod d = true ∧ nodA ds = true := by simpa [nodA] using h
    simp [PyData.hasDictAll, hasDict_nod d h.1, hasDict_all ds h.2]
def rRepr (K : PySem.W.Frag) : List V → Hp → VK → Prop := fun xs H Q => ∃ x d, xs = [x] ∧ Dp K H x d ∧ d.showable = true ∧ nod d = true ∧ d.shown.length ≤ sizeLine ∧ d.depth ≤ 60 ∧ Q (.str d.shown) H
theorem call_repr {X : Cx} (o : Ok X) : CallR X (.builtin "repr") (rRepr X.K) := by
  intro pins s σ H xs us Q I r h
  obtain ⟨x, d, rfl, hd, h1, h2, h3, h4, q⟩ := h
  obtain ⟨u, rfl, ru⟩ := vals1 r
  have un := o.un
  have ref : ∀ {a : Addr}, u = .ref a → wpAny (model X.prog X.w) X.A (call (.builtin "repr") [u]) (EP X pins σ Q) X.xe s := fun {a} e => by
    subst e
    obtain ⟨as, rd⟩ := Dp.reads I d x _ hd ru
    exact repr_of_reads' rd h1 (fun z => by rw [hasDict_nod d h2] at z; cases z) o.gd (by omega) (fun b ob e => e) (fun h' u tk k => ⟨.str _, H, I.kept k, ⟨_, rfl⟩, q⟩) h3
  cases hd with
  | non => cases ru; exact PySem.P.repr_of_none ⟨.str _, H, I.tok _, ⟨_, rfl⟩, q⟩
  | bl b => cases ru; exact PySem.P.repr_of_bool ⟨.str _, H, I.tok _, ⟨_, rfl⟩, q⟩
  | int i =>
    obtain ⟨t, rfl⟩ := ru
    exact PySem.P.repr_of_int (by simpa [PyData.showable] using h1) ⟨.str _, H, I.tok _, ⟨_, rfl⟩, q⟩
  | str y =>
    obtain ⟨t, rfl⟩ := ru
    exact PySem.P.repr_of_str ⟨.str _, H, I.tok _, ⟨_, rfl⟩, q⟩ h3
  | lst _ _ => exact ref (show u = .ref _ from ru)
  | tup _ _ => exact ref (show u = .ref _ from ru)
theorem v_repr {K : PySem.W.Frag} : OpV K (rRepr K) reprD := by
  intro O H vs ds z Q hp hz hQ
  unfold reprD at hz
  split at hz
  · obtain ⟨x, rfl, h1⟩ := p1 hp
    split at hz
    · rename_i h
      cases hz
      exact ⟨x, _, rfl, h1.dp h.2.1, h.1, h.2.1, by rw [← LIM_eq]; exact h.2.2.1, h.2.2.2, fin_v hQ (sh_str.mpr rfl)⟩
    · cases hz
  · cases hz
end PV

/-! PV.22: words for a printed walk -/
namespace PV
open PySem PySem.Spec L2

/-- a def of the table -/
structure FnT (P : Program) (w : World) (K : PySem.W.Frag) (mg : Str → Option Value) (base : Heap) (xc : XC) (cl : Nat → List Arg → DS → FRes) (k : Nat) (n : Str) (f np : Nat) : Prop where
  fn : ∃ (fa : Addr) (fd : FuncData) (ps : List Str), FnG P w K mg base (L2.CX P w) k fa fd ps (spF xc K np (cl f)) ∧ mg n = some (.ref fa) ∧ PySem.W.keepIn K (.ref fa) = true ∧ Binds K fd ps []
  ln : ∀ args s, cl f args s ≠ .bad → args.length = np
def WalkB (P : Program) (w : World) (K : PySem.W.Frag) (mg : Str → Option Value) (base : Heap) (N : List Str) (qual : Str) (st : Stmt) (xc : XC) (cl : Nat → List Arg → DS → FRes) (k : Nat) (ib : Ss) : Prop :=
  ∀ (f : Addr) (cdv : Value) (A : Around) (outer : List PySem.Env) (s : Shared) (H : Hp) (E : XK), Bd (CxD P w K mg base N qual st f cdv A outer s H E) (fun c d _ H => E c d H) k → DSs (CxD P w K mg base N qual st f cdv A outer s H E) xc (fun c d _ H => E c d H) cl (defBody st) ib
theorem FnT.walk {P : Program} {w : World} {K : PySem.W.Frag} {mg : Str → Option Value} {base : Heap} {xc : XC} {tb : Nat → Option FSem} {k : Nat} {n qual : Str} {f : Nat} {st : Stmt} {fa : Addr} {fd : FuncData} {N ps : List Str} {ib : Ss}
    (F : Fun K n qual st fa fd) (hm : mg n = some (.ref fa)) (hb : Binds K fd ps []) (S : FnScope N ps (defScope st)) (ht : tb f = some (.df ⟨N.length, ps.length, ib⟩)) (w' : WalkB P w K mg base N qual st xc (run tb k) k ib) : FnT P w K mg base xc (run tb (k + 1)) (k + 1) n f ps.length := by
  have e : run tb (k + 1) f = runB (run tb k) ⟨N.length, ps.length, ib⟩ := by
    funext as s
    show (match tb f with
      | some (.prim g) => g as s
      | some (.df fd) => runB (run tb k) fd as s
      | none => .bad) = _
    rw [ht]
  refine ⟨⟨fa, fd, ps, ?_, hm, F.kp, hb⟩, fun as s h => ?_⟩
  · rw [e]; exact def_ok F S fun cdv A outer s H E b => w' fa cdv A outer s H E b
  · rw [e] at h; exact runB_len h
/-- at level 0 nothing is promised -/
theorem FnT.zero {P : Program} {w : World} {K : PySem.W.Frag} {mg : Str → Option Value} {base : Heap} {xc : XC} {tb : Nat → Option FSem} {n qual : Str} {f : Nat} {st : Stmt} {fa : Addr} {fd : FuncData} {ps : List Str}
    (F : Fun K n qual st fa fd) (hm : mg n = some (.ref fa)) (hb : Binds K fd ps []) : FnT P w K mg base xc (run tb 0) 0 n f ps.length :=
  ⟨⟨fa, fd, ps, ⟨fun vs H Q E h => h.1, fun A outer s H args us vs Q E _ _ _ _ _ h => by
    obtain ⟨_, g, O, as, s, _, _, _, _, h⟩ := h
    exact h.elim⟩, hm, F.kp, hb⟩, fun as s h => absurd rfl h⟩

section
variable {X : Cx} {xc : XC} {W : WX} {cl : Nat → List Arg → DS → FRes} {k : Nat} {a b c e x y elt tg iter : Expr} {es ifs : List Expr} {ea eb ec el eh : E} {as : Es} {ta tb tc : T} {t : Tg} {ts : Tgs} {it : It} {ib ic : Ss} {pos p p2 p3 spos py px pt apos cpos : Pos} {n nm : Str} {i j f np : Nat} {body : List Stmt} {scope : Scope}
theorem un3 {X : Cx} (o : Ok X) : X.A.units + 64 < cLine := by have := o.un; omega
theorem Bd.blk {s : Shared} {H : Hp} {cenv : PySem.Env} {fp : List Addr} (d : Bd X W k) : Bd (X.blk s H scope cenv fp) (fun _ _ _ _ => False) k := ⟨⟨d.ok.calm, d.ok.nd, d.ok.un, d.ok.gd⟩, d.room, PassesOwn.never, takes0⟩
theorem d_v (i : Nat) (hN : X.N[i]? = some n := by rfl) (hv : Vis X.env.scope n := by first | exact Or.inl rfl | exact Or.inr (Or.inl rfl) | exact Or.inr (Or.inr rfl)) (hd : (n == ("__debug__" : Str)) = false := by decide) (hcd : (n == ("__classdict__" : Str)) = false := by decide) : DE X xc W cl (.Name n pos) (.x i) := de_var hN hv hd hcd
theorem d_add (ha : DE X xc W cl a ea) (hb : DE X xc W cl b eb) : DE X xc W cl (.BinOp a .Add b pos) (.op .add (.cons ea (.cons eb .nil))) := de_bin o_add (.of v_add) ha hb
theorem d_sub (ha : DE X xc W cl a ea) (hb : DE X xc W cl b eb) : DE X xc W cl (.BinOp a .Sub b pos) (.op .sub (.cons ea (.cons eb .nil))) := de_bin op_sub (.of v_sub) ha hb
theorem d_mul (ha : DE X xc W cl a ea) (hb : DE X xc W cl b eb) : DE X xc W cl (.BinOp a .Mult b pos) (.op .mul (.cons ea (.cons eb .nil))) := de_bin o_mul (.of v_mul) ha hb
theorem d_fdiv (ha : DE X xc W cl a ea) (hb : DE X xc W cl b eb) : DE X xc W cl (.BinOp a .FloorDiv b pos) (.op .fdiv (.cons ea (.cons eb .nil))) := de_bin op_fdiv (.of v_fdiv) ha hb
theorem d_mod (ha : DE X xc W cl a ea) (hb : DE X xc W cl b eb) : DE X xc W cl (.BinOp a .Mod b pos) (.op .mod (.cons ea (.cons eb .nil))) := de_bin op_mod (.of v_mod) ha hb
theorem d_pow (ha : DE X xc W cl a ea) (hb : DE X xc W cl b eb) : DE X xc W cl (.BinOp a .Pow b pos) (.op .pow (.cons ea (.cons eb .nil))) := de_bin op_pow (.of v_pow) ha hb
section
variable (d : Bd X W k)
include d
theorem d_eq (ha : DE X xc W cl a ea) (hb : DE X xc W cl b eb) : DE X xc W cl (.Compare a [.Eq] [b] pos) (.op .eq (.cons ea (.cons eb .nil))) := de_cmp (o_eq (un3 d.ok)) (.of v_eq) ha hb
theorem d_ne (ha : DE X xc W cl a ea) (hb : DE X xc W cl b eb) : DE X xc W cl (.Compare a [.NotEq] [b] pos) (.op .ne (.cons ea (.cons eb .nil))) := de_cmp (o_ne (un3 d.ok)) (.of v_ne) ha hb
theorem d_lt (ha : DE X xc W cl a ea) (hb : DE X xc W cl b eb) : DE X xc W cl (.Compare a [.Lt] [b] pos) (.op .lt (.cons ea (.cons eb .nil))) := de_cmp (o_lt d.ok.un1) (.of v_lt) ha hb
theorem d_le (ha : DE X xc W cl a ea) (hb : DE X xc W cl b eb) : DE X xc W cl (.Compare a [.LtE] [b] pos) (.op .le (.cons ea (.cons eb .nil))) := de_cmp (o_le d.ok.un1) (.of v_le) ha hb
theorem d_ge (ha : DE X xc W cl a ea) (hb : DE X xc W cl b eb) : DE X xc W cl (.Compare a [.GtE] [b] pos) (.op .ge (.cons ea (.cons eb .nil))) := de_cmp (o_ge d.ok.un1) (.of v_ge) ha hb
theorem d_gt (ha : DE X xc W cl a ea) (hb : DE X xc W cl b eb) : DE X xc W cl (.Compare a [.Gt] [b] pos) (.op .gt (.cons ea (.cons eb .nil))) := de_cmp op_gt (.of v_gt) ha hb
theorem d_in (ha : DE X xc W cl a ea) (hb : DE X xc W cl b eb) (hm : behindInMarks .In b = false := by with_unfolding_all rfl) : DE X xc W cl (.Compare a [.In] [b] pos) (.op .inn (.cons ea (.cons eb .nil))) := de_cmp (o_in d.ok.un) e_in ha hb hm
theorem d_notin (ha : DE X xc W cl a ea) (hb : DE X xc W cl b eb) (hm : behindInMarks .NotIn b = false := by with_unfolding_all rfl) : DE X xc W cl (.Compare a [.NotIn] [b] pos) (.op .notin (.cons ea (.cons eb .nil))) := de_cmp (o_notin d.ok.un) e_notin ha hb hm
theorem t_eq (ha : DE X xc W cl a ea) (hb : DE X xc W cl b eb) : DT X xc W cl (.Compare a [.Eq] [b] pos) (.e (.op .eq (.cons ea (.cons eb .nil)))) := dt_cmp (o_eq (un3 d.ok)) (.of v_eq) b_eq ha hb
theorem t_ne (ha : DE X xc W cl a ea) (hb : DE X xc W cl b eb) : DT X xc W cl (.Compare a [.NotEq] [b] pos) (.e (.op .ne (.cons ea (.cons eb .nil)))) := dt_cmp (o_ne (un3 d.ok)) (.of v_ne) b_ne ha hb
theorem t_lt (ha : DE X xc W cl a ea) (hb : DE X xc W cl b eb) : DT X xc W cl (.Compare a [.Lt] [b] pos) (.e (.op .lt (.cons ea (.cons eb .nil)))) := dt_cmp (o_lt d.ok.un1) (.of v_lt) b_lt ha hb
theorem t_le (ha : DE X xc W cl a ea) (hb : DE X xc W cl b eb) : DT X xc W cl (.Compare a [.LtE] [b] pos) (.e (.op .le (.cons ea (.cons eb .nil)))) := dt_cmp (o_le d.ok.un1) (.of v_le) b_le ha hb
theorem t_ge (ha : DE X xc W cl a ea) (hb : DE X xc W cl b eb) : DT X xc W cl (.Compare a [.GtE] [b] pos) (.e (.op .ge (.cons ea (.cons eb .nil)))) := dt_cmp (o_ge d.ok.un1) (.of v_ge) b_ge ha hb
theorem t_gt (ha : DE X xc W cl a ea) (hb : DE X xc W cl b eb) : DT X xc W cl (.Compare a [.Gt] [b] pos) (.e (.op .gt (.cons ea (.cons eb .nil)))) := dt_cmp op_gt (.of v_gt) b_gt ha hb
theorem t_in (ha : DE X xc W cl a ea) (hb : DE X xc W cl b eb) (hm : behindInMarks .In b = false := by with_unfolding_all rfl) : DT X xc W cl (.Compare a [.In] [b] pos) (.e (.op .inn (.cons ea (.cons eb .nil)))) := dt_cmp (o_in d.ok.un) e_in b_in ha hb hm
theorem t_notin (ha : DE X xc W cl a ea) (hb : DE X xc W cl b eb) (hm : behindInMarks .NotIn b = false := by with_unfolding_all rfl) : DT X xc W cl (.Compare a [.NotIn] [b] pos) (.e (.op .notin (.cons ea (.cons eb .nil)))) := dt_cmp (o_notin d.ok.un) e_notin b_notin ha hb hm
theorem d_ix (ha : DE X xc W cl a ea) (hb : DE X xc W cl b eb) (hs : PlainIx b := by intro _ _; rfl) : DE X xc W cl (.Subscript a b pos) (.op .idx (.cons ea (.cons eb .nil))) := de_ix d.ok ha hb hs
theorem d_call (F : FnT X.prog X.w X.K X.mg X.base xc cl k n f np) (ha : DA X xc W cl (e :: es) as) (hg : Gl X n := by rfl)
    (hdb : (n == ("__debug__" : Str)) = false := by decide) (he : starEach (e :: es) X.env = (false, eval e X.env) :: starEach es X.env := by rfl) (hpl : (backTo pos (starEach es X.env)).any (·.1) = false := by rfl) :
    DE X xc W cl (.Call (.Name n p) (e :: es) [] pos) (.call f as) := de_call d.ok d.room (CX := L2.CX X.prog X.w) ⟨F.fn, F.ln⟩ (fun σ => L2.passAt d.takes σ) hg ha hdb he hpl
theorem d_len (hm : X.mg "len" = none) (ha : DA X xc W cl [e] as) (hg : Gl X "len" := by rfl) (he : starEach [e] X.env = [(false, eval e X.env)] := by rfl) : DE X xc W cl (.Call (.Name "len" p) [e] [] pos) (.op .len as) := de_blt call_len (.of v_len) hg hm (by rfl) ha (he := he)
theorem d_abs (hm : X.mg "abs" = none) (ha : DA X xc W cl [e] as) (hg : Gl X "abs" := by rfl) (he : starEach [e] X.env = [(false, eval e X.env)] := by rfl) : DE X xc W cl (.Call (.Name "abs" p) [e] [] pos) (.op .abs as) := de_blt call_abs (.of v_abs) hg hm (by rfl) ha (he := he)
theorem d_repr (hm : X.mg "repr" = none) (ha : DA X xc W cl [e] as) (hg : Gl X "repr" := by rfl) (he : starEach [e] X.env = [(false, eval e X.env)] := by rfl) : DE X xc W cl (.Call (.Name "repr" p) [e] [] pos) (.op .repr as) := de_blt (call_repr d.ok) (.of v_repr) hg hm (by rfl) ha (he := he)
theorem d_tuple (hm : X.mg "tuple" = none) (ha : DA X xc W cl [e] as) (hg : Gl X "tuple" := by rfl) (he : starEach [e] X.env = [(false, eval e X.env)] := by rfl) : DE X xc W cl (.Call (.Name "tuple" p) [e] [] pos) (.op .tuple as) := de_ty call_tuple_of (.of v_tuple) hg hm (by rfl) ha (he := he)
theorem d_list (hm : X.mg "list" = none) (ha : DA X xc W cl [e] as) (hg : Gl X "list" := by rfl) (he : starEach [e] X.env = [(false, eval e X.env)] := by rfl) : DE X xc W cl (.Call (.Name "list" p) [e] [] pos) (.op .list as) := de_ty call_list_of (.of v_list) hg hm (by rfl) ha (he := he)
theorem d_sum1 (hm : X.mg "sum" = none) (ha : DA X xc W cl [e] as) (hg : Gl X "sum" := by rfl) (he : starEach [e] X.env = [(false, eval e X.env)] := by rfl) : DE X xc W cl (.Call (.Name "sum" p) [e] [] pos) (.op .sum as) := de_blt (cr_sum d.ok.calm) (.of v_sum) hg hm (by rfl) ha (he := he)
theorem d_any1 (hm : X.mg "any" = none) (ha : DA X xc W cl [e] as) (hg : Gl X "any" := by rfl) (he : starEach [e] X.env = [(false, eval e X.env)] := by rfl) : DE X xc W cl (.Call (.Name "any" p) [e] [] pos) (.op .any as) := de_blt (cr_any d.ok.calm) (.of v_any) hg hm (by rfl) ha (he := he)
theorem d_all1 (hm : X.mg "all" = none) (ha : DA X xc W cl [e] as) (hg : Gl X "all" := by rfl) (he : starEach [e] X.env = [(false, eval e X.env)] := by rfl) : DE X xc W cl (.Call (.Name "all" p) [e] [] pos) (.op .all as) := de_blt (cr_all d.ok.calm) (.of v_all) hg hm (by rfl) ha (he := he)
theorem d_min1 (hm : X.mg "min" = none) (ha : DA X xc W cl [e] as) (hg : Gl X "min" := by rfl) (he : starEach [e] X.env = [(false, eval e X.env)] := by rfl) : DE X xc W cl (.Call (.Name "min" p) [e] [] pos) (.op .min1 as) := de_blt (cr_min d.ok.calm) (.of v_min1) hg hm (by rfl) ha (he := he)
theorem d_max1 (hm : X.mg "max" = none) (ha : DA X xc W cl [e] as) (hg : Gl X "max" := by rfl) (he : starEach [e] X.env = [(false, eval e X.env)] := by rfl) : DE X xc W cl (.Call (.Name "max" p) [e] [] pos) (.op .max1 as) := de_blt (cr_max d.ok.calm) (.of v_max1) hg hm (by rfl) ha (he := he)
theorem d_int1 (hm : X.mg "int" = none) (ha : DA X xc W cl [e] as) (hg : Gl X "int" := by rfl) (he : starEach [e] X.env = [(false, eval e X.env)] := by rfl) : DE X xc W cl (.Call (.Name "int" p) [e] [] pos) (.op .int as) := de_ty (call_int1) (.of v_int) hg hm (by rfl) ha (he := he)
theorem d_str1 (hm : X.mg "str" = none) (ha : DA X xc W cl [e] as) (hg : Gl X "str" := by rfl) (he : starEach [e] X.env = [(false, eval e X.env)] := by rfl) : DE X xc W cl (.Call (.Name "str" p) [e] [] pos) (.op .str as) := de_ty (call_str_int) (.of v_str) hg hm (by rfl) ha (he := he)
theorem d_min2 (hm : X.mg "min" = none) (ha : DA X xc W cl [a, b] as) (hg : Gl X "min" := by rfl) (he : starEach [a, b] X.env = (false, eval a X.env) :: starEach [b] X.env := by rfl) (hpl : (backTo pos (starEach [b] X.env)).any (·.1) = false := by rfl) : DE X xc W cl (.Call (.Name "min" p) [a, b] [] pos) (.op .min2 as) := de_blt (call_min2 d.ok.calm) (.of v_min2) hg hm (by rfl) ha (he := he) (hpl := hpl)
theorem d_max2 (hm : X.mg "max" = none) (ha : DA X xc W cl [a, b] as) (hg : Gl X "max" := by rfl) (he : starEach [a, b] X.env = (false, eval a X.env) :: starEach [b] X.env := by rfl) (hpl : (backTo pos (starEach [b] X.env)).any (·.1) = false := by rfl) : DE X xc W cl (.Call (.Name "max" p) [a, b] [] pos) (.op .max2 as) := de_blt (call_max2 d.ok.calm) (.of v_max2) hg hm (by rfl) ha (he := he) (hpl := hpl)
theorem i_rng1 (hm : X.mg "range" = none) (ha : DE X xc W cl a ea) (hg : Gl X "range" := by rfl) (hs : starEach [a] X.env = [(false, eval a X.env)] := by rfl) : DI X xc W cl tg (.Call (.Name "range" p) [a] [] pos) (.rng (.cons ea .nil)) := di_rng1 hg hm ha hs
theorem i_rng2 (hm : X.mg "range" = none) (ha : DE X xc W cl a ea) (hb : DE X xc W cl b eb) (hg : Gl X "range" := by rfl) (hs : starEach [a, b] X.env = [(false, eval a X.env), (false, eval b X.env)] := by rfl) (hs2 : starEach [b] X.env = [(false, eval b X.env)] := by rfl) : DI X xc W cl tg (.Call (.Name "range" p) [a, b] [] pos) (.rng (.cons ea (.cons eb .nil))) := di_rng2 hg hm ha hb hs hs2
theorem d_lc (own : List (Str × Nat)) (hi : DI X xc W cl tg iter it)
    (hg : ∀ {s : Shared} {H : Hp} {C : Addr} {cx : List (Str × Addr)} {fp : List Addr}, Bd (X.blk s H scope (compEnvC scope cx C X.env) fp) (fun _ _ _ _ => False) k → DG (X.blk s H scope (compEnvC scope cx C X.env) fp) tg t)
    (hc : ∀ {s : Shared} {H : Hp} {C : Addr} {cx : List (Str × Addr)} {fp : List Addr}, Bd (X.blk s H scope (compEnvC scope cx C X.env) fp) (fun _ _ _ _ => False) k → DTs (X.blk s H scope (compEnvC scope cx C X.env) fp) xc (fun _ _ _ _ => False) cl ifs tc)
    (he : ∀ {s : Shared} {H : Hp} {C : Addr} {cx : List (Str × Addr)} {fp : List Addr}, Bd (X.blk s H scope (compEnvC scope cx C X.env) fp) (fun _ _ _ _ => False) k → DE (X.blk s H scope (compEnvC scope cx C X.env) fp) xc (fun _ _ _ _ => False) cl elt ea)
    (ok : blkC X.N X.env.scope scope own = true := by with_unfolding_all rfl) (ht : tgIn (own.map (·.2)) t = true := by rfl) (hs : ∀ x, foldedSetIterable iter X.env x = pure x := by intro _; rfl) :
    DE X xc W cl (.ListComp elt [⟨tg, iter, ifs, 0⟩] scope pos) (.lc t it tc ea (own.map (·.2))) :=
  de_lc d.ok hi (blkOk_by ok) ht (fun s H C cx fp _ => hg d.blk) (fun s H C cx fp _ => hc d.blk) (fun s H C cx fp _ => he d.blk) hs
theorem g_nm (i : Nat) (hi : X.N[i]? = some n := by rfl) (hx : Loc X.env.scope n := by first | exact Or.inl rfl | exact Or.inr rfl) (hf : X.fn n = true ∨ X.env.scope.names.lookup n = some .local := by first | exact .inl rfl | exact .inr rfl) : DG X (.Name n pos) (.nm i) := dg_nm d.ok hi hx hf
theorem g_tp {k' : Nat} (h : DGs X es ts) (hn : (assignEach es X.env).length = lenTs ts := by rfl) (hst : (assignEach es X.env).findIdx? (·.1) = none := by rfl) : DG X (.Tuple es k' pos) (.tp ts) := dg_tp d.ok h hn hst
theorem s_set (i : Nat) (ha : DE X xc W cl a ea) (hi : X.N[i]? = some n := by rfl) (hx : Loc X.env.scope n := by first | exact Or.inl rfl | exact Or.inr rfl) (hs : swapsWith a (some (.Name n p)) pos.line X.env = pure false := by rfl) (hf : X.fn n = true ∨ X.env.scope.names.lookup n = some .local := by first | exact .inl rfl | exact .inr rfl) :
    DS' X xc W cl (.Assign [.Name n p] a pos) (.set (.nm i) ea) := ds_set d.ok hi hx ha hs hf
theorem s_setLc (i : Nat) (own : List (Str × Nat)) (hi : DI X xc W cl tg iter it)
    (hg : ∀ {s : Shared} {H : Hp} {C : Addr} {cx : List (Str × Addr)} {fp : List Addr}, Bd (X.blk s H scope (compEnvC scope cx C X.env) fp) (fun _ _ _ _ => False) k → DG (X.blk s H scope (compEnvC scope cx C X.env) fp) tg t)
    (hc : ∀ {s : Shared} {H : Hp} {C : Addr} {cx : List (Str × Addr)} {fp : List Addr}, Bd (X.blk s H scope (compEnvC scope cx C X.env) fp) (fun _ _ _ _ => False) k → DTs (X.blk s H scope (compEnvC scope cx C X.env) fp) xc (fun _ _ _ _ => False) cl ifs tc)
    (he : ∀ {s : Shared} {H : Hp} {C : Addr} {cx : List (Str × Addr)} {fp : List Addr}, Bd (X.blk s H scope (compEnvC scope cx C X.env) fp) (fun _ _ _ _ => False) k → DE (X.blk s H scope (compEnvC scope cx C X.env) fp) xc (fun _ _ _ _ => False) cl elt ea)
    (ok : blkC X.N X.env.scope scope own = true := by with_unfolding_all rfl) (ht : tgIn (own.map (·.2)) t = true := by rfl)
    (hy : X.N[i]? = some n := by rfl) (hyl : X.env.scope.names.lookup n = some .local := by rfl) (hk : X.env.scope.kind = .function := by rfl) (hl : (py.line == pos.line) = true := by rfl) (hq : (scope.names.any fun (m, k) => m == n && (k == .local || k == .cell)) = false := by rfl) (hs : ∀ x, foldedSetIterable iter X.env x = pure x := by intro _; rfl) :
    DS' X xc W cl (.Assign [.Name n py] (.ListComp elt [⟨tg, iter, ifs, 0⟩] scope pos) spos) (.set (.nm i) (.lc t it tc ea (own.map (·.2)))) :=
  ds_setLc d.ok hy hyl hk hl hq hi (blkOk_by ok) ht (fun s H C cx fp _ => hg d.blk) (fun s H C cx fp _ => hc d.blk) (fun s H C cx fp _ => he d.blk) hs
theorem s_for (hi : DI X xc W cl tg iter it) (ht : DG X tg t) (hb : DSs X xc W cl body ib) (hs : ∀ x, foldedSetIterable iter X.env x = pure x := by intro _; rfl) : DS' X xc W cl (.For tg iter body [] pos) (.lop t it ib) := ds_for d.ok d.pass hi ht hb hs
theorem s_while (hc : DT X xc W cl c tc) (hb : DSs X xc W cl body ib) : DS' X xc W cl (.While c body [] pos) (.wh tc ib) := ds_while d.pass hc hb
theorem s_par (i j : Nat) {kt k2 pt2} (ha : DA X xc W cl [a, b] (.cons ea (.cons eb .nil))) (hij : i ≠ j := by decide) (hi : X.N[i]? = some n := by rfl) (hj : X.N[j]? = some nm := by rfl) (hx : X.env.scope.names.lookup n = some .local := by rfl) (hy : X.env.scope.names.lookup nm = some .local := by rfl)
    (hw : swappedStores [.Tuple [.Name n px, .Name nm py] kt pt] (.Tuple [a, b] k2 pt2) X.env = pure (some [n, nm]) := by rfl) (hs : swapsWithSole [.Tuple [.Name n px, .Name nm py] kt pt] (.Tuple [a, b] k2 pt2) pos.line X.env = pure false := by rfl) :
    DS' X xc W cl (.Assign [.Tuple [.Name n px, .Name nm py] kt pt] (.Tuple [a, b] k2 pt2) pos) (.par [i, j] (.cons ea (.cons eb .nil))) := ds_par d.ok hi hj hij hx hy ha hw hs
theorem s_app (i : Nat) (ha : DE X xc W cl a ea) (hN : X.N[i]? = some n := by rfl) (hv : Vis X.env.scope n := by first | exact Or.inl rfl | exact Or.inr (Or.inl rfl) | exact Or.inr (Or.inr rfl)) (hbase : attributeBase (.Name n p) "append" X.env (eval (.Name n p) X.env) = eval (.Name n p) X.env := by rfl)
    (hfew : ((backTo cpos (starEach [a] X.env)).all (fun x => !x.1) && (backToKw cpos (keywordEach [] X.env)).all (fun x => x.1.isSome)
      && decide (([a] : List Expr).length + ([] : List Keyword).length + (if ([] : List Keyword).isEmpty then 0 else 1) < 30)) = true := by rfl)
    (hline : (apos.endLine == cpos.line) = true := by rfl) (hs : starEach [a] X.env = (false, eval a X.env) :: starEach [] X.env := by rfl) (hplain : (backTo cpos (starEach [] X.env)).any (·.1) = false := by rfl)
    (hd : (n == ("__debug__" : Str)) = false := by decide) (hcd : (n == ("__classdict__" : Str)) = false := by decide) (hsw : swapsWith (.Call (.Attribute (.Name n p) "append" apos) [a] [] cpos) none pos.line X.env = pure false := by rfl) :
    DS' X xc W cl (.Expr (.Call (.Attribute (.Name n p) "append" apos) [a] [] cpos) pos) (.ex (.mut .app i (.cons ea .nil))) := ds_ex (de_app d.ok hN hv ha hbase hfew hline hs hplain hd hcd) hsw
end
end
end PV

/-! PV.23: the deck and the draw (k00-k09, k77) -/
namespace PV
open PySem PySem.Spec L2

def cellA (s : DS) : Int := if 0 < s.cells.length then s.cells.getD ((s.cnt + 1) % s.cells.length).toNat 0 else 0
def drawA : List Arg → DS → FRes
  | [.dk, .sh (.int n)], s => if 0 < n ∧ n < 1073741824 ∧ 0 ≤ s.cnt ∧ s.cnt < 1099511627776 then
      if 1000000000000000000 ≤ cellA s then .ok (.v (.int (cellA s % n))) ⟨s.cells.set ((s.cnt + 1) % s.cells.length).toNat (cellA s / n), s.cnt + 1, s.rests⟩
      else .ok (.v (.int ((cellA s % 2147483587 + 7919 * (s.cnt + 1) + 1) ^ 5 % 2147483647 / 7 % n))) ⟨s.cells, s.cnt + 1, s.rests⟩
    else .bad
  | _, _ => .bad
theorem drawA_len {as : List Arg} {s : DS} (h : drawA as s ≠ .bad) : as.length = 2 := by
  unfold drawA at h
  split at h
  · rfl
  · exact absurd rfl h
theorem drawA_inv {as : List Arg} {s : DS} (h : drawA as s ≠ .bad) : ∃ n, as = [.dk, .sh (.int n)] ∧ 0 < n ∧ n < 1073741824 ∧ 0 ≤ s.cnt ∧ s.cnt < 1099511627776 := by
  unfold drawA at h
  split at h
  · split at h
    · rename_i z
      exact ⟨_, rfl, z⟩
    · exact absurd rfl h
  · exact absurd rfl h
/-- what is drawn -/
theorem drawA_ok {n : Int} {s : DS} (h1 : 0 < n) (h2 : n < 1073741824) (h3 : 0 ≤ s.cnt) (h4 : s.cnt < 1099511627776) : ∃ r s', drawA [.dk, .sh (.int n)] s = .ok (.v (.int r)) s' ∧ 0 ≤ r ∧ r < n ∧ s'.cnt = s.cnt + 1 := by
  unfold drawA
  simp only [h1, h2, h3, h4, and_self, if_true]
  split
  · exact ⟨_, _, rfl, Int.emod_nonneg _ (by omega), Int.emod_lt_of_pos _ h1, rfl⟩
  · exact ⟨_, _, rfl, Int.emod_nonneg _ (by omega), Int.emod_lt_of_pos _ h1, rfl⟩

theorem pair2 {α β : Type} {F : α → β → Prop} {vs : List α} {d e : β} (h : Paired F vs [d, e]) : ∃ x y, vs = [x, y] ∧ F x d ∧ F y e := by
  cases h with
  | cons r t => cases t with
    | cons q u => cases u; exact ⟨_, _, rfl, r, q⟩
def ix (K : PySem.W.Frag) (a b : TE) : TE := tOp (rIxL K) a b
def lenR (K : PySem.W.Frag) : List V → Hp → VK → Prop := fun xs H Q => ∃ x n, xs = [x] ∧ LenV K x H n ∧ Q (.int n) H
/-- the deck's top list: its counter, its cells -/
theorem dk_top {g : Gd} {s : DS} {H : Hp} (d : DkRep g s H) : ∃ xs, H g.1 = some (.lst xs) ∧ xs[0]? = some (.ref g.2.1) ∧ xs[1]? = some (.int s.cnt) ∧ 2 ≤ xs.length := by
  rcases d.top with ⟨_, t⟩ | ⟨_, _, t, _⟩
  · exact ⟨_, t, rfl, rfl, by simp⟩
  · exact ⟨_, t, rfl, rfl, by simp⟩
theorem dk_cnt {g : Gd} {s : DS} {H : Hp} (d : DkRep g s H) {xs : List V} (h : H g.1 = some (.lst xs)) (c : Int) : DkRep g ⟨s.cells, c, s.rests⟩ (upd H g.1 (.lst (xs.set 1 (.int c)))) := by
  refine ⟨by rw [upd_ne d.ne.symm]; exact d.cells, d.ne, ?_⟩
  rcases d.top with ⟨e, t⟩ | ⟨e1, e2, t, t2⟩
  · rw [h] at t; cases t; exact .inl ⟨e, upd_same⟩
  · rw [h] at t; cases t; exact .inr ⟨e1, e2, upd_same, by rw [upd_ne e1]; exact t2⟩
theorem dk_cells {g : Gd} {s : DS} {H : Hp} (d : DkRep g s H) (i : Nat) (c : Int) : DkRep g ⟨s.cells.set i c, s.cnt, s.rests⟩ (upd H g.2.1 (.lst ((s.cells.map V.int).set i (.int c)))) := by
  refine ⟨by rw [upd_same, List.map_set], d.ne, ?_⟩
  rcases d.top with ⟨e, t⟩ | ⟨e1, e2, t, t2⟩
  · exact .inl ⟨e, by rw [upd_ne d.ne]; exact t⟩
  · exact .inr ⟨e1, e2, by rw [upd_ne d.ne]; exact t, by rw [upd_ne e2]; exact t2⟩
theorem dk_keep {g : Gd} {H : Hp} {a : Addr} {xs ys : List V} (h : H a = some (.lst xs)) (d : DkS g a) : Keep (DkS g) H (upd H a (.lst ys)) := Keep.write h rfl d
theorem at0 {xs : List V} {v : V} (h : xs[0]? = some v) : atI xs 0 = some v := atI_nat (j := 0) h
theorem at1 {xs : List V} {v : V} (h : xs[1]? = some v) : atI xs 1 = some v := atI_nat (j := 1) h
theorem ixN_nat {n j : Nat} (h : j < n) : ixN n (j : Int) = some j := by
  unfold ixN
  simp [h]
/-- slots: the deck, the limit, the cell, the index -/
def tDrawA (K : PySem.W.Frag) : TS :=
  tSeq (tAsg (tOp (rI0 fun i j => .int (i + j)) (ix K (tVar 0) (tC (.int 1))) (tC (.int 1))) (gSub (tVar 0) (tC (.int 1)) rSetL))
  (tSeq (tAsg (tTup (tCons (tC (.int 0)) (tCons (tUn (rU fun i => .int (-i)) (tC (.int 1))) tNil))) (gTup K 2 (gCons (gName 2) (gCons (gName 3) gNil))))
  (tSeq (tIfS (tTest (tOp (rI0 fun i j => .bl (decide (j < i))) (tCB (lenR K) (tCons (ix K (tVar 0) (tC (.int 0))) tNil)) (tC (.int 0))))
      (tSeq (tAsg (tOp (rI (fun _ j => 0 < j) fun i j => .int (i % j)) (ix K (tVar 0) (tC (.int 1))) (tCB (lenR K) (tCons (ix K (tVar 0) (tC (.int 0))) tNil))) (gName 3)) (tAsg (ix K (ix K (tVar 0) (tC (.int 0))) (tVar 3)) (gName 2)))
      tNext)
  (tSeq (tIfS (tTest (tOp (rI0 fun i j => .bl (decide (j ≤ i))) (tVar 2) (tOp (rI CPow fun i j => .int (i ^ j.toNat)) (tC (.int 10)) (tC (.int 18)))))
      (tSeq (tAsg (tOp (rI CDiv fun i j => .int (i / j)) (tVar 2) (tVar 1)) (gSub (ix K (tVar 0) (tC (.int 0))) (tVar 3) rSetL)) (tRet (tOp (rI (fun _ j => 0 < j) fun i j => .int (i % j)) (tVar 2) (tVar 1))))
      tNext)
  (tRet (tOp (rI (fun _ j => 0 < j) fun i j => .int (i % j)) (tOp (rI CDiv fun i j => .int (i / j)) (tOp (rI (fun _ j => 0 < j) fun i j => .int (i % j)) (tOp (rI CPow fun i j => .int (i ^ j.toNat))
    (tOp (rI0 fun i j => .int (i + j)) (tOp (rI0 fun i j => .int (i + j)) (tOp (rI (fun _ j => 0 < j) fun i j => .int (i % j)) (tVar 2) (tC (.int 2147483587))) (tOp (rI CMul fun i j => .int (i * j)) (tC (.int 7919)) (ix K (tVar 0) (tC (.int 1))))) (tC (.int 1)))
    (tC (.int 5))) (tC (.int 2147483647))) (tC (.int 7))) (tVar 1))))))
theorem drawA_body {K : PySem.W.Frag} {xc : XC} {H : Hp} {Q : VK} {E : XK} {vs : List V} {N : List Str} (hN : N.length = 4) (h : spF xc K 2 drawA vs H Q E) : tDrawA K { nx := fun _ H' => Q .non H', rt := Q } (L2.start N vs) H := by
  obtain ⟨hl, g, O, as, s, h1, h2, dk, hp, h⟩ := h
  obtain ⟨n, rfl, c1, c2, c3, c4⟩ := drawA_inv (as := as) (s := s) fun z => by rw [z] at h; exact h
  unfold drawA at h
  simp only [c1, c2, c3, c4, and_self, if_true] at h
  obtain ⟨x, y, rfl, r1, r2⟩ := pair2 hp
  cases r1
  cases r2 with
  | sh r2 =>
  obtain rfl := sh_int.mp r2
  have e0 : L2.start N [.ref g.1, .int n] = [some (.ref g.1), some (.int n), none, none] := by
    unfold L2.start; rw [hN]; rfl
  rw [e0]
  obtain ⟨xs, t0, t1, t2, t3⟩ := dk_top dk
  -- the counter
  refine ⟨_, rfl, ⟨g.1, xs, 1, _, rfl, rfl, SqL.of t0, at1 t2, s.cnt, 1, rfl, rfl, _, rfl, ?_⟩⟩
  refine ⟨g.1, xs, 1, 1, rfl, rfl, t0, ixN_nat (j := 1) (by omega), ?_⟩
  have dk1 := dk_cnt dk t0 (s.cnt + 1)
  have k1 : Keep (DkS g) H (upd H g.1 (.lst (xs.set 1 (.int (s.cnt + 1))))) := dk_keep t0 (.inl rfl)
  generalize upd H g.1 (.lst (xs.set 1 (.int (s.cnt + 1)))) = Ha at dk1 k1
  -- cell, index
  refine ⟨1, rfl, by simp [sizeLine_eq], fun tp np => ⟨tp, _, rfl, SqT.of upd_same, rfl, _, _, rfl, _, _, rfl, rfl, ?_⟩⟩
  have kt : Keep (fun _ => False) Ha (upd Ha tp (.tup [.int 0, .int (-1)])) := Keep.new np
  replace dk1 := dk1.keep kt fun _ z => z.elim
  replace k1 := k1.trans (M' := fun _ => False) kt fun _ z => z.elim
  generalize upd Ha tp (.tup [.int 0, .int (-1)]) = Hb at dk1 k1
  obtain ⟨ys, u0, u1, u2, u3⟩ := dk_top dk1
  simp only at u2
  have uc : Hb g.2.1 = some (.lst (s.cells.map V.int)) := dk1.cells
  have i0 : ∀ {R : VK}, R (.ref g.2.1) Hb → ∀ σ : L2.St, σ[0]? = some (some (.ref g.1)) → ix K (tVar 0) (tC (.int 0)) σ Hb R := fun {R} hR σ hσ => ⟨_, hσ, g.1, ys, 0, _, rfl, rfl, SqL.of u0, at0 u1, hR⟩
  have i1 : ∀ {R : VK}, R (.int (s.cnt + 1)) Hb → ∀ σ : L2.St, σ[0]? = some (some (.ref g.1)) → ix K (tVar 0) (tC (.int 1)) σ Hb R := fun {R} hR σ hσ => ⟨_, hσ, g.1, ys, 1, _, rfl, rfl, SqL.of u0, at1 u2, hR⟩
  have fin : ∀ (cell index : Int) (v3 : V), cell = cellA s → (1000000000000000000 ≤ cell → v3 = .int (((s.cnt + 1) % s.cells.length).toNat : Nat) ∧ ((s.cnt + 1) % s.cells.length).toNat < s.cells.length) → ∀ σ : L2.St, σ = [some (.ref g.1), some (.int n), some (.int cell), some v3] →
      (tSeq (tIfS (tTest (tOp (rI0 fun i j => .bl (decide (j ≤ i))) (tVar 2) (tOp (rI CPow fun i j => .int (i ^ j.toNat)) (tC (.int 10)) (tC (.int 18)))))
      (tSeq (tAsg (tOp (rI CDiv fun i j => .int (i / j)) (tVar 2) (tVar 1)) (gSub (ix K (tVar 0) (tC (.int 0))) (tVar 3) rSetL)) (tRet (tOp (rI (fun _ j => 0 < j) fun i j => .int (i % j)) (tVar 2) (tVar 1))))
      tNext)
  (tRet (tOp (rI (fun _ j => 0 < j) fun i j => .int (i % j)) (tOp (rI CDiv fun i j => .int (i / j)) (tOp (rI (fun _ j => 0 < j) fun i j => .int (i % j)) (tOp (rI CPow fun i j => .int (i ^ j.toNat))
    (tOp (rI0 fun i j => .int (i + j)) (tOp (rI0 fun i j => .int (i + j)) (tOp (rI (fun _ j => 0 < j) fun i j => .int (i % j)) (tVar 2) (tC (.int 2147483587))) (tOp (rI CMul fun i j => .int (i * j)) (tC (.int 7919)) (ix K (tVar 0) (tC (.int 1))))) (tC (.int 1)))
    (tC (.int 5))) (tC (.int 2147483647))) (tC (.int 7))) (tVar 1)))) { nx := fun _ H' => Q .non H', rt := Q } σ Hb := by
    intro cell index v3 hcell hbig σ hσ
    subst hσ
    refine ⟨_, rfl, 10, 18, rfl, rfl, ⟨by omega, by omega, by decide⟩, cell, 1000000000000000000, rfl, rfl, _, rfl, ?_⟩
    by_cases hb : 1000000000000000000 ≤ cell
    · rw [decide_eq_true hb]
      refine iteT ?_
      obtain ⟨rfl, hlt⟩ := hbig hb
      rw [if_pos (by rw [← hcell]; exact hb)] at h
      refine ⟨_, rfl, _, rfl, cell, n, rfl, rfl, ⟨c1, c2⟩, i0 ⟨_, rfl, g.2.1, _, _, _, rfl, rfl, uc, ixN_nat (by simpa using hlt), _, rfl, _, rfl, cell, n, rfl, rfl, c1, ?_⟩ _ rfl⟩
      refine h _ _ [] (k1.trans (dk_keep uc (.inr (.inl rfl))) fun a z => .inl z) nilF (RO.sh (sh_int.mpr (by rw [hcell]))) ?_
      have := dk_cells dk1 ((s.cnt + 1) % s.cells.length).toNat (cell / n)
      rw [← hcell]
      exact this
    · rw [decide_eq_false hb]
      refine iteF ?_
      rw [if_neg (by rw [← hcell]; exact hb)] at h
      have m0 : 0 ≤ cell % 2147483587 := Int.emod_nonneg _ (by decide)
      have m1 : cell % 2147483587 < 2147483587 := Int.emod_lt_of_pos _ (by decide)
      refine ⟨_, rfl, cell, 2147483587, rfl, rfl, (show (0 : Int) < 2147483587 by decide), i1 ⟨7919, s.cnt + 1, rfl, rfl, .inl (by decide), _, _, rfl, rfl, _, 1, rfl, rfl, _, 5, rfl, rfl, ⟨by decide, by decide, by omega⟩, _, 2147483647, rfl, rfl, (show (0 : Int) < 2147483647 by decide), _, 7, rfl, rfl, ⟨by decide, by decide⟩, _, rfl, _, n, rfl, rfl, c1, ?_⟩ _ rfl⟩
      exact h _ _ [] k1 nilF (RO.sh (sh_int.mpr (by rw [hcell]; rfl))) dk1
  show (tSeq _ _) _ [some (.ref g.1), some (.int n), some (.int 0), some (.int (-1))] Hb
  refine i0 ⟨_, _, rfl, .inl ⟨_, SqL.of uc, rfl⟩, _, 0, rfl, rfl, _, rfl, ?_⟩ _ rfl
  rw [List.length_map]
  by_cases hz : 0 < s.cells.length
  · rw [decide_eq_true (by omega)]
    refine iteT ?_
    have lp : (0 : Int) < s.cells.length := by omega
    have q0 : 0 ≤ (s.cnt + 1) % s.cells.length := Int.emod_nonneg _ (by omega)
    have q1 : (s.cnt + 1) % s.cells.length < s.cells.length := Int.emod_lt_of_pos _ lp
    have hlt : ((s.cnt + 1) % s.cells.length).toNat < s.cells.length := by omega
    refine i1 (i0 ⟨_, _, rfl, .inl ⟨_, SqL.of uc, rfl⟩, s.cnt + 1, _, rfl, rfl, by rw [List.length_map]; exact lp, ?_⟩ _ rfl) _ rfl
    rw [List.length_map]
    change ix K (ix K (tVar 0) (tC (.int 0))) (tVar 3) [some (.ref g.1), some (.int n), some (.int 0), some (.int ((s.cnt + 1) % s.cells.length))] Hb _
    have eI : (s.cnt + 1) % (s.cells.length : Int) = ((((s.cnt + 1) % s.cells.length).toNat : Nat) : Int) := by omega
    have cA : cellA s = s.cells[((s.cnt + 1) % s.cells.length).toNat] := by
      unfold cellA
      rw [if_pos hz]
      simp [List.getD_eq_getElem?_getD, List.getElem?_eq_getElem hlt]
    refine i0 ⟨_, rfl, g.2.1, _, (s.cnt + 1) % s.cells.length, .int (cellA s), rfl, rfl, SqL.of uc, ?_, ?_⟩ _ rfl
    · rw [eI, cA]
      exact atI_nat (by rw [List.getElem?_map, List.getElem?_eq_getElem hlt]; rfl)
    · exact fin (cellA s) 0 _ rfl (fun _ => ⟨congrArg V.int eI, hlt⟩) _ rfl
  · rw [decide_eq_false (by omega)]
    refine iteF ?_
    have c0 : cellA s = 0 := by unfold cellA; rw [if_neg hz]
    exact fin 0 0 _ c0.symm (fun z => absurd z (by decide)) _ rfl
end PV

/-! PV.24: the deck is made; the law's own def -/
namespace PV
open PySem PySem.Spec L2

def absI (i : Int) : Int := if i < 0 then -i else i
def spDeck (K : PySem.W.Frag) : Sp := fun vs H Q _ => ∃ (a : Addr) (ns : List Int), vs = [.ref a] ∧ SqL K H a (ns.map V.int) ∧ ns.length ≤ 63 ∧ ∀ H' d c, Keep (fun _ => False) H H' → H d = none → H c = none → d ≠ c → H' d = some (.lst [.ref c, .int 0]) → H' c = some (.lst ((ns.map absI).map V.int)) → Q (.ref d) H'
def absR : List V → Hp → VK → Prop := fun xs H Q => ∃ i, xs = [.int i] ∧ Q (.int (if i < 0 then -i else i)) H
/-- return [[abs(cell) for cell in script[:cut]], 0] -/
def tDeck (K : PySem.W.Frag) (cut : Int) : TS := tRet (tLst (tCons (tLc (iList K (tSl (rSlL K) (tVar 0) tNoPart (tPart (tC (.int cut))))) (gName 1) tYes (tCB absR (tCons (tVar 1) tNil)) [1]) (tCons (tC (.int 0)) tNil)))
theorem sq_keep {K : PySem.W.Frag} {H H' : Hp} {a : Addr} {xs : List V} (k : Keep (fun _ => False) H H') (h : SqL K H a xs) : SqL K H' a xs := by
  rcases h with h | h
  · exact .inl (Rd.keep k h (.inl fun z => z))
  · exact .inr h
theorem cutV_all {xs : List V} {n : Nat} (h : xs.length ≤ n) : cutV xs none (some (n : Int)) = xs := by
  unfold cutV
  rw [HT.sIx_none, HT.sIx_nat, List.drop_zero, Nat.sub_zero, Nat.min_eq_right h, List.take_length]
theorem deck_body {K : PySem.W.Frag} {H : Hp} {Q : VK} {E : XK} {vs : List V} {N : List Str} (hN : N.length = 2) (h : spDeck K vs H Q E) : tDeck K 63 { nx := fun _ H' => Q .non H', rt := Q } (L2.start N vs) H := by
  obtain ⟨a, ns, rfl, hs, hl, q⟩ := h
  have e0 : L2.start N [.ref a] = [some (.ref a), none] := by
    unfold L2.start; rw [hN]; rfl
  rw [e0]
  refine ⟨_, rfl, 63, rfl, a, _, rfl, hs, fun p np => ?_⟩
  have k1 : Keep (fun _ => False) H (upd H p (.lst (cutV (ns.map V.int) none (some 63)))) := Keep.new np
  rw [show cutV (ns.map V.int) none (some 63) = ns.map V.int from cutV_all (n := 63) (by simpa using hl)] at k1 ⊢
  refine ⟨p, rfl, ⟨_, .inl (.inl upd_same)⟩, fun D nD => ?_⟩
  generalize hH1 : upd H p (.lst (ns.map V.int)) = H1 at k1 nD ⊢
  have hp1 : H1 p = some (.lst (ns.map V.int)) := by rw [← hH1, upd_same]
  have nDp : p ≠ D := fun z => by rw [z, nD] at hp1; cases hp1
  have D0 : H D = none := k1.old D nD
  refine ⟨fun i m H2 => i + m = ns.length ∧ Keep (fun b => b = D) H1 H2 ∧ H2 D = some (.lst (((ns.map absI).map V.int).take i)), ⟨ns.length, by omega, Keep.new nD, by rw [upd_same]; rfl⟩, ?_⟩
  rintro i m H2 ⟨hi, k2, hD⟩
  have hp2 : H2 p = some (.lst (ns.map V.int)) := k2.stay p _ hp1 (.inl fun z => nDp z)
  by_cases z : i < ns.length
  rotate_left
  · refine .inl ⟨⟨_, .inl (.inl hp2), by simp; omega⟩, ?_⟩
    rw [List.take_of_length_le (by simp; omega)] at hD
    refine ⟨by simp [sizeLine_eq], fun d nd => ?_⟩
    have k02 : Keep (fun _ => False) H H2 := ⟨fun b o e _ => k2.stay b o (k1.stay b o e (.inl fun z => z)) (.inl fun z => by rw [z, D0] at e; cases e), fun b z => k1.old b (k2.old b z)⟩
    have nDd : D ≠ d := fun z => by rw [z, nd] at hD; cases hD
    exact q _ d D (k02.trans (M' := fun _ => False) (Keep.new nd) fun _ z => z.elim) (k02.old d nd) D0 nDd.symm upd_same (by rw [upd_ne nDd]; exact hD)
  · have g1 : (ns.map V.int)[i]? = some (.int ns[i]) := by rw [List.getElem?_map, List.getElem?_eq_getElem z]; rfl
    refine .inr ⟨⟨_, _, .inl (.inl hp2), g1⟩, fun H3 => (i + 1) + (m - 1) = ns.length ∧ Keep (fun b => b = D) H1 H3 ∧ H3 D = some (.lst (((ns.map absI).map V.int).take (i + 1))), fun H3 h3 => ⟨m - 1, by omega, h3⟩, fun x H3 hy => ?_⟩
    obtain ⟨rfl, hy⟩ := hy
    have := hy _ (.inl (.inl hp2))
    rw [g1] at this; cases this
    refine ⟨rfl, ?_⟩
    show tCB absR (tCons (tVar 1) tNil) _ H3 _
    refine ⟨_, rfl, _, rfl, _, hD, ?_, by omega, ?_, ?_⟩
    · rw [List.length_take]; simp [sizeLine_eq]; omega
    · exact ⟨fun b o e c => by
        have hb : b ≠ D := fun z => by rw [z, nD] at e; cases e
        rw [upd_ne hb]
        exact k2.stay b o e c, fun b z => by
        by_cases hb : b = D
        · rw [hb, upd_same] at z; cases z
        · rw [upd_ne hb] at z; exact k2.old b z⟩
    · rw [upd_same, List.take_add_one, List.getElem?_map, List.getElem?_map, List.getElem?_eq_getElem z]
      rfl
/-- the law: the deck, then the rest -/
def spLaw (K : PySem.W.Frag) (ok : List Int → Prop) : Sp := fun vs H Q _ => ∃ (a : Addr) (ns : List Int), vs = [.ref a] ∧ SqL K H a (ns.map V.int) ∧ ns.length ≤ 63 ∧ ok ns ∧ ∀ H', Q (.bl true) H'
theorem e_un {n i : Nat} {sl : Slot} {j : Nat} (h : ((List.replicate n Slot.un).set i .dk)[j]? = some sl) : (j = i ∧ sl = .dk ∧ i < n) ∨ sl = .un := by
  rcases get_set h with ⟨z, y, l⟩ | ⟨z, y⟩
  · exact .inl ⟨z, y, by simpa using l⟩
  · rw [List.getElem?_replicate] at y
    split at y
    · cases y; exact .inr rfl
    · cases y
theorem law_body {xc : XC} {K : PySem.W.Frag} {cl : Nat → List Arg → DS → FRes} {W : WX} {N : List Str} {i : Nat} {ib : Ss} {H : Hp} {Q : VK} {E : XK} {E' : L2.St → XK} {vs : List V} (hi : i < N.length) (h0 : 0 < N.length)
    (h : spLaw K (fun ns => ∃ m, exs cl ib ⟨(List.replicate N.length Slot.un).set i .dk, ⟨ns.map absI, 0, []⟩⟩ = .ok (.rt (.v (.bool true))) m) vs H Q E) :
    tSeq (tAsg (tCallG (spDeck K) E' (tCons (tVar 0) tNil)) (gName i)) (tS xc K W (asgSs ib) fun m => exs cl ib m) { nx := fun _ H' => Q .non H', rt := Q } (L2.start N vs) H := by
  obtain ⟨a, ns, rfl, hs, hl, ⟨m, hm⟩, q⟩ := h
  have s0 : (L2.start N [.ref a])[0]? = some (some (.ref a)) := rfl
  refine ⟨_, s0, a, ns, rfl, hs, hl, fun H1 d c k nd nc ne hd hc => ?_⟩
  let g : Gd := (d, c, d)
  have dk : DkRep g ⟨ns.map absI, 0, []⟩ H1 := ⟨hc, ne, .inl ⟨rfl, hd⟩⟩
  have no : ∀ {j : Nat}, isOwn ((List.replicate N.length Slot.un).set i .dk)[j]? = false := fun {j} => by
    cases q : ((List.replicate N.length Slot.un).set i .dk)[j]? with
    | none => rfl
    | some sl => rcases e_un q with ⟨_, rfl, _⟩ | rfl <;> rfl
  have sl : (L2.start N [.ref a]).length = N.length := by unfold L2.start; simp; omega
  refine ⟨g, DkS g, (List.replicate N.length Slot.un).set i .dk, _, ⟨fun _ z => z, fun b z => ?_, ⟨by simp [sl], fun j s h => ?_, fun j k b z _ _ _ => by rw [no] at z; cases z⟩, dk⟩, ?_⟩
  · rcases z with z | z | z
    · rw [z]; show H1 d ≠ none; rw [hd]; simp
    · rw [z]; show H1 c ≠ none; rw [hc]; simp
    · rw [z]; show H1 d ≠ none; rw [hd]; simp
  · rcases e_un h with ⟨rfl, rfl, l⟩ | rfl
    · show ((L2.start N [.ref a]).set j (some (.ref d)))[j]? = _
      rw [List.getElem?_set_self (by rw [sl]; exact l)]
    · trivial
  · show PostS xc K W g _ _ _ H1 _ _ (exs cl ib ⟨(List.replicate N.length Slot.un).set i .dk, ⟨ns.map absI, 0, []⟩⟩)
    rw [hm]
    intro v σ' H' F t
    have hv := t.rv.2
    rw [sh_bool.mp hv]
    exact q H'
theorem cx_false {P : Program} {w : World} {outer : List PySem.Env} {H : Hp} {s : Shared} {e : Value} {s' : Shared} (h : L2.CX P w outer H s (fun _ _ _ => False) e s') : False := by
  obtain ⟨_, _, _, _, _, _, _, _, _, _, _, _, z⟩ := h
  exact z
section
variable {P : Program} {w : World} {K : PySem.W.Frag} {mg : Str → Option Value} {base : Heap} {xc : XC} {cl : Nat → List Arg → DS → FRes}
theorem FnG.walk {x qual : Str} {st : Stmt} {f : Addr} {fd : FuncData} {N ps : List Str} {k : Nat} {sp : Sp} (F : Fun K x qual st f fd) (S : FnScope N ps (defScope st)) (len : ∀ vs H Q E, sp vs H Q E → vs.length = ps.length)
    (hb : ∀ (cdv : Value) (A : Around) (outer : List PySem.Env) (s : Shared) (H : Hp) (E : XK), Bd (CxD P w K mg base N qual st f cdv A outer s H E) (fun c d _ H => E c d H) k → ∃ t, PSs (CxD P w K mg base N qual st f cdv A outer s H E) (defBody st) t ∧
      ∀ vs Q, sp vs H Q E → t { nx := fun _ H' => Q .non H', rt := Q } (L2.start N vs) H) : FnG P w K mg base (L2.CX P w) (k + 1) f fd ps sp := by
  obtain ⟨oc, od, kV, doc, pm, an, cdv, ct, osl, rfl, lk, hcd⟩ := F.ex
  refine FnG.body lk hcd S len fun A outer s H vs Q E hg hr hf hsp => ?_
  have un := hr.un
  obtain ⟨t, h1, h2⟩ := hb cdv A outer s H E ⟨⟨rfl, S.nd, by show (A.deeper _).units + 65 < cLine; omega, deeper_gd hg⟩, hr, L2.passes_of rfl, L2.takes_of rfl rfl rfl rfl⟩
  exact ⟨t, h1, h2 vs Q hsp⟩
/-- a draw of the table -/
theorem FnT.prim {tb : Nat → Option FSem} {k : Nat} {n qual : Str} {f np : Nat} {st : Stmt} {fa : Addr} {fd : FuncData} {N ps : List Str} {gf : List Arg → DS → FRes}
    (F : Fun K n qual st fa fd) (hm : mg n = some (.ref fa)) (hb : Binds K fd ps []) (S : FnScope N ps (defScope st)) (ht : tb f = some (.prim gf)) (hp : ps.length = np) (hl : ∀ as s, gf as s ≠ .bad → as.length = np)
    (w' : ∀ (cdv : Value) (A : Around) (outer : List PySem.Env) (s : Shared) (H : Hp) (E : XK), Bd (CxD P w K mg base N qual st fa cdv A outer s H E) (fun c d _ H => E c d H) k → ∃ t, PSs (CxD P w K mg base N qual st fa cdv A outer s H E) (defBody st) t ∧
      ∀ vs Q, spF xc K np gf vs H Q E → t { nx := fun _ H' => Q .non H', rt := Q } (L2.start N vs) H) : FnT P w K mg base xc (run tb (k + 1)) (k + 1) n f np := by
  have e : run tb (k + 1) f = gf := by
    funext as s
    show (match tb f with
      | some (.prim g) => g as s
      | some (.df fd) => runB (run tb k) fd as s
      | none => .bad) = _
    rw [ht]
  refine ⟨⟨fa, fd, ps, ?_, hm, F.kp, hb⟩, fun as s h => ?_⟩
  · rw [e]
    exact FnG.walk F S (fun vs H Q E h => by rw [hp]; exact h.1) w'
  · rw [e] at h; exact hl as s h
end
end PV

/-! PV: plain laws of the evaluator -/
namespace PV
open PySem PySem.Spec L2
section
variable {cl : Nat → List Arg → DS → FRes}
/-- a comprehension that leaves the deck alone -/
theorem lcL_map {own : List Nat} {bd : PyData → M → Res Bool} {el : M → Res R} {e : Env} {s : DS} {f : PyData → PyData} : ∀ (ds acc : List PyData),
    (∀ d ∈ ds, ∃ m1 r m2 e3, bd d ⟨e, s⟩ = .ok true m1 ∧ el m1 = .ok r m2 ∧ esc m2.e r = some (f d, e3) ∧ clear e3 own = e ∧ m2.s = s) → lcL none own bd el ds acc ⟨e, s⟩ = .ok (acc ++ ds.map f) ⟨e, s⟩
  | [], acc, _ => by simp [lcL, srcOk]
  | d :: ds, acc, h => by
    obtain ⟨m1, r, m2, e3, h1, h2, h3, h4, h5⟩ := h d List.mem_cons_self
    unfold lcL
    simp only [srcOk, if_true, h1, h2, h3, h4, h5]
    rw [lcL_map ds (acc ++ [f d]) fun d hd => h d (List.mem_cons_of_mem _ hd)]
    simp
/-- a comprehension that draws: J of the deck, turn by turn; Y of the items -/
theorem lcL_draw {own : List Nat} {bd : PyData → M → Res Bool} {el : M → Res R} {e : Env} {Y : PyData → Prop} (J : Nat → DS → Prop) (n : Nat) : ∀ (ds acc : List PyData) (i : Nat) (s : DS), J i s → i + ds.length ≤ n →
    (∀ i s d, i < n → d ∈ ds → J i s → ∃ m1 r m2 e3 x, bd d ⟨e, s⟩ = .ok true m1 ∧ el m1 = .ok r m2 ∧ esc m2.e r = some (x, e3) ∧ clear e3 own = e ∧ Y x ∧ J (i + 1) m2.s) →
    ∃ xs s', lcL none own bd el ds acc ⟨e, s⟩ = .ok (acc ++ xs) ⟨e, s'⟩ ∧ xs.length = ds.length ∧ (∀ x ∈ xs, Y x) ∧ J (i + ds.length) s'
  | [], acc, i, s, hj, _, _ => ⟨[], s, by simp [lcL, srcOk], rfl, (fun _ z => nomatch z), hj⟩
  | d :: ds, acc, i, s, hj, hn, h => by
    rw [List.length_cons] at hn
    obtain ⟨m1, r, m2, e3, x, h1, h2, h3, h4, h5, h6⟩ := h i s d (by omega) List.mem_cons_self hj
    obtain ⟨xs, s', q1, q2, q3, q4⟩ := lcL_draw J n ds (acc ++ [x]) (i + 1) m2.s h6 (by omega) fun i s d hi hd => h i s d hi (List.mem_cons_of_mem _ hd)
    refine ⟨x :: xs, s', ?_, by simp [q2], fun y hy => ?_, ?_⟩
    · unfold lcL
      simp only [srcOk, if_true, h1, h2, h3, h4]
      rw [q1]; simp
    · rcases List.mem_cons.mp hy with rfl | hy
      · exact h5
      · exact q3 y hy
    · rw [List.length_cons]
      rwa [show i + (ds.length + 1) = i + 1 + ds.length by omega]
/-- a loop without break whose turns keep J -/
theorem lopL_inv {bd : PyData → M → Res Flow} (J : Nat → M → Prop) (n : Nat) : ∀ (ds : List PyData) (i : Nat) (m : M), J i m → i + ds.length ≤ n → (∀ i m d, i < n → d ∈ ds → J i m → ∃ m', bd d m = .ok .nx m' ∧ J (i + 1) m') → ∃ m', lopL none bd ds m = .ok .nx m' ∧ J (i + ds.length) m'
  | [], i, m, hj, _, _ => ⟨m, by simp [lopL, srcOk], hj⟩
  | d :: ds, i, m, hj, hn, h => by
    rw [List.length_cons] at hn
    obtain ⟨m1, h1, h2⟩ := h i m d (by omega) List.mem_cons_self hj
    obtain ⟨m', q1, q2⟩ := lopL_inv J n ds (i + 1) m1 h2 (by omega) fun i m d hi hd => h i m d hi (List.mem_cons_of_mem _ hd)
    refine ⟨m', ?_, by rw [List.length_cons]; rwa [show i + (ds.length + 1) = i + 1 + ds.length by omega]⟩
    unfold lopL
    simp only [srcOk, if_true, h1, q1]
end
section
variable {cl : Nat → List Arg → DS → FRes} {m m1 m2 : M} {rs : List R} {r : R} {as : List Arg} {s s' : DS}
theorem runB_rt {ns np : Nat} {b : Ss} {x : FRes} (hl : as.length = np) (h : exs cl b ⟨as.map slotA ++ List.replicate (ns - np) .un, s⟩ = .ok (.rt r) m) (hr : finR r m = x) : runB cl ⟨ns, np, b⟩ as s = x := by
  unfold runB
  simp only [hl, if_true, h, hr]
theorem ev_op {o : Op} {es : Es} (h : evs cl es m = .ok rs m1) (ho : opE m1.e o rs = some r) : ev cl (.op o es) m = .ok r m1 := by
  simp only [ev, h, ho]
theorem evs_one {a : E} (h : ev cl a m = .ok r m1) : evs cl (.cons a .nil) m = .ok [r] m1 := by
  simp only [evs, h]
theorem evs_c {a : E} {es : Es} (h : ev cl a m = .ok r m1) (h2 : evs cl es m1 = .ok rs m2) : evs cl (.cons a es) m = .ok (r :: rs) m2 := by
  simp only [evs, h, h2]
theorem ev_lc {t : Tg} {it : It} {c : T} {el : E} {own : List Nat} {ds acc : List PyData} {src : Src} (h : evI cl it m = .ok (ds, src) m1) (ho : own.all (fun i => !isOwn m1.e[i]?) = true) (hl : ds.length ≤ LIM)
    (hk : lcL src own (fun d m => match bind1 m.e t d with
            | some e => evT cl c ⟨e, m.s⟩
            | none => .bad) (fun m => ev cl el m) ds [] ⟨clear m1.e own, m1.s⟩ = .ok acc m2) : ev cl (.lc t it c el own) m = .ok (.fl acc) ⟨back m2.e m1.e own, m2.s⟩ := by
  simp only [ev, h, ho, hl, and_self, if_true]
  exact congrArg (fun x : Res (List PyData) => match x with
    | .ok acc m2 => (.ok (.fl acc) ⟨back m2.e m1.e own, m2.s⟩ : Res R)
    | _ => .bad) hk
theorem ev_call {f : Nat} {es : Es} (h : evs cl es m = .ok rs m1) (ha : toArgs m1.e rs = some as) (hc : cl f as m1.s = .ok r s') (hp : hasPl rs = false) (hr : plR r = false ∧ r ≠ .dk) : ev cl (.call f es) m = .ok r ⟨m1.e, s'⟩ := by
  simp only [ev, h, ha, hc, hp]
  cases r <;> simp_all [plR]
theorem exs_c {st : S} {ss : Ss} (h : ex cl st m = .ok .nx m1) : exs cl (.cons st ss) m = exs cl ss m1 := by
  simp only [exs, h]
theorem exs_ret {a : E} {ss : Ss} (h : ev cl a m = .ok r m1) : exs cl (.cons (.ret a) ss) m = .ok (.rt r) m1 := by
  simp only [exs, ex, h]
theorem ex_set {i : Nat} {a : E} {e : Env} (h : ev cl a m = .ok r m1) (he : setR i r m1.e = some e) : ex cl (.set (.nm i) a) m = .ok .nx ⟨e, m1.s⟩ := by
  simp only [ex, h, he]
theorem ex_unp {ts : Tgs} {a : E} {d : PyData} {e e1 : Env} (h : ev cl a m = .ok r m1) (hd : esc m1.e r = some (d, e1)) (he : bind1 e1 (.tp ts) d = some e) : ex cl (.set (.tp ts) a) m = .ok .nx ⟨e, m1.s⟩ := by
  simp only [ex, h, hd, he]
theorem ex_if {c : T} {a b : Ss} {k : Bool} (h : evT cl c m = .ok k m1) : ex cl (.ite c a b) m = if k = true then exs cl a m1 else exs cl b m1 := by
  simp only [ex, h]
  cases k <;> rfl
theorem ex_lop {t : Tg} {it : It} {b : Ss} {ds : List PyData} {src : Src} (h : evI cl it m = .ok (ds, src) m1) (hs : srcFree (fun j => asgT t j || asgSs b j) src = true) : ex cl (.lop t it b) m = lopL src (fun d m => match bind1 m.e t d with
        | some e => exs cl b ⟨e, m.s⟩
        | none => .bad) ds m1 := by
  simp only [ex, h, hs, if_true] <;> rfl
theorem opE_of {e : Env} {o : Op} {ds : List PyData} (hn : dictOp e o rs = none) (hd : derefs e rs = some ds) : opE e o rs = opD o ds := by
  unfold opE; rw [hn, hd]
theorem evT_e {a : E} {d : PyData} (h : ev cl a m = .ok r m1) (hd : deref m1.e r = some d) (hs : strFits d = true) : evT cl (.e a) m = .ok (truth d) m1 := by
  simp only [evT, h, hd, hs, if_true]
theorem evT_not {c : T} {k : Bool} (h : evT cl c m = .ok k m1) : evT cl (.not c) m = .ok (!k) m1 := by
  simp only [evT, h]
theorem evT_or {a b : T} {k k2 : Bool} (h : evT cl a m = .ok k m1) (h2 : k = false → evT cl b m1 = .ok k2 m2) (e : k = true → k2 = true ∧ m2 = m1) : evT cl (.or a b) m = .ok k2 m2 := by
  simp only [evT, h]
  cases k with
  | true => obtain ⟨rfl, rfl⟩ := e rfl; rfl
  | false => exact h2 rfl
end
def pr (p : Int × Int) : PyData := .tuple [.int p.1, .int p.2]
theorem prs_of {ds : List PyData} {C : Int → Prop} (h : ∀ d ∈ ds, ∃ a b, d = .tuple [.int a, .int b] ∧ C a ∧ C b) : ∃ ps : List (Int × Int), ds = ps.map pr ∧ ∀ p ∈ ps, C p.1 ∧ C p.2 := by
  induction ds with
  | nil => exact ⟨[], rfl, fun _ z => nomatch z⟩
  | cons d ds ih =>
    obtain ⟨a, b, rfl, h1, h2⟩ := h d List.mem_cons_self
    obtain ⟨ps, rfl, q⟩ := ih fun d hd => h d (List.mem_cons_of_mem _ hd)
    exact ⟨(a, b) :: ps, rfl, fun p hp => by
      rcases List.mem_cons.mp hp with rfl | hp
      · exact ⟨h1, h2⟩
      · exact q p hp⟩
end PV

/-! PV: data that is shown; equal things -/
namespace PV
open PySem PySem.Spec L2
structure Rp (w k : Nat) (d : PyData) : Prop where
  short : d.leavesShort 13 = true
  sh : d.showable = true
  nd : nod d = true
  wt : d.weight ≤ w
  dp : d.depth ≤ k
theorem Rp.mono {w k w' k' : Nat} {d : PyData} (h : Rp w k d) (hw : w ≤ w') (hk : k ≤ k') : Rp w' k' d := ⟨h.short, h.sh, h.nd, Nat.le_trans h.wt hw, Nat.le_trans h.dp hk⟩
theorem Rp.int {i : Int} (h1 : -999999999999 ≤ i) (h2 : i ≤ 999999999999) : Rp 40 0 (.int i) := by
  have h : i.natAbs < 2 ^ 40 := by omega
  have hl : i.natAbs ≠ 0 → i.natAbs.log2 < 40 := fun z => (Nat.log2_lt z).mpr h
  refine ⟨decide_eq_true (PySem.PyData.shown_int_le (by omega)), decide_eq_true ?_, rfl, ?_, Nat.le_refl _⟩
  · by_cases z : i.natAbs = 0
    · rw [z]; decide
    · have := hl z; omega
  · show (if i == 0 then 0 else i.natAbs.log2 + 1) ≤ 40
    split
    · omega
    · rename_i z
      have : i.natAbs ≠ 0 := fun q => z (by simpa using q)
      have := hl this; omega
theorem Rp.none : Rp 0 0 .none := ⟨rfl, rfl, rfl, Nat.le_refl _, Nat.le_refl _⟩
theorem Rp.bool {b : Bool} : Rp 0 0 (.bool b) := ⟨rfl, rfl, rfl, Nat.le_refl _, Nat.le_refl _⟩
theorem rp_all {w k : Nat} : ∀ {xs : List PyData}, (∀ x ∈ xs, Rp w k x) → PyData.leavesShortAll 13 xs = true ∧ PyData.showableAll xs = true ∧ nodA xs = true ∧ PyData.weightAll xs ≤ xs.length * (w + 1) ∧ PyData.depthAll xs ≤ k
  | [], _ => ⟨rfl, rfl, rfl, Nat.zero_le _, Nat.zero_le _⟩
  | x :: xs, h => by
    obtain ⟨a1, a2, a3, a4, a5⟩ := h x List.mem_cons_self
    obtain ⟨b1, b2, b3, b4, b5⟩ := rp_all fun x hx => h x (List.mem_cons_of_mem _ hx)
    refine ⟨by simp [PyData.leavesShortAll, a1, b1], by simp [PyData.showableAll, a2, b2], by simp [nodA, a3, b3], ?_, ?_⟩
    · show PyData.weight x + 1 + PyData.weightAll xs ≤ (xs.length + 1) * (w + 1)
      rw [Nat.succ_mul]; omega
    · show max (PyData.depth x) (PyData.depthAll xs) ≤ k
      omega
theorem Rp.tuple {w k n : Nat} {xs : List PyData} (h : ∀ x ∈ xs, Rp w k x) (hl : xs.length ≤ n) : Rp (n * (w + 1)) (k + 1) (.tuple xs) := by
  obtain ⟨b1, b2, b3, b4, b5⟩ := rp_all h
  exact ⟨b1, b2, by simpa [nod] using b3, Nat.le_trans b4 (Nat.mul_le_mul_right _ hl), Nat.succ_le_succ b5⟩
theorem Rp.list {w k n : Nat} {xs : List PyData} (h : ∀ x ∈ xs, Rp w k x) (hl : xs.length ≤ n) : Rp (n * (w + 1)) (k + 1) (.list xs) := by
  obtain ⟨b1, b2, b3, b4, b5⟩ := rp_all h
  exact ⟨b1, b2, by simpa [nod] using b3, Nat.le_trans b4 (Nat.mul_le_mul_right _ hl), Nat.succ_le_succ b5⟩
theorem Rp.repr {w k : Nat} {d : PyData} (h : Rp w k d) (hw : w ≤ 1000000) (hk : k ≤ 60) : reprD [d] = some (.v (.str d.shown)) := by
  have := PyData.shown_le 13 (by decide) d h.short
  have hl : d.shown.length ≤ LIM := by have := h.wt; unfold LIM; omega
  show (if d.showable = true ∧ nod d = true ∧ d.shown.length ≤ LIM ∧ d.depth ≤ 60 then some (R.v (.str d.shown)) else Option.none) = _
  rw [if_pos ⟨h.sh, h.nd, hl, Nat.le_trans h.dp hk⟩]
theorem eq_str {a b : Str} : eqD [.str a, .str b] = some (.v (.bool (decide (a = b)))) := rfl
theorem ne_str {a b : Str} : neD [.str a, .str b] = some (.v (.bool (!decide (a = b)))) := rfl
section
variable {cl : Nat → List Arg → DS → FRes} {m m1 m2 : M} {s : DS} {a b : E}
theorem ev_repr {w k : Nat} {d : PyData} {r : R} (h : ev cl a m = .ok r m1) (hd : deref m1.e r = some d) (hp : Rp w k d) (hw : w ≤ 1000000) (hk : k ≤ 60) : ev cl (.op .repr (.cons a .nil)) m = .ok (.v (.str d.shown)) m1 := by
  refine ev_op (evs_one h) ?_
  rw [opE_of (by cases r <;> rfl) (ds := [d]) (by simp [derefs, hd])]
  exact hp.repr hw hk
/-- two equal things by their texts -/
theorem same_ok {w k : Nat} {d : PyData} (hp : Rp w k d) (hw : w ≤ 1000000) (hk : k ≤ 60) : runB cl ⟨2, 2, .cons (.ret (.op .eq (.cons (.op .repr (.cons (.x 0) .nil)) (.cons (.op .repr (.cons (.x 1) .nil)) .nil)))) .nil⟩ [.sh d, .sh d] s = .ok (.v (.bool true)) s := by
  refine runB_rt rfl (exs_ret (r := .v (.bool true)) (m1 := ⟨[.sh d, .sh d], s⟩) (ev_op (evs_c (ev_repr (d := d) rfl rfl hp hw hk) (evs_one (ev_repr (d := d) rfl rfl hp hw hk))) ?_)) rfl
  rw [opE_of rfl rfl]
  exact (eq_str (a := d.shown) (b := d.shown)).trans (by rw [decide_eq_true rfl])
end
theorem evI_rng {cl : Nat → List Arg → DS → FRes} {m m1 : M} {es : Es} {rs : List R} {ds : List PyData} (h : evs cl es m = .ok rs m1) (hr : rngD rs = some ds) : evI cl (.rng es) m = .ok (ds, none) m1 := by
  simp only [evI, h, hr]
theorem opE_v {e : Env} {o : Op} {rs : List R} {ds : List PyData} {r : R} (hn : dictOp e o rs = none) (hd : derefs e rs = some ds) (h : opD o ds = some r) : opE e o rs = some r := (opE_of hn hd).trans h
theorem rng1_ok {j : Int} (h1 : -(2 ^ 62) ≤ j) (h2 : j < 2 ^ 62) : rngD [.v (.int j)] = some ((List.range j.toNat).map fun (k : Nat) => .int (0 + (k : Int))) := by
  unfold rngD
  exact if_pos ⟨h1, h2⟩
theorem pick_nat {ds : List PyData} {j : Nat} {d : PyData} (h : ds[j]? = some d) : pick ds (j : Int) = some d := by
  unfold pick atI
  rw [ixN_nat (List.getElem?_eq_some_iff.mp h).1]
  exact h
/-- the deck, drawn at most b times -/
def CB (b : Nat) (s : DS) : Prop := 0 ≤ s.cnt ∧ s.cnt ≤ b
theorem CB.mono {a b : Nat} {s : DS} (h : CB a s) (l : a ≤ b) : CB b s := ⟨h.1, by have := h.2; omega⟩
theorem draw_cb {n : Int} {s : DS} {b : Nat} (h1 : 0 < n) (h2 : n < 1073741824) (h : CB b s) (hb : b ≤ 1000000000) : ∃ r s', drawA [.dk, .sh (.int n)] s = .ok (.v (.int r)) s' ∧ 0 ≤ r ∧ r < n ∧ CB (b + 1) s' := by
  obtain ⟨c1, c2⟩ := h
  obtain ⟨r, s', q1, q2, q3, q4⟩ := drawA_ok h1 h2 c1 (by omega)
  exact ⟨r, s', q1, q2, q3, by rw [CB, q4]; omega⟩
end PV

namespace Rk
open PySem PySem.Spec PyProof.Rows L2 PV
def topS (i : Nat) : Stmt := PySem.Challenge.pw_treelamps_k08_slides_backward.main.body.getD i (.Pass ⟨0, 0, 0, 0⟩)
abbrev st_backward : Stmt := topS 1
abbrev N_backward : List Str := ["slides", "u", "v"]
theorem sc_backward : FnScope N_backward ["slides"] (defScope st_backward) := ⟨rfl, rfl, rfl, by decide +kernel, rfl, by decide +kernel, by decide +kernel⟩
abbrev st__law_deck : Stmt := topS 3
abbrev N__law_deck : List Str := ["_law_script", "_law_cell"]
theorem sc__law_deck : FnScope N__law_deck ["_law_script"] (defScope st__law_deck) := ⟨rfl, rfl, rfl, by decide +kernel, rfl, by decide +kernel, by decide +kernel⟩
abbrev st__law_draw : Stmt := topS 4
abbrev N__law_draw : List Str := ["_law_deck_here", "_law_limit", "_law_cell", "_law_index"]
theorem sc__law_draw : FnScope N__law_draw ["_law_deck_here", "_law_limit"] (defScope st__law_draw) := ⟨rfl, rfl, rfl, by decide +kernel, rfl, by decide +kernel, by decide +kernel⟩
abbrev st__law_same : Stmt := topS 5
abbrev N__law_same : List Str := ["_law_value", "_law_due"]
theorem sc__law_same : FnScope N__law_same ["_law_value", "_law_due"] (defScope st__law_same) := ⟨rfl, rfl, rfl, by decide +kernel, rfl, by decide +kernel, by decide +kernel⟩
abbrev st__law_pairs : Stmt := topS 6
abbrev N__law_pairs : List Str := ["_law_deck_here", "_law_k"]
theorem sc__law_pairs : FnScope N__law_pairs ["_law_deck_here"] (defScope st__law_pairs) := ⟨rfl, rfl, rfl, by decide +kernel, rfl, by decide +kernel, by decide +kernel⟩
abbrev st_law : Stmt := topS 7
abbrev N_law : List Str := ["_law_script", "_law_deck_here", "_law_turn", "_law_due", "_law_before", "_law_first", "_law_second", "_law_k"]
theorem sc_law : FnScope N_law ["_law_script"] (defScope st_law) := ⟨rfl, rfl, rfl, by decide +kernel, rfl, by decide +kernel, by decide +kernel⟩
def B_backward : Ss := (.cons (.ret (.op .tuple (.cons (.lc (.tp (.cons (.nm 1) (.cons (.nm 2) .nil))) (.e (.op .rev (.cons (.x 0) .nil))) .yes (.tup (.cons (.x 2) (.cons (.x 1) .nil))) [1, 2]) .nil))) .nil)
def B__law_same : Ss := (.cons (.ret (.op .eq (.cons (.op .repr (.cons (.x 0) .nil)) (.cons (.op .repr (.cons (.x 1) .nil)) .nil)))) .nil)
def B__law_pairs : Ss := (.cons (.ret (.op .tuple (.cons (.lc (.nm 1) (.rng (.cons (.call 1 (.cons (.x 0) (.cons (.c (.int 11)) .nil))) .nil)) .yes (.tup (.cons (.call 1 (.cons (.x 0) (.cons (.c (.int 12)) .nil))) (.cons (.call 1 (.cons (.x 0) (.cons (.c (.int 12)) .nil))) .nil))) [1]) .nil))) .nil)
def B_law : Ss := (.cons (.lop (.nm 2) (.rng (.cons (.c (.int 20)) .nil)) (.cons (.set (.tp (.cons (.nm 5) (.cons (.nm 6) .nil))) (.tup (.cons (.call 3 (.cons (.x 1) .nil)) (.cons (.call 3 (.cons (.x 1) .nil)) .nil)))) (.cons (.set (.nm 3) (.op .tuple (.cons (.lc (.nm 7) (.rng (.cons (.op .len (.cons (.x 5) .nil)) .nil)) .yes (.op .rev (.cons (.op .idx (.cons (.x 5) (.cons (.op .sub (.cons (.op .sub (.cons (.op .len (.cons (.x 5) .nil)) (.cons (.c (.int 1)) .nil))) (.cons (.x 7) .nil))) .nil))) .nil)) [7]) .nil))) (.cons (.set (.nm 4) (.op .repr (.cons (.lst (.cons (.x 5) (.cons (.x 6) .nil))) .nil))) (.cons (.ite (.or (.not (.e (.call 5 (.cons (.call 4 (.cons (.x 5) .nil)) (.cons (.x 3) .nil))))) (.not (.e (.call 5 (.cons (.call 4 (.cons (.call 4 (.cons (.x 5) .nil)) .nil)) (.cons (.x 5) .nil)))))) (.cons (.ret (.c (.bool false))) .nil) .nil) (.cons (.ite (.or (.not (.e (.call 5 (.cons (.call 4 (.cons (.op .add (.cons (.x 5) (.cons (.x 6) .nil))) .nil)) (.cons (.op .add (.cons (.call 4 (.cons (.x 6) .nil)) (.cons (.x 3) .nil))) .nil))))) (.e (.op .ne (.cons (.op .repr (.cons (.lst (.cons (.x 5) (.cons (.x 6) .nil))) .nil)) (.cons (.x 4) .nil))))) (.cons (.ret (.c (.bool false))) .nil) .nil) .nil)))))) (.cons (.ret (.c (.bool true))) .nil))
section
variable {P : Program} {w : World} {K : PySem.W.Frag} {mg : Str → Option Value} {base : Heap} {xc : XC} {cl : Nat → List PV.Arg → DS → FRes} {k : Nat}
theorem w_backward (z_tuple : mg "tuple" = none) : WalkB P w K mg base N_backward "backward" st_backward xc cl k B_backward := fun f cdv A outer s H E b =>
  (ds_cons (ds_ret (d_tuple b z_tuple (da_cons (d_lc b [("u", 1), ("v", 2)] (di_e (de_rev (d_v 0))) (fun b' => (g_tp b' (dgs_cons (g_nm b' 1) (dgs_cons (g_nm b' 2) dgs_nil)))) (fun b' => dts_nil) (fun b' => (de_tup (da_cons (d_v 2) (da_cons (d_v 1) da_nil))))) da_nil)))
  ds_nil)
theorem w__law_same (z_repr : mg "repr" = none) : WalkB P w K mg base N__law_same "_law_same" st__law_same xc cl k B__law_same := fun f cdv A outer s H E b =>
  (ds_cons (ds_ret (d_eq b (d_repr b z_repr (da_cons (d_v 0) da_nil)) (d_repr b z_repr (da_cons (d_v 1) da_nil))))
  ds_nil)
theorem w__law_pairs (z_range : mg "range" = none) (z_tuple : mg "tuple" = none) (h__law_draw : FnT P w K mg base xc cl k "_law_draw" 1 2) : WalkB P w K mg base N__law_pairs "_law_pairs" st__law_pairs xc cl k B__law_pairs := fun f cdv A outer s H E b =>
  (ds_cons (ds_ret (d_tuple b z_tuple (da_cons (d_lc b [("_law_k", 1)] (i_rng1 b z_range (d_call b h__law_draw (da_cons (d_v 0) (da_cons de_int da_nil)))) (fun b' => (g_nm b' 1)) (fun b' => dts_nil) (fun b' => (de_tup (da_cons (d_call b' h__law_draw (da_cons (d_v 0) (da_cons de_int da_nil))) (da_cons (d_call b' h__law_draw (da_cons (d_v 0) (da_cons de_int da_nil))) da_nil))))) da_nil)))
  ds_nil)
theorem w__law_deck (z_abs : mg "abs" = none) {f : Addr} {cdv : Value} {A : Around} {outer : List PySem.Env} {s : Shared} {H : Hp} {E : XK} : PSs (CxD P w K mg base N__law_deck "_law_deck" st__law_deck f cdv A outer s H E) (defBody st__law_deck) (tDeck K 63) :=
  pss_one (ps_ret (pe_lst (pa_cons (pe_lc rfl sc__law_deck.nd (pi_list (pe_slice sl_list (pv 0) po_none (po_some pe_int))) (blkOk_by (own := [("_law_cell", 1)]) (by with_unfolding_all rfl)) (fun s H C cx fp => pg_name (i := 1) sc__law_deck.nd rfl (.inl rfl)) (fun s H C cx fp => pts_nil) (fun s H C cx fp => pe_callB call_abs (by rfl) z_abs (by rfl) (pa_cons (pv 1) pa_nil))) (pa_cons pe_int pa_nil))))
theorem w__law_draw (z_len : mg "len" = none) {f : Addr} {cdv : Value} {A : Around} {outer : List PySem.Env} {s : Shared} {H : Hp} {E : XK} : PSs (CxD P w K mg base N__law_draw "_law_draw" st__law_draw f cdv A outer s H E) (defBody st__law_draw) (tDrawA K) :=
  pss_cons (ps_asg (pe_op op_add (pe_ix ix_list (pv 0) pe_int (by intro _ _; rfl)) pe_int) (pg_sub (pv 0) pe_int set_list))
  (pss_cons (ps_asg (pe_tup (pa_cons pe_int (pa_cons (pe_un un_neg pe_int) pa_nil))) (pg_tup rfl (pgs_cons (pg_name (i := 2) sc__law_draw.nd rfl (.inl rfl)) (pgs_cons (pg_name (i := 3) sc__law_draw.nd rfl (.inl rfl)) pgs_nil))))
  (pss_cons (ps_if (pt_cmpR op_gt (pe_callB call_len (by rfl) z_len (by rfl) (pa_cons (pe_ix ix_list (pv 0) pe_int (by intro _ _; rfl)) pa_nil)) pe_int (nomark _))
      (pss_cons (ps_set (i := 3) sc__law_draw.nd rfl (.inl rfl) (pe_op op_mod (pe_ix ix_list (pv 0) pe_int (by intro _ _; rfl)) (pe_callB call_len (by rfl) z_len (by rfl) (pa_cons (pe_ix ix_list (pv 0) pe_int (by intro _ _; rfl)) pa_nil))))
        (pss_one (ps_set (i := 2) sc__law_draw.nd rfl (.inl rfl) (pe_ix ix_list (pe_ix ix_list (pv 0) pe_int (by intro _ _; rfl)) (pv 3) (by intro _ _; rfl))))) pss_nil)
  (pss_cons (ps_if (pt_cmpR op_ge (pv 2) (pe_op op_pow pe_int pe_int) (nomark _))
      (pss_cons (ps_asg (pe_op op_fdiv (pv 2) (pv 1)) (pg_sub (pe_ix ix_list (pv 0) pe_int (by intro _ _; rfl)) (pv 3) set_list)) (pss_one (ps_ret (pe_op op_mod (pv 2) (pv 1))))) pss_nil)
  (pss_one (ps_ret (pe_op op_mod (pe_op op_fdiv (pe_op op_mod (pe_op op_pow (pe_op op_add (pe_op op_add (pe_op op_mod (pv 2) pe_int) (pe_op op_mul pe_int (pe_ix ix_list (pv 0) pe_int (by intro _ _; rfl)))) pe_int) pe_int) pe_int) pe_int) (pv 1)))))))
end
def tb : Nat → Option FSem
  | 4 => some (.df ⟨3, 1, B_backward⟩)
  | 5 => some (.df ⟨2, 2, B__law_same⟩)
  | 3 => some (.df ⟨2, 1, B__law_pairs⟩)
  | 1 => some (.prim drawA)
  | _ => none
section
variable {P : Program} {w : World} {K : PySem.W.Frag} {mg : Str → Option Value} {base : Heap} {xc : XC}
structure Txt (K : PySem.W.Frag) (mg : Str → Option Value) : Prop where
  f_backward : ∃ fa fd, Fun K "backward" "backward" st_backward fa fd ∧ mg "backward" = some (.ref fa) ∧ Binds K fd ["slides"] []
  f__law_same : ∃ fa fd, Fun K "_law_same" "_law_same" st__law_same fa fd ∧ mg "_law_same" = some (.ref fa) ∧ Binds K fd ["_law_value", "_law_due"] []
  f__law_pairs : ∃ fa fd, Fun K "_law_pairs" "_law_pairs" st__law_pairs fa fd ∧ mg "_law_pairs" = some (.ref fa) ∧ Binds K fd ["_law_deck_here"] []
  f__law_draw : ∃ fa fd, Fun K "_law_draw" "_law_draw" st__law_draw fa fd ∧ mg "_law_draw" = some (.ref fa) ∧ Binds K fd ["_law_deck_here", "_law_limit"] []
  f__law_deck : ∃ fa fd, Fun K "_law_deck" "_law_deck" st__law_deck fa fd ∧ mg "_law_deck" = some (.ref fa) ∧ Binds K fd ["_law_script"] []
  f_law : ∃ fa fd, Fun K "law" "law" st_law fa fd ∧ mg "law" = some (.ref fa) ∧ Binds K fd ["_law_script"] []
  z_abs : mg "abs" = none
  z_len : mg "len" = none
  z_range : mg "range" = none
  z_repr : mg "repr" = none
  z_tuple : mg "tuple" = none
structure Tab (P : Program) (w : World) (K : PySem.W.Frag) (mg : Str → Option Value) (base : Heap) (xc : XC) (k : Nat) : Prop where
  h_backward : FnT P w K mg base xc (run tb k) k "backward" 4 1
  h__law_same : FnT P w K mg base xc (run tb k) k "_law_same" 5 2
  h__law_pairs : FnT P w K mg base xc (run tb k) k "_law_pairs" 3 1
  h__law_draw : FnT P w K mg base xc (run tb k) k "_law_draw" 1 2
theorem tab (T : Txt K mg) : ∀ k, Tab P w K mg base xc k
  | 0 => by
    refine ⟨?_, ?_, ?_, ?_⟩
    · obtain ⟨fa, fd, F, m, b⟩ := T.f_backward; exact FnT.zero F m b
    · obtain ⟨fa, fd, F, m, b⟩ := T.f__law_same; exact FnT.zero F m b
    · obtain ⟨fa, fd, F, m, b⟩ := T.f__law_pairs; exact FnT.zero F m b
    · obtain ⟨fa, fd, F, m, b⟩ := T.f__law_draw; exact FnT.zero F m b
  | k + 1 => by
    have I := tab T k
    refine ⟨?_, ?_, ?_, ?_⟩
    · obtain ⟨fa, fd, F, m, b⟩ := T.f_backward; exact FnT.walk F m b sc_backward rfl (w_backward T.z_tuple)
    · obtain ⟨fa, fd, F, m, b⟩ := T.f__law_same; exact FnT.walk F m b sc__law_same rfl (w__law_same T.z_repr)
    · obtain ⟨fa, fd, F, m, b⟩ := T.f__law_pairs; exact FnT.walk F m b sc__law_pairs rfl (w__law_pairs T.z_range T.z_tuple I.h__law_draw)
    · obtain ⟨fa, fd, F, m, b⟩ := T.f__law_draw; exact FnT.prim F m b sc__law_draw rfl rfl (fun _ _ h => drawA_len h) fun cdv A outer s H E bd => ⟨_, w__law_draw T.z_len, fun vs Q h => drawA_body rfl h⟩
def LawOk (ns : List Int) : Prop := ∃ m, exs (run tb 6) B_law ⟨(List.replicate 8 Slot.un).set 1 .dk, ⟨ns.map absI, 0, []⟩⟩ = .ok (.rt (.v (.bool true))) m
theorem ok_deck (T : Txt K mg) : ∃ fa fd, FnG P w K mg base (L2.CX P w) 1 fa fd ["_law_script"] (spDeck K) ∧ mg "_law_deck" = some (.ref fa) ∧ PySem.W.keepIn K (.ref fa) = true ∧ Binds K fd ["_law_script"] [] := by
  obtain ⟨fa, fd, F, m, b⟩ := T.f__law_deck
  exact ⟨fa, fd, FnG.walk F sc__law_deck (fun vs H Q E ⟨a, ns, e, _⟩ => by rw [e]; rfl) fun cdv A outer s H E bd => ⟨_, w__law_deck T.z_abs, fun vs Q h => deck_body rfl h⟩, m, F.kp, b⟩
theorem w_law (z_len : mg "len" = none) (z_range : mg "range" = none) (z_repr : mg "repr" = none) (z_tuple : mg "tuple" = none) (h__law_pairs : FnT P w K mg base xc (run tb 6) 6 "_law_pairs" 3 1) (h__law_same : FnT P w K mg base xc (run tb 6) 6 "_law_same" 5 2) (h_backward : FnT P w K mg base xc (run tb 6) 6 "backward" 4 1) {f : Addr} {cdv : Value} {A : Around} {outer : List PySem.Env} {s : Shared} {H : Hp} {E : XK} (b : Bd (CxD P w K mg base N_law "law" st_law f cdv A outer s H E) (fun c d _ H => E c d H) 6) : DSs (CxD P w K mg base N_law "law" st_law f cdv A outer s H E) xc (fun c d _ H => E c d H) (run tb 6) (defBody st_law).tail B_law :=
  (ds_cons (s_for b (i_rng1 b z_range de_int) (g_nm b 2) (ds_cons (ds_unp (g_tp b (dgs_cons (g_nm b 5) (dgs_cons (g_nm b 6) dgs_nil))) (de_tup (da_cons (d_call b h__law_pairs (da_cons (d_v 1) da_nil)) (da_cons (d_call b h__law_pairs (da_cons (d_v 1) da_nil)) da_nil))))
  (ds_cons (s_set b 3 (d_tuple b z_tuple (da_cons (d_lc b [("_law_k", 7)] (i_rng1 b z_range (d_len b z_len (da_cons (d_v 5) da_nil))) (fun b' => (g_nm b' 7)) (fun b' => dts_nil) (fun b' => (de_rev (d_ix b' (d_v 5) (d_sub (d_sub (d_len b' z_len (da_cons (d_v 5) da_nil)) de_int) (d_v 7)))))) da_nil)))
  (ds_cons (s_set b 4 (d_repr b z_repr (da_cons (de_lst (da_cons (d_v 5) (da_cons (d_v 6) da_nil))) da_nil)))
  (ds_cons (ds_if (dt_pw (dw_or (dt_not (dt_tru (d_call b h__law_same (da_cons (d_call b h_backward (da_cons (d_v 5) da_nil)) (da_cons (d_v 3) da_nil))))) (dw_or1 (dt_not (dt_tru (d_call b h__law_same (da_cons (d_call b h_backward (da_cons (d_call b h_backward (da_cons (d_v 5) da_nil)) da_nil)) (da_cons (d_v 5) da_nil)))))))) (ds_cons (ds_ret de_bl)
  ds_nil) ds_nil)
  (ds_cons (ds_if (dt_pw (dw_or (dt_not (dt_tru (d_call b h__law_same (da_cons (d_call b h_backward (da_cons (d_add (d_v 5) (d_v 6)) da_nil)) (da_cons (d_add (d_call b h_backward (da_cons (d_v 6) da_nil)) (d_v 3)) da_nil))))) (dw_or1 (t_ne b (d_repr b z_repr (da_cons (de_lst (da_cons (d_v 5) (da_cons (d_v 6) da_nil))) da_nil)) (d_v 4))))) (ds_cons (ds_ret de_bl)
  ds_nil) ds_nil)
  ds_nil))))))
  (ds_cons (ds_ret de_bl)
  ds_nil))
theorem ok_law (T : Txt K mg) {fa : Addr} {fd : FuncData} (F : Fun K "law" "law" st_law fa fd) : FnG P w K mg base (L2.CX P w) 7 fa fd ["_law_script"] (spLaw K LawOk) := by
  obtain ⟨fd1, fx1, G, hm, hk, hb⟩ := ok_deck (P := P) (w := w) (base := base) T
  have I := tab (P := P) (w := w) (base := base) (xc := fun _ => none) T 6
  refine FnG.walk F sc_law (fun vs H Q E ⟨a, ns, e, _⟩ => by rw [e]; rfl) fun cdv A outer s H E b => ⟨_, pss_cons (ps_set (i := 1) sc_law.nd rfl (by first | exact Or.inl rfl | exact Or.inr rfl) (pe_callG (E := fun σ c d H => E c d H) G b.ok.gd (b.room.mono (by decide)) (by rfl) hm hk hb (fun σ => L2.passAt b.takes σ) (pa_cons (pv 0) pa_nil))) (w_law T.z_len T.z_range T.z_repr T.z_tuple I.h__law_pairs I.h__law_same I.h_backward b), fun vs Q h => ?_⟩
  exact law_body (N := N_law) (by decide) (by decide) h
end
theorem all_mk {P : Program} {w : World} {K : PySem.W.Frag} {h : Heap} {mg : Str → Option Value} {fa : Addr} {f0 : Addr} {f1 : Addr} {f2 : Addr} {f3 : Addr} {f4 : Addr} {f5 : Addr} (X : K.In h) (G : h.Ns mainGlobals mg) (hfa : mg "law" = some (.ref fa))
    {od0 an0 : Option Addr} {sl0 : Array (Option Value)} {oc0 kV0 dc0 pm0 cd0 ct0 : Value}
    {od1 an1 : Option Addr} {sl1 : Array (Option Value)} {oc1 kV1 dc1 pm1 cd1 ct1 : Value}
    {od2 an2 : Option Addr} {sl2 : Array (Option Value)} {oc2 kV2 dc2 pm2 cd2 ct2 : Value}
    {od3 an3 : Option Addr} {sl3 : Array (Option Value)} {oc3 kV3 dc3 pm3 cd3 ct3 : Value}
    {od4 an4 : Option Addr} {sl4 : Array (Option Value)} {oc4 kV4 dc4 pm4 cd4 ct4 : Value}
    {od5 an5 : Option Addr} {sl5 : Array (Option Value)} {oc5 kV5 dc5 pm5 cd5 ct5 : Value}
    (a0 : PySem.W.nsIn K mainGlobals "backward" = some (some (.ref f0))) (l0 : K.lookup f0 = some ⟨oc0, od0, .func (PySem.W.fnOf "backward" "backward" (defArgs st_backward) (defBody st_backward) (defScope st_backward) .none kV0 dc0 pm0 an0 cd0 ct0), sl0⟩) (c0 : PySem.W.codeIn K cd0 "backward" = true) (k0 : PySem.W.keepIn K (.ref f0) = true)
    (a1 : PySem.W.nsIn K mainGlobals "_law_same" = some (some (.ref f1))) (l1 : K.lookup f1 = some ⟨oc1, od1, .func (PySem.W.fnOf "_law_same" "_law_same" (defArgs st__law_same) (defBody st__law_same) (defScope st__law_same) .none kV1 dc1 pm1 an1 cd1 ct1), sl1⟩) (c1 : PySem.W.codeIn K cd1 "_law_same" = true) (k1 : PySem.W.keepIn K (.ref f1) = true)
    (a2 : PySem.W.nsIn K mainGlobals "_law_pairs" = some (some (.ref f2))) (l2 : K.lookup f2 = some ⟨oc2, od2, .func (PySem.W.fnOf "_law_pairs" "_law_pairs" (defArgs st__law_pairs) (defBody st__law_pairs) (defScope st__law_pairs) .none kV2 dc2 pm2 an2 cd2 ct2), sl2⟩) (c2 : PySem.W.codeIn K cd2 "_law_pairs" = true) (k2 : PySem.W.keepIn K (.ref f2) = true)
    (a3 : PySem.W.nsIn K mainGlobals "_law_draw" = some (some (.ref f3))) (l3 : K.lookup f3 = some ⟨oc3, od3, .func (PySem.W.fnOf "_law_draw" "_law_draw" (defArgs st__law_draw) (defBody st__law_draw) (defScope st__law_draw) .none kV3 dc3 pm3 an3 cd3 ct3), sl3⟩) (c3 : PySem.W.codeIn K cd3 "_law_draw" = true) (k3 : PySem.W.keepIn K (.ref f3) = true)
    (a4 : PySem.W.nsIn K mainGlobals "_law_deck" = some (some (.ref f4))) (l4 : K.lookup f4 = some ⟨oc4, od4, .func (PySem.W.fnOf "_law_deck" "_law_deck" (defArgs st__law_deck) (defBody st__law_deck) (defScope st__law_deck) .none kV4 dc4 pm4 an4 cd4 ct4), sl4⟩) (c4 : PySem.W.codeIn K cd4 "_law_deck" = true) (k4 : PySem.W.keepIn K (.ref f4) = true)
    (a5 : PySem.W.nsIn K mainGlobals "law" = some (some (.ref f5))) (l5 : K.lookup f5 = some ⟨oc5, od5, .func (PySem.W.fnOf "law" "law" (defArgs st_law) (defBody st_law) (defScope st_law) .none kV5 dc5 pm5 an5 cd5 ct5), sl5⟩) (c5 : PySem.W.codeIn K cd5 "law" = true) (k5 : PySem.W.keepIn K (.ref f5) = true)
    (z0 : PySem.W.nsIn K mainGlobals "abs" = some none)
    (z1 : PySem.W.nsIn K mainGlobals "len" = some none)
    (z2 : PySem.W.nsIn K mainGlobals "range" = some none)
    (z3 : PySem.W.nsIn K mainGlobals "repr" = some none)
    (z4 : PySem.W.nsIn K mainGlobals "tuple" = some none)
    : ∃ fd : FuncData, (∀ (s : Shared) (v : Value), BindsTo s fd ⟨[v], []⟩ [("_law_script", v)]) ∧ ∀ base : Heap, K.In base → base.Ns mainGlobals mg → FnG P w K mg base (L2.CX P w) 7 fa fd ["_law_script"] (spLaw K LawOk) := by
  have e := hfa.symm.trans (PySem.W.mg_of X G a5)
  cases e
  have T : Txt K mg := ⟨⟨_, _, fun_mk (st := st_backward) l0 c0 k0, PySem.W.mg_of X G a0, (fun_mk (st := st_backward) l0 c0 k0).binds (ps := ["slides"]) fun _ _ _ _ _ _ us hl => match us, hl with | [_], _ => rfl⟩,
    ⟨_, _, fun_mk (st := st__law_same) l1 c1 k1, PySem.W.mg_of X G a1, (fun_mk (st := st__law_same) l1 c1 k1).binds (ps := ["_law_value", "_law_due"]) fun _ _ _ _ _ _ us hl => match us, hl with | [_, _], _ => rfl⟩,
    ⟨_, _, fun_mk (st := st__law_pairs) l2 c2 k2, PySem.W.mg_of X G a2, (fun_mk (st := st__law_pairs) l2 c2 k2).binds (ps := ["_law_deck_here"]) fun _ _ _ _ _ _ us hl => match us, hl with | [_], _ => rfl⟩,
    ⟨_, _, fun_mk (st := st__law_draw) l3 c3 k3, PySem.W.mg_of X G a3, (fun_mk (st := st__law_draw) l3 c3 k3).binds (ps := ["_law_deck_here", "_law_limit"]) fun _ _ _ _ _ _ us hl => match us, hl with | [_, _], _ => rfl⟩,
    ⟨_, _, fun_mk (st := st__law_deck) l4 c4 k4, PySem.W.mg_of X G a4, (fun_mk (st := st__law_deck) l4 c4 k4).binds (ps := ["_law_script"]) fun _ _ _ _ _ _ us hl => match us, hl with | [_], _ => rfl⟩,
    ⟨_, _, fun_mk (st := st_law) l5 c5 k5, PySem.W.mg_of X G a5, (fun_mk (st := st_law) l5 c5 k5).binds (ps := ["_law_script"]) fun _ _ _ _ _ _ us hl => match us, hl with | [_], _ => rfl⟩,
    PySem.W.mg_none_of X G z0,
    PySem.W.mg_none_of X G z1,
    PySem.W.mg_none_of X G z2,
    PySem.W.mg_none_of X G z3,
    PySem.W.mg_none_of X G z4⟩
  exact ⟨_, fun s v => .of_eq rfl, fun base _ _ => ok_law T (fun_mk (st := st_law) l5 c5 k5)⟩
/-! the plain law -/
def swp (p : Int × Int) : Int × Int := (p.2, p.1)
def swD : PyData → PyData
  | .tuple [a, b] => .tuple [b, a]
  | d => d
def T (ps : List (Int × Int)) : PyData := .tuple (ps.map pr)
def bk (ps : List (Int × Int)) : List (Int × Int) := ps.reverse.map swp
theorem swD_map (ps : List (Int × Int)) : (ps.map pr).reverse.map swD = (bk ps).map pr := by
  unfold bk
  rw [← List.map_reverse, List.map_map, List.map_map]; rfl
theorem bk_len (ps : List (Int × Int)) : (bk ps).length = ps.length := by simp [bk]
theorem bk_bk (ps : List (Int × Int)) : bk (bk ps) = ps := by
  unfold bk
  rw [← List.map_reverse, List.reverse_reverse, List.map_map]
  have : swp ∘ swp = id := rfl
  rw [this, List.map_id]
theorem bk_app (ps qs : List (Int × Int)) : bk (ps ++ qs) = bk qs ++ bk ps := by simp [bk]
theorem backward_ok {k : Nat} {s : DS} (ps : List (Int × Int)) (hl : ps.length ≤ 20) : PV.run tb (k + 1) 4 [.sh (T ps)] s = .ok (.v (T (bk ps))) s := by
  have hl' : (ps.map pr).reverse.length ≤ LIM := by simp [LIM]; omega
  refine runB_rt (ns := 3) (np := 1) (b := B_backward) rfl (exs_ret (ev_op (evs_one (ev_lc (ds := (ps.map pr).reverse) (src := none) (m1 := ⟨[.sh (T ps), .un, .un], s⟩) rfl rfl hl' (lcL_map (f := swD) _ _ fun d hd => ?_))) rfl)) ?_
  · obtain ⟨p, _, rfl⟩ := List.mem_map.mp (List.mem_reverse.mp hd)
    exact ⟨⟨[.sh (T ps), .sh (.int p.1), .sh (.int p.2)], s⟩, .v (.tuple [.int p.2, .int p.1]), ⟨[.sh (T ps), .sh (.int p.1), .sh (.int p.2)], s⟩, [.sh (T ps), .sh (.int p.1), .sh (.int p.2)], rfl, by simp [ev, evs, escs, esc, LIM], rfl, rfl, rfl⟩
  · rw [List.nil_append, swD_map]; rfl
def Sm (ps : List (Int × Int)) : Prop := ps.length ≤ 10 ∧ ∀ p ∈ ps, (0 ≤ p.1 ∧ p.1 < 12) ∧ (0 ≤ p.2 ∧ p.2 < 12)
def Md (ps : List (Int × Int)) : Prop := ps.length ≤ 20 ∧ ∀ p ∈ ps, (0 ≤ p.1 ∧ p.1 < 12) ∧ (0 ≤ p.2 ∧ p.2 < 12)
theorem Sm.md {ps : List (Int × Int)} (h : Sm ps) : Md ps := ⟨by have := h.1; omega, h.2⟩
theorem Md.bk {ps : List (Int × Int)} (h : Md ps) : Md (bk ps) := ⟨by rw [bk_len]; exact h.1, fun p hp => by
  obtain ⟨q, hq, rfl⟩ := List.mem_map.mp hp
  have := h.2 q (List.mem_reverse.mp hq)
  exact ⟨this.2, this.1⟩⟩
theorem Sm.app {ps qs : List (Int × Int)} (h : Sm ps) (h' : Sm qs) : Md (ps ++ qs) := ⟨by have := h.1; have := h'.1; simp; omega, fun p hp => (List.mem_append.mp hp).elim (h.2 p) (h'.2 p)⟩
theorem rp_T {ps : List (Int × Int)} (h : Md ps) : Rp 2000 2 (T ps) := by
  refine (Rp.tuple (n := 20) (w := 82) (k := 1) (fun x hx => ?_) (by simpa using h.1)).mono (by decide) (Nat.le_refl _)
  obtain ⟨p, hp, rfl⟩ := List.mem_map.mp hx
  have := h.2 p hp
  refine (Rp.tuple (n := 2) (w := 40) (k := 0) (xs := [.int p.1, .int p.2]) (fun x hx => ?_) (Nat.le_refl _)).mono (by decide) (Nat.le_refl _)
  rcases List.mem_cons.mp hx with rfl | hx
  · exact Rp.int (by omega) (by omega)
  · rcases List.mem_cons.mp hx with rfl | hx
    · exact Rp.int (by omega) (by omega)
    · cases hx
theorem same_T {k : Nat} {s : DS} {ps : List (Int × Int)} (h : Md ps) : PV.run tb (k + 1) 5 [.sh (T ps), .sh (T ps)] s = .ok (.v (.bool true)) s := same_ok (rp_T h) (by decide) (by decide)
theorem draw_e {k b : Nat} {n : Int} {e : PV.Env} {s : DS} {i : Nat} (h1 : 0 < n) (h2 : n < 1073741824) (h : CB b s) (hb : b ≤ 1000000000) (hi : e[i]? = some .dk) :
    ∃ r s', ev (PV.run tb (k + 1)) (.call 1 (.cons (.x i) (.cons (.c (.int n)) .nil))) ⟨e, s⟩ = .ok (.v (.int r)) ⟨e, s'⟩ ∧ 0 ≤ r ∧ r < n ∧ CB (b + 1) s' := by
  obtain ⟨r, s', q1, q2, q3, q4⟩ := draw_cb h1 h2 h hb
  refine ⟨r, s', ev_call (rs := [.dk, .v (.int n)]) (as := [.dk, .sh (.int n)]) (m1 := ⟨e, s⟩) (evs_c (m1 := ⟨e, s⟩) ?_ (evs_one rfl)) rfl q1 rfl ⟨rfl, by simp⟩, q2, q3, q4⟩
  simp only [ev, hi]
theorem pairs_ok {k b : Nat} {s : DS} (h : CB b s) (hb : b ≤ 1000000) : ∃ ps s', PV.run tb (k + 2) 3 [.dk] s = .ok (.v (T ps)) s' ∧ Sm ps ∧ CB (b + 21) s' := by
  obtain ⟨r, s1, q1, q2, q3, q4⟩ := draw_e (k := k) (n := 11) (e := [.dk, .un]) (i := 0) (by decide) (by decide) h (by omega) rfl
  let ds : List PyData := (List.range r.toNat).map fun (j : Nat) => .int (0 + (j : Int))
  have hr : rngD [.v (.int r)] = some ds := by
    exact rng1_ok (by omega) (by omega)
  have hI : evI (PV.run tb (k + 1)) (.rng (.cons (.call 1 (.cons (.x 0) (.cons (.c (.int 11)) .nil))) .nil)) ⟨[.dk, .un], s⟩ = .ok (ds, none) ⟨[.dk, .un], s1⟩ := by
    exact evI_rng (evs_one q1) hr
  have hl : ds.length = r.toNat := by simp [ds]
  have el : ∀ (s : DS) (d : PyData) (i : Nat), i < 10 → CB (b + 1 + 2 * i) s → ∃ x y s2, ev (PV.run tb (k + 1)) (.tup (.cons (.call 1 (.cons (.x 0) (.cons (.c (.int 12)) .nil))) (.cons (.call 1 (.cons (.x 0) (.cons (.c (.int 12)) .nil))) .nil))) ⟨[.dk, .sh d], s⟩ = .ok (.v (.tuple [.int x, .int y])) ⟨[.dk, .sh d], s2⟩ ∧ (0 ≤ x ∧ x < 12) ∧ (0 ≤ y ∧ y < 12) ∧ CB (b + 1 + 2 * (i + 1)) s2 := fun s d i hi hs => by
    obtain ⟨x, s2, x1, x2, x3, x4⟩ := draw_e (k := k) (n := 12) (e := [.dk, .sh d]) (i := 0) (by decide) (by decide) hs (by omega) rfl
    obtain ⟨y, s3, y1, y2, y3, y4⟩ := draw_e (k := k) (n := 12) (e := [.dk, .sh d]) (i := 0) (by decide) (by decide) x4 (by omega) rfl
    refine ⟨x, y, s3, ?_, ⟨x2, x3⟩, ⟨y2, y3⟩, y4⟩
    simp only [ev, evs_c x1 (evs_one y1)]
    simp [escs, esc, LIM]
  have hl10 : ds.length ≤ 10 := by omega
  obtain ⟨xs, s', w1, w2, w3, w4⟩ := lcL_draw (own := [1]) (bd := fun d m => match bind1 m.e (.nm 1) d with
            | some e => evT (PV.run tb (k + 1)) .yes ⟨e, m.s⟩
            | none => .bad) (el := fun m => ev (PV.run tb (k + 1)) (.tup (.cons (.call 1 (.cons (.x 0) (.cons (.c (.int 12)) .nil))) (.cons (.call 1 (.cons (.x 0) (.cons (.c (.int 12)) .nil))) .nil))) m) (e := [.dk, .un])
      (Y := fun x => ∃ a b, x = .tuple [.int a, .int b] ∧ (0 ≤ a ∧ a < 12) ∧ (0 ≤ b ∧ b < 12)) (fun i s => CB (b + 1 + 2 * i) s) 10 ds [] 0 s1 q4 (by omega) (fun i s d hi hd hj => by
    obtain ⟨x, y, s2, e1, e2, e3, e4⟩ := el s d i hi hj
    exact ⟨⟨[.dk, .sh d], s⟩, _, ⟨[.dk, .sh d], s2⟩, [.dk, .sh d], _, rfl, e1, rfl, rfl, ⟨x, y, rfl, e2, e3⟩, e4⟩)
  obtain ⟨ps, rfl, hps⟩ := prs_of (C := fun a => 0 ≤ a ∧ a < 12) w3
  rw [List.length_map] at w2
  refine ⟨ps, s', runB_rt (ns := 2) (np := 1) (b := B__law_pairs) rfl (exs_ret (ev_op (evs_one (ev_lc (ds := ds) (src := none) (acc := ps.map pr) hI rfl (by simp [LIM]; omega) w1)) rfl)) rfl, ⟨by omega, hps⟩, w4.mono (by omega)⟩
theorem call1 {cl : Nat → List PV.Arg → DS → FRes} {f : Nat} {a : E} {m m1 : M} {d d' : PyData} (h : ev cl a m = .ok (.v d) m1) (hc : cl f [.sh d] m1.s = .ok (.v d') m1.s) : ev cl (.call f (.cons a .nil)) m = .ok (.v d') m1 := ev_call (evs_one h) rfl hc rfl ⟨rfl, by simp⟩
theorem call2 {cl : Nat → List PV.Arg → DS → FRes} {f : Nat} {a b : E} {m m1 m2 : M} {d1 d2 d' : PyData} (h : ev cl a m = .ok (.v d1) m1) (h2 : ev cl b m1 = .ok (.v d2) m2) (hc : cl f [.sh d1, .sh d2] m2.s = .ok (.v d') m2.s) : ev cl (.call f (.cons a (.cons b .nil))) m = .ok (.v d') m2 := ev_call (evs_c h (evs_one h2)) rfl hc rfl ⟨rfl, by simp⟩
/-- not same(x, y), where they are the same -/
theorem nots {a b : E} {m : M} {ps : List (Int × Int)} (hp : Md ps) (h : ev (PV.run tb 6) a m = .ok (.v (T ps)) m) (h2 : ev (PV.run tb 6) b m = .ok (.v (T ps)) m) : evT (PV.run tb 6) (.not (.e (.call 5 (.cons a (.cons b .nil))))) m = .ok false m :=
  evT_not (k := true) (evT_e (d := .bool true) (call2 h h2 (same_T (k := 5) hp)) rfl rfl)
/-- in an env where first stands at 5 -/
theorem len5 {cl : Nat → List PV.Arg → DS → FRes} {ps : List (Int × Int)} {e : PV.Env} {s : DS} (h5 : e[5]? = some (.sh (T ps))) : ev cl (.op .len (.cons (.x 5) .nil)) ⟨e, s⟩ = .ok (.v (.int ps.length)) ⟨e, s⟩ := by
  refine ev_op (rs := [.v (T ps)]) (m1 := ⟨e, s⟩) (evs_one (by simp only [ev, h5])) ?_
  rw [opE_of rfl (ds := [T ps]) rfl]
  show some (R.v (.int ((ps.map pr).length : Nat))) = _
  rw [List.length_map]
def duF (ps : List (Int × Int)) : PyData → PyData
  | .int j => ((bk ps).map pr).getD j.toNat .none
  | x => x
def rgD (n : Nat) : List PyData := (List.range (n : Int).toNat).map fun (j : Nat) => .int (0 + (j : Int))
theorem duF_map (ps : List (Int × Int)) : (rgD ps.length).map (duF ps) = (bk ps).map pr := by
  refine List.ext_getElem? fun j => ?_
  unfold rgD
  rw [List.map_map, List.getElem?_map, List.getElem?_map, Int.toNat_natCast]
  by_cases hj : j < ps.length
  · rw [List.getElem?_range hj, List.getElem?_eq_getElem (by rw [bk_len]; exact hj)]
    have : (0 + (j : Int)).toNat = j := by omega
    show some (((bk ps).map pr).getD (0 + (j : Int)).toNat .none) = _
    rw [this, List.getD_eq_getElem?_getD, List.getElem?_map, List.getElem?_eq_getElem (by rw [bk_len]; exact hj)]
    rfl
  · rw [List.getElem?_eq_none (by simpa using hj), List.getElem?_eq_none (by rw [bk_len]; omega)]
    rfl
def iDue : E := .op .idx (.cons (.x 5) (.cons (.op .sub (.cons (.op .sub (.cons (.op .len (.cons (.x 5) .nil)) (.cons (.c (.int 1)) .nil))) (.cons (.x 7) .nil))) .nil))
theorem item_ok {cl : Nat → List PV.Arg → DS → FRes} {ps : List (Int × Int)} {e : PV.Env} {s : DS} {j : Nat} (h5 : e[5]? = some (.sh (T ps))) (h7 : e[7]? = some (.sh (.int (0 + (j : Int))))) (hj : j < ps.length) : ev cl iDue ⟨e, s⟩ = .ok (.v (pr ps[ps.length - 1 - j])) ⟨e, s⟩ := by
  have x5 : ev cl (.x 5) ⟨e, s⟩ = .ok (.v (T ps)) ⟨e, s⟩ := by simp only [ev, h5]
  have x7 : ev cl (.x 7) ⟨e, s⟩ = .ok (.v (.int (0 + (j : Int)))) ⟨e, s⟩ := by simp only [ev, h7]
  have s1 : ev cl (.op .sub (.cons (.op .len (.cons (.x 5) .nil)) (.cons (.c (.int 1)) .nil))) ⟨e, s⟩ = .ok (.v (.int ((ps.length : Int) - 1))) ⟨e, s⟩ := ev_op (evs_c (len5 h5) (evs_one rfl)) (opE_v rfl rfl rfl)
  have s2 : ev cl (.op .sub (.cons (.op .sub (.cons (.op .len (.cons (.x 5) .nil)) (.cons (.c (.int 1)) .nil))) (.cons (.x 7) .nil))) ⟨e, s⟩ = .ok (.v (.int ((ps.length : Int) - 1 - (0 + (j : Int))))) ⟨e, s⟩ := ev_op (evs_c s1 (evs_one x7)) (opE_v rfl rfl rfl)
  have e5 : (ps.length : Int) - 1 - (0 + (j : Int)) = ((ps.length - 1 - j : Nat) : Int) := by omega
  rw [e5] at s2
  refine ev_op (evs_c x5 (evs_one s2)) ?_
  rw [opE_of rfl (ds := [T ps, .int ((ps.length - 1 - j : Nat) : Int)]) rfl]
  show (pick (ps.map pr) ((ps.length - 1 - j : Nat) : Int)).map R.v = _
  rw [pick_nat (d := pr ps[ps.length - 1 - j]) (by rw [List.getElem?_map, List.getElem?_eq_getElem (by omega)]; rfl)]
  rfl
theorem duF_at {ps : List (Int × Int)} {j : Nat} (hj : j < ps.length) : duF ps (.int (0 + (j : Int))) = pr (swp ps[ps.length - 1 - j]) := by
  have : (0 + (j : Int)).toNat = j := by omega
  show ((bk ps).map pr).getD (0 + (j : Int)).toNat .none = _
  rw [this, List.getD_eq_getElem?_getD, List.getElem?_map, List.getElem?_eq_getElem (by rw [bk_len]; exact hj)]
  simp [bk]
def iDueL : E := .op .tuple (.cons (.lc (.nm 7) (.rng (.cons (.op .len (.cons (.x 5) .nil)) .nil)) .yes (.op .rev (.cons iDue .nil)) [7]) .nil)
theorem due_ok {cl : Nat → List PV.Arg → DS → FRes} {ps : List (Int × Int)} {s : DS} {a2 a3 a4 a6 : PV.Slot} (hl : ps.length ≤ 20) : ev cl iDueL ⟨[.un, .dk, a2, a3, a4, .sh (T ps), a6, .un], s⟩ = .ok (.v (T (bk ps))) ⟨[.un, .dk, a2, a3, a4, .sh (T ps), a6, .un], s⟩ := by
  have hr : rngD [.v (.int ps.length)] = some (rgD ps.length) := rng1_ok (by omega) (by omega)
  have hI : evI cl (.rng (.cons (.op .len (.cons (.x 5) .nil)) .nil)) ⟨[.un, .dk, a2, a3, a4, .sh (T ps), a6, .un], s⟩ = .ok (rgD ps.length, none) ⟨[.un, .dk, a2, a3, a4, .sh (T ps), a6, .un], s⟩ := by
    exact evI_rng (evs_one (len5 (ps := ps) (e := [.un, .dk, a2, a3, a4, .sh (T ps), a6, .un]) rfl)) hr
  have hlc := lcL_map (own := [7]) (bd := fun d m => match bind1 m.e (.nm 7) d with
            | some e => evT cl .yes ⟨e, m.s⟩
            | none => .bad) (el := fun m => ev cl (.op .rev (.cons iDue .nil)) m) (e := [.un, .dk, a2, a3, a4, .sh (T ps), a6, .un]) (s := s) (f := duF ps) (rgD ps.length) [] (fun x hx => by
      obtain ⟨j, hj, rfl⟩ := List.mem_map.mp hx
      have hj : j < ps.length := by simpa using List.mem_range.mp hj
      have i2 := item_ok (cl := cl) (ps := ps) (e := [.un, .dk, a2, a3, a4, .sh (T ps), a6, .sh (.int (0 + (j : Int)))]) (s := s) rfl rfl hj
      have i3 : ev cl (.op .rev (.cons iDue .nil)) ⟨[.un, .dk, a2, a3, a4, .sh (T ps), a6, .sh (.int (0 + (j : Int)))], s⟩ = .ok (.v (pr (swp ps[ps.length - 1 - j]))) ⟨[.un, .dk, a2, a3, a4, .sh (T ps), a6, .sh (.int (0 + (j : Int)))], s⟩ := ev_op (evs_one i2) (opE_v rfl rfl rfl)
      refine ⟨_, _, _, [.un, .dk, a2, a3, a4, .sh (T ps), a6, .sh (.int (0 + (j : Int)))], rfl, i3, ?_, rfl, rfl⟩
      rw [duF_at hj]
      rfl)
  rw [duF_map, List.nil_append] at hlc
  exact ev_op (evs_one (ev_lc (t := .nm 7) (c := .yes) (own := [7]) (m2 := ⟨[.un, .dk, a2, a3, a4, .sh (T ps), a6, .un], s⟩) hI rfl (by simp [rgD, LIM]; omega) hlc)) (opE_v rfl rfl rfl)
def bdy : Ss := match B_law with
  | .cons (.lop _ _ bd) _ => bd
  | _ => .nil
theorem rp_L {ps qs : List (Int × Int)} (h : Md ps) (h' : Md qs) : Rp 4002 3 (.list [T ps, T qs]) := by
  refine (Rp.list (n := 2) (w := 2000) (k := 2) (fun x hx => ?_) (Nat.le_refl _)).mono (by decide) (Nat.le_refl _)
  rcases List.mem_cons.mp hx with rfl | hx
  · exact rp_T h
  · rcases List.mem_cons.mp hx with rfl | hx
    · exact rp_T h'
    · cases hx
theorem bef_ok {cl : Nat → List PV.Arg → DS → FRes} {ps qs : List (Int × Int)} {e : PV.Env} {s : DS} (h : Md ps) (h' : Md qs) (h5 : e[5]? = some (.sh (T ps))) (h6 : e[6]? = some (.sh (T qs))) :
    ev cl (.op .repr (.cons (.lst (.cons (.x 5) (.cons (.x 6) .nil))) .nil)) ⟨e, s⟩ = .ok (.v (.str (PyData.list [T ps, T qs]).shown)) ⟨e, s⟩ := by
  refine ev_repr (d := .list [T ps, T qs]) (r := .fl [T ps, T qs]) ?_ rfl (rp_L h h') (by decide) (by decide)
  simp only [ev, evs, h5, h6, escs, esc]
  simp [LIM]
theorem add_ok {cl : Nat → List PV.Arg → DS → FRes} {a b : E} {m : M} {rs us : List (Int × Int)} (hl : rs.length + us.length ≤ 20) (h : ev cl a m = .ok (.v (T rs)) m) (h2 : ev cl b m = .ok (.v (T us)) m) : ev cl (.op .add (.cons a (.cons b .nil))) m = .ok (.v (T (rs ++ us))) m := by
  refine ev_op (evs_c h (evs_one h2)) ?_
  rw [opE_of rfl (ds := [T rs, T us]) rfl]
  show (if (rs.map pr).length + (us.map pr).length ≤ LIM then some (R.v (.tuple (rs.map pr ++ us.map pr))) else none) = _
  rw [if_pos (by simp [LIM]; omega), ← List.map_append]; rfl
theorem bw_ok {a : E} {m : M} {rs : List (Int × Int)} (hm : Md rs) (h : ev (PV.run tb 6) a m = .ok (.v (T rs)) m) : ev (PV.run tb 6) (.call 4 (.cons a .nil)) m = .ok (.v (T (bk rs))) m := call1 h (backward_ok (k := 5) _ hm.1)
/-- one turn -/
theorem turn_ok {b : Nat} {s : DS} {a3 a4 a5 a6 : PV.Slot} {d : PyData} (h : CB b s) (hb : b ≤ 900000) : ∃ b3 b4 b5 b6 s', exs (PV.run tb 6) bdy ⟨[.un, .dk, .sh d, a3, a4, a5, a6, .un], s⟩ = .ok .nx ⟨[.un, .dk, .sh d, b3, b4, b5, b6, .un], s'⟩ ∧ CB (b + 42) s' := by
  obtain ⟨ps, s1, p1, p2, p3⟩ := pairs_ok (k := 4) h (by omega)
  obtain ⟨qs, s2, q1, q2, q3⟩ := pairs_ok (k := 4) p3 (by omega)
  have c1 : ev (PV.run tb 6) (.call 3 (.cons (.x 1) .nil)) ⟨[.un, .dk, .sh d, a3, a4, a5, a6, .un], s⟩ = .ok (.v (T ps)) ⟨[.un, .dk, .sh d, a3, a4, a5, a6, .un], s1⟩ := ev_call (rs := [.dk]) (as := [.dk]) (m1 := ⟨[.un, .dk, .sh d, a3, a4, a5, a6, .un], s⟩) (evs_one rfl) rfl p1 rfl ⟨rfl, by simp⟩
  have c2 : ev (PV.run tb 6) (.call 3 (.cons (.x 1) .nil)) ⟨[.un, .dk, .sh d, a3, a4, a5, a6, .un], s1⟩ = .ok (.v (T qs)) ⟨[.un, .dk, .sh d, a3, a4, a5, a6, .un], s2⟩ := ev_call (rs := [.dk]) (as := [.dk]) (m1 := ⟨[.un, .dk, .sh d, a3, a4, a5, a6, .un], s1⟩) (evs_one rfl) rfl q1 rfl ⟨rfl, by simp⟩
  have t1 : ev (PV.run tb 6) (.tup (.cons (.call 3 (.cons (.x 1) .nil)) (.cons (.call 3 (.cons (.x 1) .nil)) .nil))) ⟨[.un, .dk, .sh d, a3, a4, a5, a6, .un], s⟩ = .ok (.v (.tuple [T ps, T qs])) ⟨[.un, .dk, .sh d, a3, a4, a5, a6, .un], s2⟩ := by
    simp only [ev, evs_c c1 (evs_one c2)]
    simp [escs, esc, LIM]
  generalize hw : (PyData.list [T ps, T qs]).shown = w
  have d1 := due_ok (cl := PV.run tb 6) (ps := ps) (s := s2) (a2 := .sh d) (a3 := a3) (a4 := a4) (a6 := .sh (T qs)) (by have := p2.1; omega)
  have b1 := bef_ok (cl := PV.run tb 6) (s := s2) (e := [.un, .dk, .sh d, .sh (T (bk ps)), a4, .sh (T ps), .sh (T qs), .un]) p2.md q2.md rfl rfl
  have b2 := bef_ok (cl := PV.run tb 6) (s := s2) (e := [.un, .dk, .sh d, .sh (T (bk ps)), .sh (.str w), .sh (T ps), .sh (T qs), .un]) p2.md q2.md rfl rfl
  rw [hw] at b1 b2
  have l20 : ps.length + qs.length ≤ 20 := by have := p2.1; have := q2.1; omega
  have hm := p2.app q2
  have u1 : exs (PV.run tb 6) bdy ⟨[.un, .dk, .sh d, a3, a4, a5, a6, .un], s⟩ = _ := exs_c (ex_unp (e := [.un, .dk, .sh d, a3, a4, .sh (T ps), .sh (T qs), .un]) t1 rfl rfl)
  have u2 := exs_c (cl := PV.run tb 6) (ss := match bdy with | .cons _ (.cons _ r) => r | _ => .nil) (ex_set (i := 3) (e := [.un, .dk, .sh d, .sh (T (bk ps)), a4, .sh (T ps), .sh (T qs), .un]) d1 rfl)
  have u3 := exs_c (cl := PV.run tb 6) (ss := match bdy with | .cons _ (.cons _ (.cons _ r)) => r | _ => .nil) (ex_set (i := 4) (e := [.un, .dk, .sh d, .sh (T (bk ps)), .sh (.str w), .sh (T ps), .sh (T qs), .un]) b1 rfl)
  generalize he : ([.un, .dk, .sh d, .sh (T (bk ps)), .sh (.str w), .sh (T ps), .sh (T qs), .un] : PV.Env) = e3 at u3 b2
  have x5 : ev (PV.run tb 6) (.x 5) ⟨e3, s2⟩ = .ok (.v (T ps)) ⟨e3, s2⟩ := by rw [← he]; rfl
  have x6 : ev (PV.run tb 6) (.x 6) ⟨e3, s2⟩ = .ok (.v (T qs)) ⟨e3, s2⟩ := by rw [← he]; rfl
  have x3 : ev (PV.run tb 6) (.x 3) ⟨e3, s2⟩ = .ok (.v (T (bk ps))) ⟨e3, s2⟩ := by rw [← he]; rfl
  have x4 : ev (PV.run tb 6) (.x 4) ⟨e3, s2⟩ = .ok (.v (.str w)) ⟨e3, s2⟩ := by rw [← he]; rfl
  have n1 := nots p2.md.bk (bw_ok p2.md x5) x3
  have n2 := bw_ok p2.md.bk (bw_ok p2.md x5)
  rw [bk_bk] at n2
  have n3 := add_ok (by rw [bk_len, bk_len]; omega) (bw_ok q2.md x6) x3
  rw [← bk_app] at n3
  have v1 : evT (PV.run tb 6) (.or _ _) ⟨e3, s2⟩ = .ok false ⟨e3, s2⟩ := evT_or n1 (fun _ => nots p2.md n2 x5) (fun z => nomatch z)
  have ne : ev (PV.run tb 6) (.op .ne (.cons (.op .repr (.cons (.lst (.cons (.x 5) (.cons (.x 6) .nil))) .nil)) (.cons (.x 4) .nil))) ⟨e3, s2⟩ = .ok (.v (.bool false)) ⟨e3, s2⟩ := by
    refine ev_op (evs_c b2 (evs_one x4)) ?_
    rw [opE_of rfl (ds := [.str w, .str w]) rfl]
    exact (ne_str (a := w) (b := w)).trans (by rw [decide_eq_true rfl]; rfl)
  have v2 : evT (PV.run tb 6) (.or _ (.e (.op .ne (.cons (.op .repr (.cons (.lst (.cons (.x 5) (.cons (.x 6) .nil))) .nil)) (.cons (.x 4) .nil))))) ⟨e3, s2⟩ = .ok false ⟨e3, s2⟩ := evT_or (nots hm.bk (bw_ok hm (add_ok l20 x5 x6)) n3) (fun _ => evT_e ne rfl rfl) (fun z => nomatch z)
  have y1 : ex (PV.run tb 6) (.ite _ (.cons (.ret (.c (.bool false))) .nil) .nil) ⟨e3, s2⟩ = .ok .nx ⟨e3, s2⟩ := (ex_if v1).trans rfl
  have y2 : ex (PV.run tb 6) (.ite _ (.cons (.ret (.c (.bool false))) .nil) .nil) ⟨e3, s2⟩ = .ok .nx ⟨e3, s2⟩ := (ex_if v2).trans rfl
  have u4 : exs (PV.run tb 6) (match bdy with | .cons _ (.cons _ (.cons _ r)) => r | _ => .nil) ⟨e3, s2⟩ = .ok .nx ⟨e3, s2⟩ := (exs_c y1).trans ((exs_c y2).trans rfl)
  refine ⟨.sh (T (bk ps)), .sh (.str w), .sh (T ps), .sh (T qs), s2, ?_, q3⟩
  rw [he]
  exact u1.trans (u2.trans (u3.trans u4))
theorem law_true (ns : List Int) (h : ns.length ≤ 63) : LawOk ns := by
  let ds : List PyData := (List.range 20).map fun (j : Nat) => .int (0 + (j : Int))
  obtain ⟨m', w1, w2⟩ := lopL_inv (bd := fun d m => match bind1 m.e (.nm 2) d with
        | some e => exs (PV.run tb 6) bdy ⟨e, m.s⟩
        | none => .bad) (fun i m => ∃ a2 a3 a4 a5 a6 s, m = ⟨[.un, .dk, a2, a3, a4, a5, a6, .un], s⟩ ∧ CB (42 * i) s) 20 ds 0 ⟨[.un, .dk, .un, .un, .un, .un, .un, .un], ⟨ns.map absI, 0, []⟩⟩ ⟨.un, .un, .un, .un, .un, _, rfl, by simp [CB]⟩ (by simp [ds]) (fun i m d hi hd hj => by
    obtain ⟨a2, a3, a4, a5, a6, s, rfl, hs⟩ := hj
    obtain ⟨b3, b4, b5, b6, s', t1, t2⟩ := turn_ok (a3 := a3) (a4 := a4) (a5 := a5) (a6 := a6) (d := d) hs (by omega)
    exact ⟨_, t1, .sh d, b3, b4, b5, b6, s', rfl, t2⟩)
  refine ⟨m', ?_⟩
  refine (exs_c (m1 := m') ((ex_lop (ds := ds) (src := none) (m1 := ⟨[.un, .dk, .un, .un, .un, .un, .un, .un], ⟨ns.map absI, 0, []⟩⟩) ?_ rfl).trans w1)).trans (exs_ret rfl)
  show evI _ (.rng (.cons (.c (.int 20)) .nil)) _ = _
  have hr : rngD [.v (.int 20)] = some ds := by
    exact rng1_ok (by decide) (by decide)
  exact evI_rng (evs_one rfl) hr
end Rk
open PySem PySem.W PyProof.Rows
set_option maxHeartbeats 0 in
theorem PySem.Challenge.cw_treelamps_k08_slides_backward_holds : PySem.Challenge.rw_treelamps_k08_slides_backward.Holds := by
  w_on; o_law; k_head; (case hw => w_witness2)
  k_fill
  refine PV.law_walk (l := PySem.Challenge.rw_treelamps_k08_slides_backward) (n := 63) (k := 7) (x := "_law_script") (CX := fun w => L2.CX PySem.Challenge.pw_treelamps_k08_slides_backward w) (sp := fun w => PV.spLaw _ Rk.LawOk) rfl (by decide) rfl ⟨rfl, by decide, by decide⟩ (fun w h Y => PySem.W.kIn_of Y) ?F (fun _ _ a ns hl _ hS => ⟨a, ns, rfl, hS, hl, Rk.law_true ns hl, fun _ => rfl⟩) (fun _ _ _ _ _ h => PV.cx_false h)
  case F =>
    intro w mg fa h KX G hmg
    refine' Rk.all_mk KX G hmg ?a0 ?l0 ?c0 ?k0 ?a1 ?l1 ?c1 ?k1 ?a2 ?l2 ?c2 ?k2 ?a3 ?l3 ?c3 ?k3 ?a4 ?l4 ?c4 ?k4 ?a5 ?l5 ?c5 ?k5 ?z0 ?z1 ?z2 ?z3 ?z4
    (case a0 => k_is); (case l0 => k_is); (case c0 => k_is); (case k0 => k_is); (case a1 => k_is); (case l1 => k_is); (case c1 => k_is); (case k1 => k_is); (case a2 => k_is); (case l2 => k_is); (case c2 => k_is); (case k2 => k_is); (case a3 => k_is); (case l3 => k_is); (case c3 => k_is); (case k3 => k_is); (case a4 => k_is); (case l4 => k_is); (case c4 => k_is); (case k4 => k_is); (case a5 => k_is); (case l5 => k_is); (case c5 => k_is); (case k5 => k_is); (case z0 => k_is); (case z1 => k_is); (case z2 => k_is); (case z3 => k_is); (case z4 => k_is)
