import PyProof.Rows.All
import Wide.All
import OpenK.AllK
import Wide.FinOn
import HandS.ForMost
import HandS.Walk
import HandS.Deep
import HandS.TupAny
import HandS.Style
import HandS.Zip
import HandS.IsInst
import KE.SortData
import KE.DataMinMax
import HandS.ForExc
import HandS.Conv
import HandS.CallSlots
import HandS.TryOnly
import HandS.TupLe
import HandS.TupMul
import HandS.WordsDict
import KE.KTupSum
import HandS.AnyAll
import HandS.Ends
import HandS.Flow
import HandS.WordsExc
import PyProof.ReprReads
import PyProof.ReprRoads
import HandS.More
import KE.KDictCopyH
import KE.KDictSum
import KE.KDictWalk
import KE.GoesEnum
import HandS.SetFor
import HandS.Strs
import KE.KDictDisplayH
import PyProof.Rows.TupDisplay
import HandS.DictComp
import KE.KDictZip
import HandS.ExcField
import HandS.ExcInit
import KE.KExcIs
import HandS.ExcIs
import KE.DataFind
import HandS.ListItems
import PyProof.Rows.RowBridgeK
import KE.GoesMore
import HandS.FStr
import HandS.Text
import HandS.TupSets
import HandS.Iter
import PyProof.StrOps2
import HandS.NamedTupSort
import PySem.Challenge.RW_treelamps_k66_slides_parsed
set_option Elab.async false
set_option linter.all false
set_option autoImplicit false
set_option maxRecDepth 100000
set_option maxHeartbeats 1000000
/-! PV.1: data shown by values over the abstract heap -/
namespace PV
open PySem PySem.Spec L2

abbrev AP := Addr → Prop

/-- objects that nothing writes -/
def still : HO → Bool
  | .lst _ => false
  | .dK _ => false
  | .dT _ => false
  | .set _ _ => false
  | .ins _ _ _ => false
  | _ => true

/-- what M does not hold stays; nothing goes -/
structure Keep (M : AP) (H H' : Hp) : Prop where
  stay : ∀ a o, H a = some o → (¬ M a ∨ still o = true) → H' a = some o
  old : ∀ a, H' a = none → H a = none
theorem Keep.refl {M : AP} {H : Hp} : Keep M H H := ⟨fun _ _ h _ => h, fun _ h => h⟩
theorem Keep.mono {M M' : AP} {H H' : Hp} (k : Keep M H H') (h : ∀ a, M a → M' a) : Keep M' H H' := ⟨fun a o e c => k.stay a o e (c.imp (fun n m => n (h a m)) id), k.old⟩
/-- in a row: what the second one writes, the first wrote or was not there -/
theorem Keep.trans {M M' : AP} {H H1 H2 : Hp} (k : Keep M H H1) (k' : Keep M' H1 H2) (h : ∀ a, M' a → M a ∨ H a = none) : Keep M H H2 := ⟨fun a o e c =>
  k'.stay a o (k.stay a o e c) (c.imp (fun n m => (h a m).elim n fun z => by rw [z] at e; cases e) id), fun a z => k.old a (k'.old a z)⟩
theorem Keep.new {M : AP} {H : Hp} {p : Addr} {o : HO} (n : H p = none) : Keep M H (upd H p o) := ⟨fun a u e _ => by
  rw [upd_ne (fun z => by rw [z, n] at e; cases e)]; exact e, fun a z => by
  by_cases q : a = p
  · rw [q, upd_same] at z; cases z
  · rw [upd_ne q] at z; exact z⟩
theorem Keep.write {M : AP} {H : Hp} {p : Addr} {o u : HO} (h : H p = some u) (s : still u = false) (m : M p) : Keep M H (upd H p o) := ⟨fun a w e c => by
  by_cases z : a = p
  · subst z
    rw [h] at e; cases e
    rcases c with c | c
    · exact absurd m c
    · rw [s] at c; cases c
  · rw [upd_ne z]; exact e, fun a z => by
  by_cases q : a = p
  · rw [q, upd_same] at z; cases z
  · rw [upd_ne q] at z; exact z⟩

def keyD : Key → PyData
  | .inl i => .int i
  | .inr s => .str s
def keyT (ks : List Key) : PyData := .tuple (ks.map keyD)

def LsAt (K : PySem.W.Frag) (O : AP) (H : Hp) (a : Addr) (xs : List V) : Prop := ¬ O a ∧ H a = some (.lst xs)
def TpAt (K : PySem.W.Frag) (H : Hp) (a : Addr) (xs : List V) : Prop := H a = some (.tup xs)
theorem LsAt.sq {K : PySem.W.Frag} {O : AP} {H : Hp} {a : Addr} {xs : List V} (h : LsAt K O H a xs) : SqL K H a xs := SqL.of h.2
theorem TpAt.sq {K : PySem.W.Frag} {H : Hp} {a : Addr} {xs : List V} (h : TpAt K H a xs) : SqT K H a xs := SqT.of h

/-- d by the value v, to depth n; the lists and dicts in it do not lie in O -/
def ShN (K : PySem.W.Frag) (O : AP) (H : Hp) : Nat → V → PyData → Prop
  | 0, _, _ => False
  | n + 1, v, d => match d with
    | .none => v = .non
    | .bool b => v = .bl b
    | .int i => v = .int i
    | .str s => v = .str s
    | .list ds => ∃ a xs, v = .ref a ∧ LsAt K O H a xs ∧ xs.length ≤ sizeLine ∧ Paired (ShN K O H n) xs ds
    | .tuple ds => ∃ a xs, v = .ref a ∧ TpAt K H a xs ∧ xs.length ≤ sizeLine ∧ Paired (ShN K O H n) xs ds
    | .dict kvs => ∃ a, v = .ref a ∧ ¬ O a ∧ ((∃ ks, H a = some (.dK ks) ∧ Paired (fun p q => q.1 = keyD p.1 ∧ ShN K O H n p.2 q.2) ks kvs) ∨
        ∃ ks, H a = some (.dT ks) ∧ Paired (fun p q => q.1 = keyT p.1 ∧ ShN K O H n p.2 q.2) ks kvs)
def Sh (K : PySem.W.Frag) (O : AP) (H : Hp) (v : V) (d : PyData) : Prop := ∃ n, ShN K O H n v d
abbrev ShA (K : PySem.W.Frag) (O : AP) (H : Hp) : List V → List PyData → Prop := Paired (Sh K O H)
/-- what stands at a dict's address -/
def DcIs (K : PySem.W.Frag) (O : AP) (H : Hp) (o : HO) (kvs : List (PyData × PyData)) : Prop :=
  (∃ ks, o = .dK ks ∧ Paired (fun p q => q.1 = keyD p.1 ∧ Sh K O H p.2 q.2) ks kvs) ∨ ∃ ks, o = .dT ks ∧ Paired (fun p q => q.1 = keyT p.1 ∧ Sh K O H p.2 q.2) ks kvs

theorem Paired.imp {α β : Type} {F G : α → β → Prop} {l₁ : List α} {l₂ : List β} (h : Paired F l₁ l₂) (f : ∀ a b, F a b → G a b) : Paired G l₁ l₂ := by
  induction h with
  | nil => exact .nil
  | cons r _ ih => exact .cons (f _ _ r) ih
theorem Paired.get {α β : Type} {F : α → β → Prop} {l₁ : List α} {l₂ : List β} (h : Paired F l₁ l₂) : ∀ {i : Nat} {b : β}, l₂[i]? = some b → ∃ a, l₁[i]? = some a ∧ F a b := by
  induction h with
  | nil => intro i b e; simp at e
  | cons r _ ih =>
    intro i b e
    cases i with
    | zero => simp at e; subst e; exact ⟨_, rfl, r⟩
    | succ i => simp at e; simpa using ih e
theorem Paired.len {α β : Type} {F : α → β → Prop} {l₁ : List α} {l₂ : List β} (h : Paired F l₁ l₂) : l₁.length = l₂.length := PySem.Paired.length h
theorem Paired.app {α β : Type} {F : α → β → Prop} {l₁ m₁ : List α} {l₂ m₂ : List β} (h : Paired F l₁ l₂) (h' : Paired F m₁ m₂) : Paired F (l₁ ++ m₁) (l₂ ++ m₂) := by
  induction h with
  | nil => exact h'
  | cons r _ ih => exact .cons r ih
theorem Paired.tk {α β : Type} {F : α → β → Prop} {l₁ : List α} {l₂ : List β} (h : Paired F l₁ l₂) : ∀ n, Paired F (l₁.take n) (l₂.take n) := by
  induction h with
  | nil => intro n; simp; exact .nil
  | cons r _ ih => intro n; cases n with
    | zero => exact .nil
    | succ n => exact .cons r (ih n)
theorem Paired.dr {α β : Type} {F : α → β → Prop} {l₁ : List α} {l₂ : List β} (h : Paired F l₁ l₂) : ∀ n, Paired F (l₁.drop n) (l₂.drop n) := by
  induction h with
  | nil => intro n; simp; exact .nil
  | cons r t ih => intro n; cases n with
    | zero => exact .cons r t
    | succ n => exact ih n
theorem Paired.st {α β : Type} {F : α → β → Prop} {l₁ : List α} {l₂ : List β} {a : α} {b : β} (h : Paired F l₁ l₂) (r : F a b) : ∀ i, Paired F (l₁.set i a) (l₂.set i b) := by
  induction h with
  | nil => intro i; simp; exact .nil
  | cons q t ih => intro i; cases i with
    | zero => exact .cons r t
    | succ i => exact .cons q (ih i)
theorem Paired.rv {α β : Type} {F : α → β → Prop} {l₁ : List α} {l₂ : List β} (h : Paired F l₁ l₂) : Paired F l₁.reverse l₂.reverse := by
  induction h with
  | nil => exact .nil
  | cons r _ ih => rw [List.reverse_cons, List.reverse_cons]; exact Paired.app ih (.cons r .nil)
section
variable {K : PySem.W.Frag} {O O' : AP} {H H' : Hp} {v : V} {d : PyData}

theorem ShN.step : ∀ {n : Nat} {v : V} {d : PyData}, ShN K O H n v d → ShN K O H (n + 1) v d
  | 0, _, _, h => h.elim
  | n + 1, v, .none, h => h
  | n + 1, v, .bool _, h => h
  | n + 1, v, .int _, h => h
  | n + 1, v, .str _, h => h
  | n + 1, v, .list ds, ⟨a, xs, e, l, z, p⟩ => ⟨a, xs, e, l, z, Paired.imp p fun _ _ q => ShN.step q⟩
  | n + 1, v, .tuple ds, ⟨a, xs, e, l, z, p⟩ => ⟨a, xs, e, l, z, Paired.imp p fun _ _ q => ShN.step q⟩
  | n + 1, v, .dict kvs, ⟨a, e, o, p⟩ => ⟨a, e, o, p.imp (fun ⟨ks, h, q⟩ => ⟨ks, h, Paired.imp q fun _ _ q => ⟨q.1, ShN.step q.2⟩⟩) fun ⟨ks, h, q⟩ => ⟨ks, h, Paired.imp q fun _ _ q => ⟨q.1, ShN.step q.2⟩⟩⟩
theorem ShN.le {n m : Nat} (h : n ≤ m) (s : ShN K O H n v d) : ShN K O H m v d := by
  induction h with
  | refl => exact s
  | step _ ih => exact ih.step
theorem pairN {α β : Type} {F : Nat → α → β → Prop} (mono : ∀ n m a b, n ≤ m → F n a b → F m a b) {xs : List α} {ds : List β} (h : Paired (fun a b => ∃ n, F n a b) xs ds) : ∃ n, Paired (F n) xs ds := by
  induction h with
  | nil => exact ⟨0, .nil⟩
  | cons r _ ih =>
    obtain ⟨n, r⟩ := r
    obtain ⟨m, t⟩ := ih
    exact ⟨max n m, .cons (mono _ _ _ _ (Nat.le_max_left _ _) r) (Paired.imp t fun _ _ q => mono _ _ _ _ (Nat.le_max_right _ _) q)⟩

theorem sh_none : Sh K O H v .none ↔ v = .non := ⟨fun ⟨n, h⟩ => by cases n with | zero => exact h.elim | succ n => exact h, fun h => ⟨1, h⟩⟩
theorem sh_bool {b : Bool} : Sh K O H v (.bool b) ↔ v = .bl b := ⟨fun ⟨n, h⟩ => by cases n with | zero => exact h.elim | succ n => exact h, fun h => ⟨1, h⟩⟩
theorem sh_int {i : Int} : Sh K O H v (.int i) ↔ v = .int i := ⟨fun ⟨n, h⟩ => by cases n with | zero => exact h.elim | succ n => exact h, fun h => ⟨1, h⟩⟩
theorem sh_str {s : Str} : Sh K O H v (.str s) ↔ v = .str s := ⟨fun ⟨n, h⟩ => by cases n with | zero => exact h.elim | succ n => exact h, fun h => ⟨1, h⟩⟩
theorem sh_list {ds : List PyData} : Sh K O H v (.list ds) ↔ ∃ a xs, v = .ref a ∧ LsAt K O H a xs ∧ xs.length ≤ sizeLine ∧ ShA K O H xs ds := by
  constructor
  · rintro ⟨n, h⟩
    cases n with
    | zero => exact h.elim
    | succ n =>
      obtain ⟨a, xs, e, l, z, p⟩ := h
      exact ⟨a, xs, e, l, z, Paired.imp p fun _ _ q => ⟨n, q⟩⟩
  · rintro ⟨a, xs, e, l, z, p⟩
    obtain ⟨n, q⟩ := pairN (F := ShN K O H) (fun _ _ _ _ h s => ShN.le h s) p
    exact ⟨n + 1, a, xs, e, l, z, q⟩
theorem sh_tuple {ds : List PyData} : Sh K O H v (.tuple ds) ↔ ∃ a xs, v = .ref a ∧ TpAt K H a xs ∧ xs.length ≤ sizeLine ∧ ShA K O H xs ds := by
  constructor
  · rintro ⟨n, h⟩
    cases n with
    | zero => exact h.elim
    | succ n =>
      obtain ⟨a, xs, e, l, z, p⟩ := h
      exact ⟨a, xs, e, l, z, Paired.imp p fun _ _ q => ⟨n, q⟩⟩
  · rintro ⟨a, xs, e, l, z, p⟩
    obtain ⟨n, q⟩ := pairN (F := ShN K O H) (fun _ _ _ _ h s => ShN.le h s) p
    exact ⟨n + 1, a, xs, e, l, z, q⟩
theorem sh_dict {kvs : List (PyData × PyData)} : Sh K O H v (.dict kvs) ↔ ∃ a o, v = .ref a ∧ ¬ O a ∧ H a = some o ∧ DcIs K O H o kvs := by
  constructor
  · rintro ⟨n, h⟩
    cases n with
    | zero => exact h.elim
    | succ n =>
      obtain ⟨a, e, o, p⟩ := h
      rcases p with ⟨ks, h, q⟩ | ⟨ks, h, q⟩
      · exact ⟨a, _, e, o, h, .inl ⟨ks, rfl, Paired.imp q fun _ _ q => ⟨q.1, n, q.2⟩⟩⟩
      · exact ⟨a, _, e, o, h, .inr ⟨ks, rfl, Paired.imp q fun _ _ q => ⟨q.1, n, q.2⟩⟩⟩
  · rintro ⟨a, o, e, no, h, p⟩
    rcases p with ⟨ks, rfl, q⟩ | ⟨ks, rfl, q⟩
    · obtain ⟨n, q⟩ := pairN (F := fun n (p : Key × V) (q : PyData × PyData) => q.1 = keyD p.1 ∧ ShN K O H n p.2 q.2) (fun _ _ _ _ h s => ⟨s.1, ShN.le h s.2⟩) (Paired.imp q fun _ _ ⟨z, n, y⟩ => ⟨n, z, y⟩)
      exact ⟨n + 1, a, e, no, .inl ⟨ks, h, q⟩⟩
    · obtain ⟨n, q⟩ := pairN (F := fun n (p : List Key × V) (q : PyData × PyData) => q.1 = keyT p.1 ∧ ShN K O H n p.2 q.2) (fun _ _ _ _ h s => ⟨s.1, ShN.le h s.2⟩) (Paired.imp q fun _ _ ⟨z, n, y⟩ => ⟨n, z, y⟩)
      exact ⟨n + 1, a, e, no, .inr ⟨ks, h, q⟩⟩

theorem Rd.keep {M : AP} {a : Addr} {u : HO} (k : Keep M H H') (h : Rd H a u) (c : ¬ M a ∨ still u = true) : Rd H' a u := by
  rcases h with h | ⟨o, h⟩
  · exact .inl (k.stay a u h c)
  · exact .inr ⟨o, k.stay a _ h (.inr rfl)⟩
theorem TpAt.keep {M : AP} {a : Addr} {xs : List V} (k : Keep M H H') (h : TpAt K H a xs) : TpAt K H' a xs := k.stay a _ h (.inr rfl)
theorem LsAt.keep {M : AP} {a : Addr} {xs : List V} (k : Keep M H H') (m : ∀ a, M a → O a) (h : LsAt K O H a xs) : LsAt K O H' a xs := ⟨h.1, k.stay a _ h.2 (.inl fun q => h.1 (m a q))⟩
theorem LsAt.weak {a : Addr} {xs : List V} (m : ∀ a, O' a → O a) (h : LsAt K O H a xs) : LsAt K O' H a xs := ⟨fun q => h.1 (m a q), h.2⟩

/-- the heap goes on, O keeps all that is written -/
theorem ShN.keep {M : AP} (k : Keep M H H') (m : ∀ a, M a → O a) : ∀ {n : Nat} {v : V} {d : PyData}, ShN K O H n v d → ShN K O H' n v d
  | 0, _, _, h => h.elim
  | n + 1, v, .none, h => h
  | n + 1, v, .bool _, h => h
  | n + 1, v, .int _, h => h
  | n + 1, v, .str _, h => h
  | n + 1, v, .list ds, ⟨a, xs, e, l, z, p⟩ => ⟨a, xs, e, l.keep k m, z, Paired.imp p fun _ _ q => ShN.keep k m q⟩
  | n + 1, v, .tuple ds, ⟨a, xs, e, l, z, p⟩ => ⟨a, xs, e, l.keep k, z, Paired.imp p fun _ _ q => ShN.keep k m q⟩
  | n + 1, v, .dict kvs, ⟨a, e, o, p⟩ => ⟨a, e, o, p.imp (fun ⟨ks, h, q⟩ => ⟨ks, k.stay a _ h (.inl fun z => o (m a z)), Paired.imp q fun _ _ q => ⟨q.1, ShN.keep k m q.2⟩⟩)
      fun ⟨ks, h, q⟩ => ⟨ks, k.stay a _ h (.inl fun z => o (m a z)), Paired.imp q fun _ _ q => ⟨q.1, ShN.keep k m q.2⟩⟩⟩
theorem Sh.keep {M : AP} (k : Keep M H H') (m : ∀ a, M a → O a) (h : Sh K O H v d) : Sh K O H' v d := h.imp fun _ q => q.keep k m
theorem ShA.keep {M : AP} {vs : List V} {ds : List PyData} (k : Keep M H H') (m : ∀ a, M a → O a) (h : ShA K O H vs ds) : ShA K O H' vs ds := Paired.imp h fun _ _ q => Sh.keep k m q
/-- a smaller O -/
theorem ShN.weak (m : ∀ a, O' a → O a) : ∀ {n : Nat} {v : V} {d : PyData}, ShN K O H n v d → ShN K O' H n v d
  | 0, _, _, h => h.elim
  | n + 1, v, .none, h => h
  | n + 1, v, .bool _, h => h
  | n + 1, v, .int _, h => h
  | n + 1, v, .str _, h => h
  | n + 1, v, .list ds, ⟨a, xs, e, l, z, p⟩ => ⟨a, xs, e, l.weak m, z, Paired.imp p fun _ _ q => ShN.weak m q⟩
  | n + 1, v, .tuple ds, ⟨a, xs, e, l, z, p⟩ => ⟨a, xs, e, l, z, Paired.imp p fun _ _ q => ShN.weak m q⟩
  | n + 1, v, .dict kvs, ⟨a, e, o, p⟩ => ⟨a, e, fun z => o (m a z), p.imp (fun ⟨ks, h, q⟩ => ⟨ks, h, Paired.imp q fun _ _ q => ⟨q.1, ShN.weak m q.2⟩⟩)
      fun ⟨ks, h, q⟩ => ⟨ks, h, Paired.imp q fun _ _ q => ⟨q.1, ShN.weak m q.2⟩⟩⟩
theorem Sh.weak (m : ∀ a, O' a → O a) (h : Sh K O H v d) : Sh K O' H v d := h.imp fun _ q => q.weak m
theorem ShA.weak {vs : List V} {ds : List PyData} (m : ∀ a, O' a → O a) (h : ShA K O H vs ds) : ShA K O' H vs ds := Paired.imp h fun _ _ q => Sh.weak m q
/-- a new address is in no data -/
theorem LsAt.fresh {a : Addr} {xs : List V} {p : AP} (n : ∀ a, p a → H a = none) (h : LsAt K O H a xs) : LsAt K (fun a => O a ∨ p a) H a xs := ⟨fun q => q.elim h.1 (fun q => by
    have z := h.2
    rw [n a q] at z
    exact nomatch z), h.2⟩
theorem ShN.fresh {p : AP} (nn : ∀ a, p a → H a = none) : ∀ {n : Nat} {v : V} {d : PyData}, ShN K O H n v d → ShN K (fun a => O a ∨ p a) H n v d
  | 0, _, _, h => h.elim
  | n + 1, v, .none, h => h
  | n + 1, v, .bool _, h => h
  | n + 1, v, .int _, h => h
  | n + 1, v, .str _, h => h
  | n + 1, v, .list ds, ⟨a, xs, e, l, z, q⟩ => ⟨a, xs, e, l.fresh nn, z, Paired.imp q fun _ _ q => ShN.fresh nn q⟩
  | n + 1, v, .tuple ds, ⟨a, xs, e, l, z, q⟩ => ⟨a, xs, e, l, z, Paired.imp q fun _ _ q => ShN.fresh nn q⟩
  | n + 1, v, .dict kvs, ⟨a, e, o, q⟩ => ⟨a, e, fun z => z.elim o fun z => (by rcases q with ⟨ks, h, _⟩ | ⟨ks, h, _⟩ <;> (rw [nn a z] at h; cases h)), q.imp (fun ⟨ks, h, q⟩ => ⟨ks, h, Paired.imp q fun _ _ q => ⟨q.1, ShN.fresh nn q.2⟩⟩)
      fun ⟨ks, h, q⟩ => ⟨ks, h, Paired.imp q fun _ _ q => ⟨q.1, ShN.fresh nn q.2⟩⟩⟩
theorem Sh.fresh {p : AP} (nn : ∀ a, p a → H a = none) (h : Sh K O H v d) : Sh K (fun a => O a ∨ p a) H v d := h.imp fun _ q => q.fresh nn
theorem ShA.fresh {p : AP} {vs : List V} {ds : List PyData} (nn : ∀ a, p a → H a = none) (h : ShA K O H vs ds) : ShA K (fun a => O a ∨ p a) H vs ds := Paired.imp h fun _ _ q => Sh.fresh nn q
theorem DcIs.keep {M : AP} {o : HO} {kvs : List (PyData × PyData)} (k : Keep M H H') (m : ∀ a, M a → O a) (h : DcIs K O H o kvs) : DcIs K O H' o kvs :=
  h.imp (fun ⟨ks, e, q⟩ => ⟨ks, e, Paired.imp q fun _ _ q => ⟨q.1, q.2.keep k m⟩⟩) fun ⟨ks, e, q⟩ => ⟨ks, e, Paired.imp q fun _ _ q => ⟨q.1, q.2.keep k m⟩⟩
theorem DcIs.weak {o : HO} {kvs : List (PyData × PyData)} (m : ∀ a, O' a → O a) (h : DcIs K O H o kvs) : DcIs K O' H o kvs :=
  h.imp (fun ⟨ks, e, q⟩ => ⟨ks, e, Paired.imp q fun _ _ q => ⟨q.1, q.2.weak m⟩⟩) fun ⟨ks, e, q⟩ => ⟨ks, e, Paired.imp q fun _ _ q => ⟨q.1, q.2.weak m⟩⟩
theorem DcIs.fresh {p : AP} {o : HO} {kvs : List (PyData × PyData)} (nn : ∀ a, p a → H a = none) (h : DcIs K O H o kvs) : DcIs K (fun a => O a ∨ p a) H o kvs :=
  h.imp (fun ⟨ks, e, q⟩ => ⟨ks, e, Paired.imp q fun _ _ q => ⟨q.1, q.2.fresh nn⟩⟩) fun ⟨ks, e, q⟩ => ⟨ks, e, Paired.imp q fun _ _ q => ⟨q.1, q.2.fresh nn⟩⟩
theorem DcIs.still {o : HO} {kvs : List (PyData × PyData)} (h : DcIs K O H o kvs) : still o = false := by rcases h with ⟨ks, rfl, _⟩ | ⟨ks, rfl, _⟩ <;> rfl

/-- the heap goes on, the set may grow by what is new -/
theorem Sh.go {K : PySem.W.Frag} {O O' M : AP} {H H' : Hp} {v : V} {d : PyData} (h : Sh K O H v d) (k : Keep M H H') (m : ∀ a, M a → O a) (n : ∀ a, O' a → O a ∨ H a = none) : Sh K O' H' v d :=
  Sh.weak n (Sh.keep k (fun a z => .inl (m a z)) (Sh.fresh (p := fun a => H a = none) (fun _ z => z) h))
theorem ShA.go {K : PySem.W.Frag} {O O' M : AP} {H H' : Hp} {vs : List V} {ds : List PyData} (h : ShA K O H vs ds) (k : Keep M H H') (m : ∀ a, M a → O a) (n : ∀ a, O' a → O a ∨ H a = none) : ShA K O' H' vs ds :=
  Paired.imp h fun _ _ q => Sh.go q k m n

/- no list and no dict in it: O does not matter -/
mutual
def flat : PyData → Bool
  | .list _ => false
  | .dict _ => false
  | .tuple ds => flatA ds
  | _ => true
def flatA : List PyData → Bool
  | [] => true
  | d :: ds => flat d && flatA ds
end
theorem flatA_mem : ∀ {ds : List PyData}, flatA ds = true → ∀ d ∈ ds, flat d = true
  | [], _, _, h => nomatch h
  | d :: ds, h, e, m => by
    have h' : flat d = true ∧ flatA ds = true := by simpa [flatA] using h
    rcases List.mem_cons.mp m with rfl | m
    · exact h'.1
    · exact flatA_mem h'.2 e m
theorem Paired.imp_mem {α β : Type} {F G : α → β → Prop} {l₁ : List α} {l₂ : List β} (h : Paired F l₁ l₂) : (∀ a b, b ∈ l₂ → F a b → G a b) → Paired G l₁ l₂ := by
  induction h with
  | nil => intro _; exact .nil
  | cons r _ ih => intro f; exact .cons (f _ _ List.mem_cons_self r) (ih fun a b m => f a b (List.mem_cons_of_mem _ m))
theorem ShN.flat : ∀ {n : Nat} {v : V} {d : PyData}, flat d = true → ShN K O H n v d → ShN K O' H n v d
  | 0, _, _, _, h => h.elim
  | n + 1, v, .none, _, h => h
  | n + 1, v, .bool _, _, h => h
  | n + 1, v, .int _, _, h => h
  | n + 1, v, .str _, _, h => h
  | n + 1, v, .list ds, f, _ => by simp [PV.flat] at f
  | n + 1, v, .tuple ds, f, ⟨a, xs, e, l, z, p⟩ => ⟨a, xs, e, l, z, Paired.imp_mem p fun _ b m q => ShN.flat (flatA_mem (by simpa [PV.flat] using f) b m) q⟩
  | n + 1, v, .dict kvs, f, _ => by simp [PV.flat] at f
theorem Sh.flat (f : flat d = true) (h : Sh K O H v d) : Sh K O' H v d := h.imp fun _ q => q.flat f

/- read as data of the layer -/
mutual
def nod : PyData → Bool
  | .dict _ => false
  | .tuple ds => nodA ds
  | .list ds => nodA ds
  | _ => true
def nodA : List PyData → Bool
  | [] => true
  | d :: ds => nod d && nodA ds
end
theorem nodA_mem : ∀ {ds : List PyData}, nodA ds = true → ∀ d ∈ ds, nod d = true
  | [], _, _, h => nomatch h
  | d :: ds, h, e, m => by
    have h' : nod d = true ∧ nodA ds = true := by simpa [nodA] using h
    rcases List.mem_cons.mp m with rfl | m
    · exact h'.1
    · exact nodA_mem h'.2 e m
theorem dpAll_of {xs : List V} {ds : List PyData} (h : Paired (Dp K H) xs ds) : DpAll K H xs ds := by
  induction h with
  | nil => exact .nil
  | cons r _ ih => exact .cons r ih
theorem ShN.dp : ∀ {n : Nat} {v : V} {d : PyData}, nod d = true → ShN K O H n v d → Dp K H v d
  | 0, _, _, _, h => h.elim
  | n + 1, v, .none, _, h => by cases (show v = .non from h); exact .non
  | n + 1, v, .bool b, _, h => by cases (show v = .bl b from h); exact .bl b
  | n + 1, v, .int i, _, h => by cases (show v = .int i from h); exact .int i
  | n + 1, v, .str s, _, h => by cases (show v = .str s from h); exact .str s
  | n + 1, v, .list ds, f, ⟨a, xs, e, l, z, p⟩ => by subst e; exact .lst l.sq (dpAll_of (Paired.imp_mem p fun _ b m q => ShN.dp (nodA_mem (by simpa [nod] using f) b m) q))
  | n + 1, v, .tuple ds, f, ⟨a, xs, e, l, z, p⟩ => by subst e; exact .tup l.sq (dpAll_of (Paired.imp_mem p fun _ b m q => ShN.dp (nodA_mem (by simpa [nod] using f) b m) q))
  | n + 1, v, .dict kvs, f, _ => by simp [nod] at f
theorem Sh.dp (f : nod d = true) (h : Sh K O H v d) : Dp K H v d := let ⟨_, q⟩ := h; q.dp f
end

/-- read at the top, whoever owns it -/
def ShT (K : PySem.W.Frag) (O : AP) (H : Hp) (v : V) : PyData → Prop
  | .list ds => ∃ a xs, v = .ref a ∧ H a = some (.lst xs) ∧ xs.length ≤ sizeLine ∧ ShA K O H xs ds
  | .dict kvs => ∃ a o, v = .ref a ∧ H a = some o ∧ DcIs K O H o kvs
  | d => Sh K O H v d
theorem Sh.top {K : PySem.W.Frag} {O : AP} {H : Hp} {v : V} {d : PyData} (h : Sh K O H v d) : ShT K O H v d := by
  cases d with
  | list ds => obtain ⟨a, xs, e, l, z, p⟩ := sh_list.mp h; exact ⟨a, xs, e, l.2, z, p⟩
  | dict kvs => obtain ⟨a, o, e, _, ho, p⟩ := sh_dict.mp h; exact ⟨a, o, e, ho, p⟩
  | none => exact h
  | bool b => exact h
  | int i => exact h
  | str s => exact h
  | tuple ds => exact h
theorem ShT.dp {K : PySem.W.Frag} {O : AP} {H : Hp} {v : V} {d : PyData} (f : nod d = true) (h : ShT K O H v d) : Dp K H v d := by
  cases d with
  | list ds =>
    obtain ⟨a, xs, rfl, l, z, p⟩ := h
    exact .lst (SqL.of l) (dpAll_of (Paired.imp_mem p fun _ b m q => q.dp (nodA_mem (by simpa [nod] using f) b m)))
  | dict kvs => simp [nod] at f
  | none => exact Sh.dp f h
  | bool b => exact Sh.dp f h
  | int i => exact Sh.dp f h
  | str s => exact Sh.dp f h
  | tuple ds => exact Sh.dp f h
end PV

/-! PV.2: the pure evaluator -/
namespace PV
open PySem


/-- objects: a board with its states, the edits that stand, whether a goal runs; a shell with its board -/
inductive OB where
  | board (sts eds : List PyData) (ask : Bool) | shell (j : Nat)
/-- the deck of draws: the cells, the number of draws, the rests; the objects -/
structure DS where
  cells : List Int
  cnt : Int
  rests : List Int
  obs : List OB

inductive R where
  | v (d : PyData) | pl (i : Nat) | fl (ds : List PyData) | fd (t : Bool) (kvs : List (PyData × PyData)) | dk (k : Nat)
inductive Slot where
  | un | sh (d : PyData) | ol (ds : List PyData) | od (t : Bool) (kvs : List (PyData × PyData)) | dk (k : Nat) | ex (a : Addr) (f : Option (Addr × Str × PyData))
abbrev Env := List Slot
structure M where
  e : Env
  s : DS
inductive Res (α : Type) where
  | ok (a : α) (m : M) | rz (c : Nat) (f : Option PyData) (m : M) | bad
def Res.bind {α β : Type} (r : Res α) (f : α → M → Res β) : Res β := match r with
  | .ok a m => f a m
  | .rz c x m => .rz c x m
  | .bad => .bad
inductive Arg where
  | sh (d : PyData) | dk (k : Nat) | nil
inductive FRes where
  | ok (r : R) (s : DS) | rz (c : Nat) (f : Option PyData) (s : DS) | bad

inductive Op where
  | add | sub | mul | fdiv | mod | pow | neg | eq | ne | lt | le | gt | ge | isN | notN | inn | notin
  | idx | sl (lo hi : Bool) | rev | len | tuple | list | lrng | sorted | abs | min2 | max2 | min1 | max1 | sum | any | all | int | str | repr
  | isi (k : Nat) | get | not | idi | g (k : Nat)
/-- what is asked of an object -/
inductive FO where
  | stA | lenS | lenE | ask | appS | appE | popS | popE | tupE | lstS | lstE | brd
inductive MOp where
  | app | pop | popAt | ext | rem | upd | ins | clr
mutual
inductive E where
  | c (d : PyData) | x (i : Nat) | op (o : Op) (es : Es) | call (f : Nat) (es : Es) | tup (es : Es) | lst (es : Es) | emp (t : Bool) | dsp (t : Bool) (k v : E)
  | and2 (a b : E) | or2 (a b : E) | ite (c : T) (a b : E) | chn (o1 o2 : Op) (a b c : E) | mut (m : MOp) (i : Nat) (es : Es)
  | lc (t : Tg) (it : It) (c : T) (elt : E) (own : List Nat) | dc (t : Tg) (it : It) (c : T) (k v : E) (own : List Nat) | ofT (t : T)
  | xi (i : Nat) (a b : Addr) (v : Bool) | xf (i : Nat) (a b : Addr) (n : Str) | fld (o : FO) (i : Nat) (es : Es) | cnew (f1 : Nat) (es : Es) (f2 : Nat) (rest : Es)
  | dcT (t : Tg) (it : It) (c : T) (k v : E) (own : List Nat) | updT (i : Nat) (e : E)
  | meth (sh : Bool) (f : Nat) (o : E) (es : Es) | chk (e : E) | eqO (f : Nat) (a b : E) | isO (sh : Bool) (i : Nat)
inductive Es where
  | nil | cons (e : E) (es : Es)
inductive T where
  | e (e : E) | yes | and (a b : T) | or (a b : T) | not (a : T)
inductive It where
  | e (e : E) | rng (es : Es) | enm (e : E) (k : Int) | zip (es : Es) | zpl (es : Es) | zp3 (es : Es) | txt (e : E) | rg3 (es : Es)
inductive Tg where
  | nm (i : Nat) | tp (ts : Tgs)
inductive Tgs where
  | nil | cons (t : Tg) (ts : Tgs)
end
mutual
inductive S where
  | set (t : Tg) (e : E) | par (is : List Nat) (es : Es) | sub (i : Nat) (k e : E) | ex (e : E) | ret (e : E) | retN
  | ite (c : T) (t f : Ss) | lop (t : Tg) (it : It) (b : Ss) | wh (c : T) (b : Ss) | pass | brk | cont | raise (c : Nat) (es : Es)
  | tr (b : Ss) (i : Nat) (ws : List Nat) (hc : Nat → Bool) (fn : Nat → Option Str) (su : Nat → Addr → Addr → Ss)
  | swp (i : Nat) (e : E) (ja jb : Nat) | fin (b f : Ss) | ask (i : Nat) (b : Bool) | new (i f : Nat) (es : Es) (b : Ss) | newS (i j : Nat) (b : Ss)
inductive Ss where
  | nil | cons (s : S) (ss : Ss)
end
inductive Flow where
  | nx | brk | ct | rt (r : R)

def LIM : Nat := 16777216

def deref (e : Env) : R → Option PyData
  | .v d => some d
  | .fl ds => some (.list ds)
  | .fd _ kvs => some (.dict kvs)
  | .pl i => match e[i]? with
    | some (.ol ds) => some (.list ds)
    | some (.od _ kvs) => some (.dict kvs)
    | some (.sh d) => some d
    | _ => none
  | .dk _ => none
def derefs (e : Env) : List R → Option (List PyData)
  | [] => some []
  | r :: rs => match deref e r, derefs e rs with
    | some d, some ds => some (d :: ds)
    | _, _ => none
/-- as shared data: what was owned is so no more -/
def esc (e : Env) : R → Option (PyData × Env)
  | .v d => some (d, e)
  | .fl ds => some (.list ds, e)
  | .fd _ kvs => some (.dict kvs, e)
  | .pl i => match e[i]? with
    | some (.ol ds) => some (.list ds, e.set i (.sh (.list ds)))
    | some (.od _ kvs) => some (.dict kvs, e.set i (.sh (.dict kvs)))
    | some (.sh d) => some (d, e)
    | _ => none
  | .dk _ => none
def escs (e : Env) : List R → Option (List PyData × Env)
  | [] => some ([], e)
  | r :: rs => match esc e r with
    | some (d, e1) => match escs e1 rs with
      | some (ds, e2) => some (d :: ds, e2)
      | none => none
    | none => none
def toArgs (e : Env) : List R → Option (List Arg)
  | [] => some []
  | .dk k :: rs => (toArgs e rs).map (.dk k :: ·)
  | r :: rs => match deref e r, toArgs e rs with
    | some d, some ds => some (.sh d :: ds)
    | _, _ => none
def hasPl : List R → Bool
  | [] => false
  | .pl _ :: _ => true
  | _ :: rs => hasPl rs
def flatR : R → Bool
  | .v d => flat d
  | .fl ds => flatA ds
  | _ => false

def flatO : Option PyData → Bool
  | none => true
  | some d => flat d

/-! values -/
def toKey : PyData → Option L2.Key
  | .int i => some (.inl i)
  | .str s => some (.inr s)
  | _ => none
def toKeys : List PyData → Option (List L2.Key)
  | [] => some []
  | d :: ds => match toKey d, toKeys ds with
    | some k, some ks => some (k :: ks)
    | _, _ => none
def keyOk : Bool → PyData → Bool
  | false, d => (toKey d).isSome
  | true, .tuple ds => (toKeys ds).isSome
  | true, _ => false
noncomputable section
open Classical
def look (kvs : List (PyData × PyData)) (k : PyData) : Option PyData := (kvs.find? fun p => decide (p.1 = k)).map (·.2)
def putD (kvs : List (PyData × PyData)) (k v : PyData) : List (PyData × PyData) :=
  if kvs.any (fun p => decide (p.1 = k)) then kvs.map fun p => if p.1 = k then (k, v) else p else kvs ++ [(k, v)]
/-- d.update(d2) -/
def mergeD (kvs more : List (PyData × PyData)) : List (PyData × PyData) := more.foldl (fun acc p => putD acc p.1 p.2) kvs
end
/-- which kind of keys: all plain, or all tuples -/
def keysK (kvs : List (PyData × PyData)) : Bool := kvs.all fun p => keyOk false p.1
def keysT (kvs : List (PyData × PyData)) : Bool := kvs.all fun p => keyOk true p.1

def lexLe : List Int → List Int → Bool
  | [], _ => true
  | _ :: _, [] => false
  | x :: xs, y :: ys => if x = y then lexLe xs ys else decide (x ≤ y)
def toInts : List PyData → Option (List Int)
  | [] => some []
  | .int i :: ds => (toInts ds).map (i :: ·)
  | _ :: _ => none
def toBls : List PyData → Option (List Bool)
  | [] => some []
  | .bool i :: ds => (toBls ds).map (i :: ·)
  | _ :: _ => none
def truth : PyData → Bool
  | .none => false
  | .bool b => b
  | .int i => i != 0
  | .str s => (s.length : Int) != 0
  | .list ds => !ds.isEmpty
  | .tuple ds => !ds.isEmpty
  | .dict kvs => !kvs.isEmpty
def strFits : PyData → Bool
  | .str s => decide (s.length ≤ LIM)
  | .dict _ => false
  | _ => true
def cutD {α : Type} (xs : List α) (lo hi : Option Int) : List α := (xs.drop (HT.sIx xs.length 0 lo)).take (HT.sIx xs.length xs.length hi - HT.sIx xs.length 0 lo)
/-- the kinds of isinstance: 0 int, 1 bool, 2 str, 3 tuple, 4 list, 5 dict, 6 list or tuple -/
def isKind : Nat → PyData → Bool
  | 0, .int _ => true
  | 0, .bool _ => true
  | 1, .bool _ => true
  | 2, .str _ => true
  | 3, .tuple _ => true
  | 4, .list _ => true
  | 5, .dict _ => true
  | 6, .list _ => true
  | 6, .tuple _ => true
  | _, _ => false
def cmpD (o : Op) (a b : PyData) : Option Bool := match a, b with
  | .int i, .int j => match o with
    | .lt => some (decide (i < j))
    | .le => some (decide (i ≤ j))
    | .gt => some (decide (j < i))
    | .ge => some (decide (j ≤ i))
    | _ => none
  | .tuple xs, .tuple ys => match toInts xs, toInts ys with
    | some ns, some ms => match o with
      | .lt => some (HT.lexLt ns ms)
      | .le => some (lexLe ns ms)
      | .ge => some (lexLe ms ns)
      | _ => none
    | _, _ => none
  | _, _ => none
def pick (xs : List PyData) (i : Int) : Option PyData := L2.atI xs i
noncomputable section
open Classical
/-! the pure operations, one by one -/
def addD : List PyData → Option R
  | [.int i, .int j] => some (.v (.int (i + j)))
  | [.str a, .str b] => if a.length + b.length ≤ LIM then some (.v (.str (a ++ b))) else none
  | [.list a, .list b] => if a.length + b.length ≤ LIM then some (.fl (a ++ b)) else none
  | [.tuple a, .tuple b] => if a.length + b.length ≤ LIM then some (.v (.tuple (a ++ b))) else none
  | _ => none
def subD : List PyData → Option R
  | [.int i, .int j] => some (.v (.int (i - j)))
  | _ => none
def mulD : List PyData → Option R
  | [.list xs, .int k] => if -(2 ^ 63) ≤ k ∧ k < 2 ^ 63 ∧ xs.length * k.toNat ≤ LIM then some (.fl (List.replicate k.toNat xs).flatten) else none
  | [.int i, .int j] => if (-(2 ^ 64) < i ∧ i < 2 ^ 64) ∨ (-(2 ^ 64) < j ∧ j < 2 ^ 64) then some (.v (.int (i * j))) else none
  | [.tuple xs, .int k] => if -(2 ^ 63) ≤ k ∧ k ≤ 1000 ∧ xs.length ≤ 1000 then some (.v (.tuple (List.replicate k.toNat xs).flatten)) else none
  | _ => none
def fdivD : List PyData → Option R
  | [.int i, .int j] => if 0 < j ∧ j < 1073741824 then some (.v (.int (i / j))) else none
  | _ => none
def modD : List PyData → Option R
  | [.int i, .int j] => if 0 < j then some (.v (.int (i % j))) else none
  | _ => none
def powD : List PyData → Option R
  | [.int i, .int j] => if 0 ≤ j ∧ j ≤ 1000000 ∧ i.natAbs < 2 ^ 64 then some (.v (.int (i ^ j.toNat))) else none
  | _ => none
def negD : List PyData → Option R
  | [.int i] => some (.v (.int (-i)))
  | _ => none
/-- a row of any kind, and the empty one -/
def nilD (neg : Bool) : PyData → PyData → Option R
  | .list xs, .list [] => if xs.length ≤ LIM ∧ xs ≠ [] then some (.v (.bool neg)) else none
  | .tuple xs, .tuple [] => if xs.length ≤ LIM ∧ xs ≠ [] then some (.v (.bool neg)) else none
  | _, _ => none
def eqD : List PyData → Option R
  | [.str a, .str b] => some (.v (.bool (decide (a = b))))
  | [a, b] => if SeqAt.shaped a = true ∧ SeqAt.shaped b = true then some (.v (.bool (PyData.eqv a b))) else nilD false a b
  | _ => none
def neD : List PyData → Option R
  | [.str a, .str b] => some (.v (.bool (!decide (a = b))))
  | [a, b] => if SeqAt.shaped a = true ∧ SeqAt.shaped b = true then some (.v (.bool (!PyData.eqv a b))) else nilD true a b
  | _ => none
def cmpR (o : Op) : List PyData → Option R
  | [a, b] => (cmpD o a b).map fun b => .v (.bool b)
  | _ => none
def isND : List PyData → Option R
  | [a] => some (.v (.bool (match a with | .none => true | _ => false)))
  | _ => none
def notND : List PyData → Option R
  | [a] => some (.v (.bool (match a with | .none => false | _ => true)))
  | _ => none
/-- a dict that is not empty shows by its keys which kind it is -/
def dkOk (kvs : List (PyData × PyData)) (k : PyData) : Bool := !kvs.isEmpty && ((keysK kvs && keyOk false k) || (keysT kvs && keyOk true k))
def hasD (a : PyData) : PyData → Option Bool
  | .list ds => if SeqAt.shaped a = true ∧ SeqAt.shaped (.list ds) = true then some (ds.any fun z => PyData.eqv z a) else none
  | .tuple ds => if SeqAt.shaped a = true ∧ SeqAt.shaped (.tuple ds) = true then some (ds.any fun z => PyData.eqv z a) else none
  | .dict kvs => if dkOk kvs a = true then some (look kvs a).isSome else none
  | _ => none
def inD : List PyData → Option R
  | [a, b] => (hasD a b).map fun c => .v (.bool c)
  | _ => none
def notinD : List PyData → Option R
  | [a, b] => (hasD a b).map fun c => .v (.bool (!c))
  | _ => none
def idxD : List PyData → Option R
  | [.list xs, .int i] => (pick xs i).map .v
  | [.tuple xs, .int i] => (pick xs i).map .v
  | [.dict kvs, k] => if dkOk kvs k = true then (look kvs k).map .v else none
  | _ => none
def slD (lo hi : Bool) : List PyData → Option R
  | [.list xs] => if lo = false ∧ hi = false then some (.fl (cutD xs none none)) else none
  | [.tuple xs] => if lo = false ∧ hi = false then some (.v (.tuple (cutD xs none none))) else none
  | [.list xs, .int i] => if lo = true ∧ hi = false then some (.fl (cutD xs (some i) none)) else if lo = false ∧ hi = true then some (.fl (cutD xs none (some i))) else none
  | [.tuple xs, .int i] => if lo = true ∧ hi = false then some (.v (.tuple (cutD xs (some i) none))) else if lo = false ∧ hi = true then some (.v (.tuple (cutD xs none (some i)))) else none
  | [.list xs, .int i, .int j] => if lo = true ∧ hi = true then some (.fl (cutD xs (some i) (some j))) else none
  | [.tuple xs, .int i, .int j] => if lo = true ∧ hi = true then some (.v (.tuple (cutD xs (some i) (some j)))) else none
  | _ => none
def revD : List PyData → Option R
  | [.list xs] => some (.fl xs.reverse)
  | [.tuple xs] => some (.v (.tuple xs.reverse))
  | _ => none
def lenD : List PyData → Option R
  | [.list xs] => some (.v (.int xs.length))
  | [.tuple xs] => some (.v (.int xs.length))
  | [.str s] => if s.length ≤ LIM then some (.v (.int s.length)) else none
  | _ => none
def tupleD : List PyData → Option R
  | [.list xs] => some (.v (.tuple xs))
  | [.tuple xs] => some (.v (.tuple xs))
  | _ => none
def listD : List PyData → Option R
  | [.list xs] => some (.fl xs)
  | [.tuple xs] => some (.fl xs)
  | _ => none
def lrngD : List PyData → Option R
  | [.int n] => if 0 ≤ n ∧ n ≤ 16777216 then some (.fl ((List.range n.toNat).map fun (i : Nat) => .int (0 + (i : Int)))) else none
  | _ => none
/-- a list that can be sorted: that of the kit, or one item at most -/
def Srtb (xs : List PyData) : Prop := PySem.W.Sortable xs ∨ xs.length ≤ 1 ∧ ∀ d ∈ xs, d ≠ .none
def srt (xs : List PyData) : Option R := if PySem.W.AllAlike xs ∧ Srtb xs ∧ (∀ d ∈ xs, nod d = true ∧ d.depth ≤ 20) then some (.fl (xs.mergeSort (PySem.W.dataLe false id))) else none
def sortedD : List PyData → Option R
  | [.list xs] => srt xs
  | [.tuple xs] => srt xs
  | [.dict kvs] => match toInts (kvs.map (·.1)) with
    | some ns => if 0 < ns.length ∧ ns.length < 64 then some (.fl ((ns.mergeSort fun a b => decide (a ≤ b)).map .int)) else none
    | none => if keysT kvs = true ∧ kvs.length ≤ LIM then srt (kvs.map (·.1)) else none
  | _ => none
def absD : List PyData → Option R
  | [.int i] => some (.v (.int (if i < 0 then -i else i)))
  | _ => none
def min2D : List PyData → Option R
  | [.int i, .int j] => some (.v (.int (if j < i then j else i)))
  | _ => none
def max2D : List PyData → Option R
  | [.int i, .int j] => some (.v (.int (if j > i then j else i)))
  | _ => none
def min1D : List PyData → Option R
  | [.list xs] => match toInts xs with
    | some (n :: ns) => some (.v (.int (ns.foldl min n)))
    | _ => none
  | [.tuple xs] => match toInts xs with
    | some (n :: ns) => some (.v (.int (ns.foldl min n)))
    | _ => none
  | _ => none
def max1D : List PyData → Option R
  | [.list xs] => match toInts xs with
    | some (n :: ns) => some (.v (.int (ns.foldl max n)))
    | _ => none
  | [.tuple xs] => match toInts xs with
    | some (n :: ns) => some (.v (.int (ns.foldl max n)))
    | _ => none
  | _ => none
def sumD : List PyData → Option R
  | [.list xs] => (toInts xs).map fun ns => .v (.int ns.sum)
  | [.tuple xs] => (toInts xs).map fun ns => .v (.int ns.sum)
  | _ => none
def anyD : List PyData → Option R
  | [.list xs] => (toBls xs).map fun bs => .v (.bool (bs.any id))
  | _ => none
def allD : List PyData → Option R
  | [.list xs] => (toBls xs).map fun bs => .v (.bool (bs.all id))
  | _ => none
def intD : List PyData → Option R
  | [.int i] => some (.v (.int i))
  | [.bool b] => some (.v (.int (if b then 1 else 0)))
  | _ => none
def strD : List PyData → Option R
  | [.int i] => if i.natAbs.log2 < 1920 then some (.v (.str (toString i))) else none
  | _ => none
mutual
def rok : PyData → Bool
  | .dict kvs => rokK kvs
  | .tuple ds => rokA ds
  | .list ds => rokA ds
  | _ => true
def rokA : List PyData → Bool
  | [] => true
  | d :: ds => rok d && rokA ds
def rokK : List (PyData × PyData) → Bool
  | [] => true
  | p :: ds => keyOk false p.1 && rok p.2 && rokK ds
end
def reprD : List PyData → Option R
  | [d] => if d.showable = true ∧ rok d = true ∧ d.shown.length ≤ LIM ∧ d.depth ≤ 60 then some (.v (.str d.shown)) else none
  | _ => none
def isiD (k : Nat) : List PyData → Option R
  | [d] => some (.v (.bool (isKind k d)))
  | _ => none
def getD1 : List PyData → Option R
  | [.dict kvs, k] => if dkOk kvs k = true then some (.v ((look kvs k).getD .none)) else none
  | _ => none
def notD : List PyData → Option R
  | [.bool b] => some (.v (.bool (!b)))
  | _ => none
def idiD : List PyData → Option R
  | [.int i] => some (.v (.int i))
  | _ => none
def isBD (b neg : Bool) : List PyData → Option R
  | [.bool c] => some (.v (.bool ((c == b) != neg)))
  | [_] => some (.v (.bool neg))
  | _ => none
/-- in its place, once -/
def insI (x : Int) : List Int → List Int
  | [] => [x]
  | y :: ys => if x < y then x :: y :: ys else if x = y then y :: ys else y :: insI x ys
def isd (ns : List Int) : List Int := ns.foldr insI []
def insT (x : List Int) : List (List Int) → List (List Int)
  | [] => [x]
  | y :: ys => if HT.lexLt x y = true then x :: y :: ys else if x = y then y :: ys else y :: insT x ys
def ist (ts : List (List Int)) : List (List Int) := ts.foldr insT []
def toTups : List PyData → Option (List (List Int))
  | [] => some []
  | .tuple xs :: ds => match toInts xs, toTups ds with
    | some a, some b => some (a :: b)
    | _, _ => none
  | _ :: _ => none
/-- sorted(set(x)) of whole numbers -/
def ssetI : List PyData → Option R
  | [.tuple xs] => match toInts xs with
    | some ns => if ns.length < 64 then some (.fl ((isd ns).map .int)) else none
    | none => none
  | _ => none
/-- .. of tuples of whole numbers -/
def ssetTs (xs : List PyData) : Option R := match toTups xs with
  | some ts => if ts.length < 64 ∧ ((∀ t ∈ ts, t ≠ []) ∨ ts.length ≤ 1) then some (.fl ((ist ts).map fun t => .tuple (t.map .int))) else none
  | none => none
def ssetT : List PyData → Option R
  | [.list xs] => ssetTs xs
  | [.tuple xs] => ssetTs xs
  | _ => none
def ssetD (ds : List PyData) : Option R := match ssetI ds with
  | some z => some z
  | none => ssetT ds
/-- len(set(x)) of whole numbers -/
def lsetD : List PyData → Option R
  | [.tuple xs] => match toInts xs with
    | some ns => if ns.length < 64 then some (.v (.int (isd ns).length)) else none
    | none => none
  | _ => none
def trngD : List PyData → Option R
  | [.int n] => if 0 ≤ n ∧ n ≤ 16777216 then some (.v (.tuple ((List.range n.toNat).map fun (i : Nat) => .int (0 + (i : Int))))) else none
  | _ => none
def indexD : List PyData → Option R
  | [.list xs, .int v] => match toInts xs with
    | some ns => if v ∈ ns then some (.v (.int (ns.idxOf v))) else none
    | none => none
  | _ => none
/-- xs.count(x) of truth values -/
def isBl : PyData → Bool
  | .bool _ => true
  | _ => false
def countD : List PyData → Option R
  | [.list xs, .bool b] => if xs.all isBl = true then some (.v (.int (xs.countP fun y => PyData.eqv y (.bool b) : Nat))) else none
  | _ => none
/-- dict(xs), a list of pairs with plain keys -/
def toPrs : List PyData → Option (List (PyData × PyData))
  | [] => some []
  | .tuple [k, v] :: ds => if keyOk false k = true then (toPrs ds).map ((k, v) :: ·) else none
  | _ :: _ => none
def dictPD : List PyData → Option R
  | [.list ds] => (toPrs ds).map fun ps => .fd false (mergeD [] ps)
  | _ => none
/-- list(zip(xs, ys)) of tuples of ints -/
def zipLD : List PyData → Option R
  | [.tuple xs, .tuple ys] => match toInts xs, toInts ys with
    | some ms, some ns => some (.fl ((ms.zip ns).map fun p => .tuple [.int p.1, .int p.2]))
    | _, _ => none
  | [.list xs, .list ys] => some (.fl ((xs.zip ys).map fun p => .tuple [p.1, p.2]))
  | _ => none
/-- min of a list of alike data -/
def minTD : List PyData → Option R
  | [.list (d :: ds)] => if PySem.W.AlikeAll (d :: ds) ∧ ∀ x ∈ d :: ds, nod x = true ∧ x.depth ≤ 20 then some (.v (PySem.W.minD d ds)) else none
  | _ => none
/-- texts alone -/
def strsD : List PyData → Option (List Str)
  | [] => some []
  | .str s :: ds => (strsD ds).map (s :: ·)
  | _ => none
/-- one behind the other -/
def catS : List Str → Str
  | [] => Str.empty
  | s :: ss => s ++ catS ss
def joinD : List PyData → Option R
  | [.str a, .list ds] => match strsD ds with
    | some ys => if (ys.map (·.length)).sum + ys.length * a.length ≤ LIM then some (.v (.str (Txt.join a ys))) else none
    | none => none
  | _ => none
def catD (ds : List PyData) : Option R := match strsD ds with
  | some ys => some (.v (.str (catS ys)))
  | none => none
def fmtD : List PyData → Option R
  | [.str y] => if y.length ≤ 1000000 then some (.v (.str y)) else none
  | [.int i] => if i.natAbs < 10 ^ 12 then some (.v (.str (toString i))) else none
  | _ => none
/-- a length -/
def lenI : List PyData → Option R
  | [.int n] => if 0 ≤ n ∧ n < 2 ^ 62 then some (.v (.int n)) else none
  | _ => none
/-- a text -/
def strI : List PyData → Option R
  | [.str y] => some (.v (.str y))
  | _ => none
def splitD : List PyData → Option R
  | [.str a, .str b] => if (b.length == 0) = false ∧ a.length + 2 ≤ LIM then some (.fl ((Txt.split a b).map .str)) else none
  | _ => none
/-- the sign c -/
def sgn (c : Nat) : Str := ⟨#[c]⟩
/-- a sign in a text -/
def inSg (neg : Bool) : List PyData → Option R
  | [.str ⟨⟨[c]⟩⟩, .str z] => some (.v (.bool (decide (c ∈ z.cps.toList) != neg)))
  | _ => none
def ixSD : List PyData → Option R
  | [.str z, .int i] => if z.length ≤ LIM then (L2.atI z.cps.toList i).map fun c => .v (.str (sgn c)) else none
  | _ => none
def slSD (lo hi : Bool) : List PyData → Option R
  | [.str z, .int i] => if z.length ≤ LIM ∧ lo = true ∧ hi = false then some (.v (.str (L2.cutS z (some i) none))) else if z.length ≤ LIM ∧ lo = false ∧ hi = true then some (.v (.str (L2.cutS z none (some i)))) else none
  | [.str z, .int i, .int j] => if z.length ≤ LIM ∧ lo = true ∧ hi = true then some (.v (.str (L2.cutS z (some i) (some j)))) else none
  | _ => none
def intSD : List PyData → Option R
  | [.str a] => if a.length ≤ 640 then (PySem.intText? a).map fun n => .v (.int n) else none
  | _ => none
/-- s * 0, s * 1 -/
def mulSD : List PyData → Option R
  | [.str a, .int i] => if a.length ≤ LIM ∧ i = 0 then some (.v (.str Str.empty)) else if a.length ≤ LIM ∧ i = 1 then some (.v (.str a)) else none
  | _ => none
/-- list(d), the keys tuples -/
def listDTD : List PyData → Option R
  | [.dict kvs] => if kvs ≠ [] ∧ keysT kvs = true ∧ kvs.length ≤ LIM then some (.fl (kvs.map (·.1))) else none
  | _ => none
/-- the hash of a tuple of whole numbers -/
def hashTI (ns : List Int) : Int := PySem.reduceHash (PySem.Builtin.Tuple.tupleHashOf (ns.map PySem.hashInt))
/-- keys of whole numbers, their hashes are different -/
def apartT (more : List (PyData × PyData)) : Prop := ∃ rows : List (List Int), more.map (·.1) = rows.map (fun r => PyData.tuple (r.map .int)) ∧ (rows.map hashTI).Nodup
noncomputable instance {more : List (PyData × PyData)} : Decidable (apartT more) := Classical.propDecidable _
/-- the first k of a place's words, one by one -/
def gD : Nat → List PyData → Option R
  | 0 => isBD true false | 1 => isBD true true | 2 => isBD false false | 3 => isBD false true
  | 4 => ssetD | 5 => lsetD | 6 => trngD | 7 => indexD | 8 => dictPD | 9 => countD | 10 => zipLD | 11 => minTD | 12 => joinD | 13 => catD | 14 => fmtD | 15 => splitD | 16 => lenI | 17 => strI
  | 18 => inSg false | 19 => inSg true | 20 => ixSD | 21 => slSD true false | 22 => slSD false true | 23 => slSD true true | 24 => intSD | 25 => mulSD | 26 => listDTD
  | _ => fun _ => none
def opD : Op → List PyData → Option R
  | .g k => gD k
  | .idi => idiD
  | .add => addD | .sub => subD | .mul => mulD | .fdiv => fdivD | .mod => modD | .pow => powD | .neg => negD | .eq => eqD | .ne => neD
  | .lt => cmpR .lt | .le => cmpR .le | .gt => cmpR .gt | .ge => cmpR .ge | .isN => isND | .notN => notND | .inn => inD | .notin => notinD
  | .idx => idxD | .sl lo hi => slD lo hi | .rev => revD | .len => lenD | .tuple => tupleD | .list => listD | .lrng => lrngD | .sorted => sortedD
  | .abs => absD | .min2 => min2D | .max2 => max2D | .min1 => min1D | .max1 => max1D | .sum => sumD | .any => anyD | .all => allD | .int => intD
  | .str => strD | .repr => reprD | .isi k => isiD k | .get => getD1 | .not => notD

/-- a dict of one's own, asked -/
def dictOp (e : Env) : Op → List R → Option R
  | .inn, [.v k, .pl i] => match e[i]? with
    | some (.od t kvs) => if keyOk t k = true then some (.v (.bool (look kvs k).isSome)) else none
    | _ => none
  | .notin, [.v k, .pl i] => match e[i]? with
    | some (.od t kvs) => if keyOk t k = true then some (.v (.bool (!(look kvs k).isSome))) else none
    | _ => none
  | .idx, [.pl i, .v k] => match e[i]? with
    | some (.od t kvs) => if keyOk t k = true then (look kvs k).map .v else none
    | _ => none
  | .get, [.pl i, .v k] => match e[i]? with
    | some (.od t kvs) => if keyOk t k = true then some (.v ((look kvs k).getD .none)) else none
    | _ => none
  | _, _ => none
def opE (e : Env) (o : Op) (rs : List R) : Option R := match dictOp e o rs with
  | some r => some r
  | none => match derefs e rs with
    | some ds => opD o ds
    | none => none

/-- the operations that write slot i's own list or dict -/
def mutD (o : MOp) (i : Nat) (rs : List R) (m : M) : Res R := match o, rs with
  | .app, [r] => match esc m.e r with
    | some (d, e) => match e[i]? with
      | some (.ol ds) => if ds.length < LIM then .ok (.v .none) ⟨e.set i (.ol (ds ++ [d])), m.s⟩ else .bad
      | _ => .bad
    | none => .bad
  | .pop, [] => match m.e[i]? with
    | some (.ol ds) => match ds[ds.length - 1]? with
      | some d => .ok (.v d) ⟨m.e.set i (.ol ds.dropLast), m.s⟩
      | none => .bad
    | _ => .bad
  | .popAt, [.v (.int k)] => match m.e[i]? with
    | some (.ol ds) => match L2.ixN ds.length k with
      | some j => match ds[j]? with
        | some d => .ok (.v d) ⟨m.e.set i (.ol (ds.eraseIdx j)), m.s⟩
        | none => .bad
      | none => .bad
    | _ => .bad
  | .ext, [.fl zs] => match m.e[i]? with
    | some (.ol ds) => if ds.length + zs.length ≤ LIM then .ok (.v .none) ⟨m.e.set i (.ol (ds ++ zs)), m.s⟩ else .bad
    | _ => .bad
  | .ext, [.pl j] => match m.e[i]?, m.e[j]? with
    | some (.ol ds), some (.ol zs) => if i ≠ j ∧ ds.length + zs.length ≤ LIM then .ok (.v .none) ⟨m.e.set i (.ol (ds ++ zs)), m.s⟩ else .bad
    | _, _ => .bad
  | .rem, [.v (.int k)] => match m.e[i]? with
    | some (.ol ds) => match toInts ds with
      | some ns => if k ∈ ns then .ok (.v .none) ⟨m.e.set i (.ol ((ns.erase k).map .int)), m.s⟩ else .bad
      | none => .bad
    | _ => .bad
  | .upd, [.fd false more] => match m.e[i]? with
    | some (.od false kvs) => if kvs.length + more.length ≤ LIM then .ok (.v .none) ⟨m.e.set i (.od false (mergeD kvs more)), m.s⟩ else .bad
    | _ => .bad
  | .ins, [.v (.int k), .v d] => match m.e[i]? with
    | some (.ol ds) => if 0 ≤ k ∧ k < 2 ^ 62 ∧ ds.length < LIM then .ok (.v .none) ⟨m.e.set i (.ol (ds.take k.toNat ++ [d] ++ ds.drop k.toNat)), m.s⟩ else .bad
    | _ => .bad
  | _, _ => .bad
/-- x[a], x[b] = a pair -/
def swpR (i ja jb : Nat) (r : R) (e : Env) : Option Env := match r with
  | .v (.tuple [d1, d2]) => match e[ja]?, e[jb]?, e[i]? with
    | some (.sh (.int a)), some (.sh (.int b)), some (.ol ds) => match L2.ixN ds.length a, L2.ixN ds.length b with
      | some j, some k => some (e.set i (.ol ((ds.set j d1).set k d2)))
      | _, _ => none
    | _, _, _ => none
  | _ => none
end
def isOwn : Option Slot → Bool
  | some (.ol _) => true
  | some (.od _ _) => true
  | _ => false
def mutOk : MOp → Option Slot → Bool
  | .upd, some (.od _ _) => true
  | .upd, _ => false
  | _, some (.ol _) => true
  | _, _ => false
def clear (e : Env) : List Nat → Env
  | [] => e
  | i :: is => (clear e is).set i .un
/-- the block's own slots as they were ahead -/
def back (e e0 : Env) : List Nat → Env
  | [] => e
  | i :: is => (back e e0 is).set i ((e0[i]?).getD .un)
/-- the source's list stands as it was -/
abbrev Src := Option (Nat × List PyData)
def srcOk (m : M) : Src → Prop
  | none => True
  | some (i, ds) => m.e[i]? = some (.ol ds)
def items (e : Env) : R → Option (List PyData × Src)
  | .v (.list ds) => some (ds, none)
  | .v (.tuple ds) => some (ds, none)
  | .fl ds => some (ds, none)
  | .pl i => match e[i]? with
    | some (.ol ds) => some (ds, some (i, ds))
    | some (.sh (.list ds)) => some (ds, none)
    | _ => none
  | _ => none
def rngD : List R → Option (List PyData)
  | [.v (.int j)] => if -(2 ^ 62) ≤ j ∧ j < 2 ^ 62 then some ((List.range j.toNat).map fun (k : Nat) => .int (0 + (k : Int))) else none
  | [.v (.int i), .v (.int j)] => if -(2 ^ 62) ≤ i ∧ i < 2 ^ 62 ∧ -(2 ^ 62) ≤ j ∧ j < 2 ^ 62 then some ((List.range (j - i).toNat).map fun (k : Nat) => .int (i + (k : Int))) else none
  | _ => none
/-- range(i, j, c) -/
def rg3D : List R → Option (List PyData)
  | [.v (.int i), .v (.int j), .v (.int c)] => if c ≠ 0 ∧ c.natAbs < 1073741824 ∧ Builtin.Range.small i j c = true then
      some ((List.range (Builtin.Range.rangeSize i j c).toNat).map fun (k : Nat) => .int (i + (k : Int) * c)) else none
  | _ => none
/- a target takes a value -/
mutual
def bind1 (e : Env) : Tg → PyData → Option Env
  | .nm i, d => some (e.set i (.sh d))
  | .tp ts, .tuple ds => bindL e ts ds
  | .tp ts, .list ds => bindL e ts ds
  | .tp _, _ => none
def bindL (e : Env) : Tgs → List PyData → Option Env
  | .nil, [] => some e
  | .cons t ts, d :: ds => match bind1 e t d with
    | some e1 => bindL e1 ts ds
    | none => none
  | _, _ => none
end
section
variable {m : M}
noncomputable section
open Classical
def lcL (src : Src) (own : List Nat) (bd : PyData → M → Res Bool) (el : M → Res R) : List PyData → List PyData → M → Res (List PyData)
  | [], acc, m => if srcOk m src then .ok acc m else .bad
  | d :: ds, acc, m => if srcOk m src then
      match bd d m with
      | .ok true m1 => match el m1 with
        | .ok r m2 => match esc m2.e r with
          | some (x, e3) => lcL src own bd el ds (acc ++ [x]) ⟨clear e3 own, m2.s⟩
          | none => .bad
        | _ => .bad
      | .ok false m1 => lcL src own bd el ds acc ⟨clear m1.e own, m1.s⟩
      | _ => .bad
    else .bad
def dcL (src : Src) (own : List Nat) (bd : PyData → M → Res Bool) (ek ev : M → Res R) (t : Bool) : List PyData → List (PyData × PyData) → M → Res (List (PyData × PyData))
  | [], acc, m => if srcOk m src then .ok acc m else .bad
  | d :: ds, acc, m => if srcOk m src then
      match bd d m with
      | .ok true m1 => match ek m1 with
        | .ok (.v k) m2 => match ev m2 with
          | .ok (.v x) m3 => if keyOk t k = true then dcL src own bd ek ev t ds (putD acc k x) ⟨clear m3.e own, m3.s⟩ else .bad
          | _ => .bad
        | _ => .bad
      | .ok false m1 => dcL src own bd ek ev t ds acc ⟨clear m1.e own, m1.s⟩
      | _ => .bad
    else .bad
def lopL (src : Src) (bd : PyData → M → Res Flow) : List PyData → M → Res Flow
  | [], m => if srcOk m src then .ok .nx m else .bad
  | d :: ds, m => if srcOk m src then
      match bd d m with
      | .ok .nx m1 => lopL src bd ds m1
      | .ok .ct m1 => lopL src bd ds m1
      | .ok .brk m1 => .ok .nx m1
      | .ok (.rt r) m1 => .ok (.rt r) m1
      | .rz c f m1 => .rz c f m1
      | .bad => .bad
    else .bad
end
end
def whL (c : M → Res Bool) (b : M → Res Flow) : Nat → M → Res Flow
  | 0, _ => .bad
  | n + 1, m => match c m with
    | .ok true m1 => match b m1 with
      | .ok .nx m2 => whL c b n m2
      | .ok .ct m2 => whL c b n m2
      | .ok .brk m2 => .ok .nx m2
      | .ok (.rt r) m2 => .ok (.rt r) m2
      | .rz x f m2 => .rz x f m2
      | .bad => .bad
    | .ok false m1 => .ok .nx m1
    | .rz x f m1 => .rz x f m1
    | .bad => .bad
def zipD : List (List PyData) → List PyData
  | [xs, ys] => List.zipWith (fun a b => .tuple [a, b]) xs ys
  | _ => []
def zip3D (xs ys zs : List PyData) : List PyData := (xs.zip (ys.zip zs)).map fun p => .tuple [p.1, p.2.1, p.2.2]
def enumD (k : Int) (xs : List PyData) : List PyData := (xs.zipIdx).map fun p => .tuple [.int (k + (p.2 : Int)), p.1]

def xiR (a b : Addr) (v : Bool) (m : M) : Option Slot → Res R
  | some (.ex a' none) => if a' = a then .ok (.v (.bool v)) m else .bad
  | some (.ex a' (some (b', _, _))) => if a' = a ∧ b' = b then .ok (.v (.bool v)) m else .bad
  | _ => .bad
def xfR (a b : Addr) (n : Str) (m : M) : Option Slot → Res R
  | some (.ex a' (some (b', n', d))) => if a' = a ∧ b' = b ∧ n' = n then .ok (.v d) m else .bad
  | _ => .bad
/-- object k: 0 is the deck -/
def obG (s : DS) : Nat → Option OB
  | 0 => none
  | k + 1 => s.obs[k]?
def obS (s : DS) (k : Nat) (o : OB) : DS := { s with obs := s.obs.set (k - 1) o }
def fldB (k : Nat) (sts eds : List PyData) (ask : Bool) (m : M) : FO → List R → Res R
  | .stA, [.v (.int j)] => match pick sts j with
    | some d => .ok (.v d) m
    | none => .bad
  | .lenS, [] => .ok (.v (.int sts.length)) m
  | .lenE, [] => .ok (.v (.int eds.length)) m
  | .ask, [] => .ok (.v (.bool ask)) m
  | .appS, [.v d] => if flat d = true ∧ sts.length < 10000 then .ok (.v .none) ⟨m.e, obS m.s k (.board (sts ++ [d]) eds ask)⟩ else .bad
  | .appE, [.v d] => if flat d = true ∧ eds.length < 10000 then .ok (.v .none) ⟨m.e, obS m.s k (.board sts (eds ++ [d]) ask)⟩ else .bad
  | .popS, [] => match sts[sts.length - 1]? with
    | some d => .ok (.v d) ⟨m.e, obS m.s k (.board sts.dropLast eds ask)⟩
    | none => .bad
  | .popE, [] => match eds[eds.length - 1]? with
    | some d => .ok (.v d) ⟨m.e, obS m.s k (.board sts eds.dropLast ask)⟩
    | none => .bad
  | .tupE, [] => .ok (.v (.tuple eds)) m
  | .lstS, [] => .ok (.fl sts) m
  | .lstE, [] => .ok (.fl eds) m
  | _, _ => .bad
def fldD (o : FO) (k : Nat) (rs : List R) (m : M) : Res R := match obG m.s k with
  | some (.board sts eds ask) => fldB k sts eds ask m o rs
  | some (.shell j) => match o, rs with
    | .brd, [] => .ok (.dk (j + 1)) m
    | _, _ => .bad
  | none => .bad
def kindOk : FO → Option OB → Bool
  | .brd, some (.shell _) => true
  | .brd, _ => false
  | _, some (.board _ _ _) => true
  | _, _ => false
def obKind : Bool → Option OB → Bool
  | true, some (.shell _) => true
  | false, some (.board _ _ _) => true
  | _, _ => false
def kindE (sh : Bool) : Res R → Bool
  | .ok (.dk k) m => obKind sh (obG m.s k)
  | .rz _ _ _ => true
  | _ => false
def consR (a : Res R) (b : M → Res (List R)) : Res (List R) := match a with
  | .ok r m1 => match b m1 with
    | .ok rs m2 => .ok (r :: rs) m2
    | .rz c f m2 => .rz c f m2
    | .bad => .bad
  | .rz c f m1 => .rz c f m1
  | .bad => .bad
def dkLe (n : Nat) : Slot → Bool
  | .dk k => decide (k ≤ n)
  | _ => true
def rdk : Flow → Bool
  | .rt (.dk _) => false
  | _ => true
/-- the n objects that were there stay; slot i is free again -/
def cutM (i n : Nat) (m : M) : M := ⟨m.e.set i .un, { m.s with obs := m.s.obs.take n }⟩
/-- a shell's board is one of the first n objects -/
def shLe (n : Nat) : OB → Bool
  | .shell j => decide (j < n)
  | _ => true
def cutOk (i n : Nat) (m : M) : Bool := m.s.obs.length == n + 1 && ((m.e.set i .un).all (dkLe n) && (m.s.obs.take n).all (shLe n))
def scp (i n : Nat) : Res Flow → Res Flow
  | .ok fl m => if cutOk i n m = true ∧ rdk fl = true then .ok fl (cutM i n m) else .bad
  | .rz c f m => if cutOk i n m = true then .rz c f (cutM i n m) else .bad
  | .bad => .bad
def addM (i : Nat) (o : OB) (m : M) : M := ⟨m.e.set i (.dk (m.s.obs.length + 1)), { m.s with obs := m.s.obs ++ [o] }⟩
noncomputable section
variable (cl : Nat → List Arg → DS → FRes)
mutual
def ev : E → M → Res R
  | .c d, m => .ok (.v d) m
  | .x i, m => match m.e[i]? with
    | some (.sh d) => .ok (.v d) m
    | some (.ol _) => .ok (.pl i) m
    | some (.od _ _) => .ok (.pl i) m
    | some (.dk k) => .ok (.dk k) m
    | _ => .bad
  | .op o es, m => match evs es m with
    | .ok rs m1 => match opE m1.e o rs with
      | some r => .ok r m1
      | none => .bad
    | .rz c f m1 => .rz c f m1
    | .bad => .bad
  | .call f es, m => match evs es m with
    | .ok rs m1 => match toArgs m1.e rs with
      | some as => match cl f as m1.s with
        | .ok r s => if hasPl rs = true ∧ flatR r = false then .bad else match r with
          | .pl _ => .bad
          | .dk _ => .bad
          | r => .ok r ⟨m1.e, s⟩
        | .rz c f s => if hasPl rs = true ∧ flatO f = false then .bad else .rz c f ⟨m1.e, s⟩
        | .bad => .bad
      | none => .bad
    | .rz c f m1 => .rz c f m1
    | .bad => .bad
  | .tup es, m => match evs es m with
    | .ok rs m1 => match escs m1.e rs with
      | some (ds, e) => if ds.length ≤ LIM then .ok (.v (.tuple ds)) ⟨e, m1.s⟩ else .bad
      | none => .bad
    | .rz c f m1 => .rz c f m1
    | .bad => .bad
  | .lst es, m => match evs es m with
    | .ok rs m1 => match escs m1.e rs with
      | some (ds, e) => if ds.length ≤ LIM then .ok (.fl ds) ⟨e, m1.s⟩ else .bad
      | none => .bad
    | .rz c f m1 => .rz c f m1
    | .bad => .bad
  | .emp t, m => .ok (.fd t []) m
  | .dsp t k v, m => match ev k m with
    | .ok (.v dk) m1 => match ev v m1 with
      | .ok (.v dv) m2 => if keyOk t dk = true then .ok (.fd t [(dk, dv)]) m2 else .bad
      | _ => .bad
    | _ => .bad
  | .and2 a b, m => match ev a m with
    | .ok (.v (.bool true)) m1 => ev b m1
    | .ok (.v (.bool false)) m1 => .ok (.v (.bool false)) m1
    | .ok _ _ => .bad
    | .rz c f m1 => .rz c f m1
    | .bad => .bad
  | .or2 a b, m => match ev a m with
    | .ok (.v d) m1 => if strFits d = true then (if truth d = true then .ok (.v d) m1 else ev b m1) else .bad
    | .ok _ _ => .bad
    | .rz c f m1 => .rz c f m1
    | .bad => .bad
  | .ite c a b, m => match evT c m with
    | .ok true m1 => ev a m1
    | .ok false m1 => ev b m1
    | .rz c f m1 => .rz c f m1
    | .bad => .bad
  | .chn o1 o2 a b c, m => match ev a m with
    | .ok (.v da) m1 => match ev b m1 with
      | .ok (.v db) m2 => match opD o1 [da, db] with
        | some (.v (.bool true)) => match ev c m2 with
          | .ok (.v dc) m3 => match opD o2 [db, dc] with
            | some r => .ok r m3
            | none => .bad
          | .ok _ _ => .bad
          | .rz c f m3 => .rz c f m3
          | .bad => .bad
        | some (.v (.bool false)) => .ok (.v (.bool false)) m2
        | _ => .bad
      | .ok _ _ => .bad
      | .rz c f m2 => .rz c f m2
      | .bad => .bad
    | .ok _ _ => .bad
    | .rz c f m1 => .rz c f m1
    | .bad => .bad
  | .mut o i es, m => if mutOk o m.e[i]? = true then match evs es m with
      | .ok rs m1 => mutD o i rs m1
      | .rz c f m1 => .rz c f m1
      | .bad => .bad
    else .bad
  | .lc t it c elt own, m => match evI it m with
      | .ok (ds, src) m1 => if own.all (fun i => !isOwn m1.e[i]?) = true ∧ ds.length ≤ LIM then match lcL src own (fun d m => match bind1 m.e t d with
            | some e => evT c ⟨e, m.s⟩
            | none => .bad) (fun m => ev elt m) ds [] ⟨clear m1.e own, m1.s⟩ with
        | .ok acc m2 => .ok (.fl acc) ⟨back m2.e m1.e own, m2.s⟩
        | _ => .bad
        else .bad
      | .rz c f m1 => .rz c f m1
      | .bad => .bad
  | .dc t it c k v own, m => match evI it m with
      | .ok (ds, src) m1 => if own.all (fun i => !isOwn m1.e[i]?) = true ∧ ds.length ≤ LIM then match dcL src own (fun d m => match bind1 m.e t d with
            | some e => evT c ⟨e, m.s⟩
            | none => .bad) (fun m => ev k m) (fun m => ev v m) false ds [] ⟨clear m1.e own, m1.s⟩ with
        | .ok acc m2 => .ok (.fd false acc) ⟨back m2.e m1.e own, m2.s⟩
        | _ => .bad
        else .bad
      | .rz c f m1 => .rz c f m1
      | .bad => .bad
  | .dcT t it c k v own, m => match evI it m with
      | .ok (ds, src) m1 => if own.all (fun i => !isOwn m1.e[i]?) = true ∧ ds.length ≤ LIM then match dcL src own (fun d m => match bind1 m.e t d with
            | some e => evT c ⟨e, m.s⟩
            | none => .bad) (fun m => ev k m) (fun m => ev v m) true ds [] ⟨clear m1.e own, m1.s⟩ with
        | .ok acc m2 => .ok (.fd true acc) ⟨back m2.e m1.e own, m2.s⟩
        | _ => .bad
        else .bad
      | .rz c f m1 => .rz c f m1
      | .bad => .bad
  | .updT i e, m => match m.e[i]? with
    | some (.od true _) => match ev e m with
      | .ok (.fd true more) m1 => match m1.e[i]? with
        | some (.od true kvs) => if kvs.length + more.length ≤ LIM ∧ (kvs ≠ [] ∨ apartT more) then .ok (.v .none) ⟨m1.e.set i (.od true (mergeD kvs more)), m1.s⟩ else .bad
        | _ => .bad
      | .ok _ _ => .bad
      | .rz c f m1 => .rz c f m1
      | .bad => .bad
    | _ => .bad
  | .ofT t, m => match evT t m with
    | .ok b m1 => .ok (.v (.bool b)) m1
    | .rz c f m1 => .rz c f m1
    | .bad => .bad
  | .xi i a b v, m => xiR a b v m m.e[i]?
  | .xf i a b n, m => xfR a b n m m.e[i]?
  | .fld o i es, m => match m.e[i]? with
    | some (.dk k) => if kindOk o (obG m.s k) = true then match evs es m with
      | .ok rs m1 => fldD o k rs m1
      | .rz c f m1 => .rz c f m1
      | .bad => .bad
      else .bad
    | _ => .bad
  | .meth sh f o es, m => if kindE sh (ev o m) = true then match consR (ev o m) (fun m => evs es m) with
    | .ok rs m1 => match toArgs m1.e rs with
      | some as => match cl f as m1.s with
        | .ok r s => if hasPl rs = true ∧ flatR r = false then .bad else match r with
          | .pl _ => .bad
          | .dk _ => .bad
          | r => .ok r ⟨m1.e, s⟩
        | .rz c f s => if hasPl rs = true ∧ flatO f = false then .bad else .rz c f ⟨m1.e, s⟩
        | .bad => .bad
      | none => .bad
    | .rz c f m1 => .rz c f m1
    | .bad => .bad
    else .bad
  | .chk e, m => match ev e m with
    | .ok r m1 => .ok r m1
    | _ => .bad
  | .eqO f a b, m => match ev a m with
    | .ok (.dk j) m1 => match ev b m1 with
      | .ok (.dk k) m2 => if obKind false (obG m2.s j) = true ∧ obKind false (obG m2.s k) = true then match cl f [.dk j, .dk k] m2.s with
        | .ok (.v d) s => .ok (.v d) ⟨m2.e, s⟩
        | _ => .bad
        else .bad
      | _ => .bad
    | _ => .bad
  | .isO sh i, m => match m.e[i]? with
    | some (.dk k) => if (obG m.s k).isSome = true then .ok (.v (.bool (obKind sh (obG m.s k)))) m else .bad
    | some (.sh _) => .ok (.v (.bool false)) m
    | _ => .bad
  | .cnew f1 es f2 rest, m => match evs es m with
    | .ok rs m1 => match toArgs m1.e rs with
      | some as => match cl f1 (.nil :: as) m1.s with
        | .ok (.v d) s => if flat d = true ∧ hasPl rs = false ∧ m1.e.all (dkLe s.obs.length) = true then match evs rest ⟨m1.e, { s with obs := s.obs ++ [.board [d] [] false] }⟩ with
          | .ok rs2 m3 => match toArgs m3.e rs2 with
            | some as2 => match cl f2 (.dk (s.obs.length + 1) :: as2) m3.s with
              | .ok r s4 => if flatR r = true ∧ hasPl rs2 = false ∧ s4.obs.length = s.obs.length + 1 ∧ (s4.obs.take s.obs.length).all (shLe s.obs.length) = true ∧ m3.e.all (dkLe s.obs.length) = true then .ok r ⟨m3.e, { s4 with obs := s4.obs.take s.obs.length }⟩ else .bad
              | _ => .bad
            | none => .bad
          | _ => .bad
          else .bad
        | _ => .bad
      | none => .bad
    | .rz c f m1 => .rz c f m1
    | .bad => .bad
def evs : Es → M → Res (List R)
  | .nil, m => .ok [] m
  | .cons e es, m => match ev e m with
    | .ok r m1 => match evs es m1 with
      | .ok rs m2 => .ok (r :: rs) m2
      | .rz c f m2 => .rz c f m2
      | .bad => .bad
    | .rz c f m1 => .rz c f m1
    | .bad => .bad
def evT : T → M → Res Bool
  | .yes, m => .ok true m
  | .e e, m => match ev e m with
    | .ok r m1 => match deref m1.e r with
      | some d => if strFits d = true then .ok (truth d) m1 else .bad
      | none => .bad
    | .rz c f m1 => .rz c f m1
    | .bad => .bad
  | .and a b, m => match evT a m with
    | .ok true m1 => evT b m1
    | .ok false m1 => .ok false m1
    | .rz c f m1 => .rz c f m1
    | .bad => .bad
  | .or a b, m => match evT a m with
    | .ok true m1 => .ok true m1
    | .ok false m1 => evT b m1
    | .rz c f m1 => .rz c f m1
    | .bad => .bad
  | .not a, m => match evT a m with
    | .ok b m1 => .ok (!b) m1
    | .rz c f m1 => .rz c f m1
    | .bad => .bad
def evI : It → M → Res (List PyData × Src)
  | .e e, m => match ev e m with
    | .ok r m1 => match items m1.e r with
      | some p => .ok p m1
      | none => .bad
    | .rz c f m1 => .rz c f m1
    | .bad => .bad
  | .rng es, m => match evs es m with
    | .ok rs m1 => match rngD rs with
      | some ds => .ok (ds, none) m1
      | none => .bad
    | .rz c f m1 => .rz c f m1
    | .bad => .bad
  | .enm e k, m => match ev e m with
    | .ok r m1 => match items m1.e r with
      | some (ds, src) => .ok (enumD k ds, src) m1
      | none => .bad
    | .rz c f m1 => .rz c f m1
    | .bad => .bad
  | .zip es, m => match evs es m with
    | .ok [.v (.tuple xs), .v (.tuple ys)] m1 => .ok (zipD [xs, ys], none) m1
    | .ok [.v (.list xs), .v (.list ys)] m1 => .ok (zipD [xs, ys], none) m1
    | .ok [.fl xs, .fl ys] m1 => .ok (zipD [xs, ys], none) m1
    | .ok [.v (.list xs), .fl ys] m1 => .ok (zipD [xs, ys], none) m1
    | .ok [.fl xs, .v (.list ys)] m1 => .ok (zipD [xs, ys], none) m1
    | .ok _ _ => .bad
    | .rz c f m1 => .rz c f m1
    | .bad => .bad
  | .zp3 es, m => match evs es m with
    | .ok [.v (.tuple xs), .v (.tuple ys), .v (.tuple zs)] m1 => .ok (zip3D xs ys zs, none) m1
    | .ok _ _ => .bad
    | .rz c f m1 => .rz c f m1
    | .bad => .bad
  | .txt e, m => match ev e m with
    | .ok (.v (.str x)) m1 => .ok (x.cps.toList.map fun c => .str (sgn c), none) m1
    | .ok _ _ => .bad
    | .rz c f m1 => .rz c f m1
    | .bad => .bad
  | .rg3 es, m => match evs es m with
    | .ok rs m1 => match rg3D rs with
      | some ds => .ok (ds, none) m1
      | none => .bad
    | .rz c f m1 => .rz c f m1
    | .bad => .bad
  | .zpl es, m => match evs es m with
    | .ok [.v (.list xs), .v (.list ys)] m1 => .ok (zipD [xs, ys], none) m1
    | .ok [.fl xs, .fl ys] m1 => .ok (zipD [xs, ys], none) m1
    | .ok [.v (.list xs), .fl ys] m1 => .ok (zipD [xs, ys], none) m1
    | .ok [.fl xs, .v (.list ys)] m1 => .ok (zipD [xs, ys], none) m1
    | .ok _ _ => .bad
    | .rz c f m1 => .rz c f m1
    | .bad => .bad
end
/-- slot i takes what an expression gave -/
def setR (i : Nat) (r : R) (e : Env) : Option Env := match r with
  | .fl ds => some (e.set i (.ol ds))
  | .fd t kvs => some (e.set i (.od t kvs))
  | .dk k => some (e.set i (.dk k))
  | r => match esc e r with
    | some (d, e1) => some (e1.set i (.sh d))
    | none => none
/- which slots a statement writes -/
mutual
def asgT : Tg → Nat → Bool
  | .nm i, j => i == j
  | .tp ts, j => asgTs ts j
def asgTs : Tgs → Nat → Bool
  | .nil, _ => false
  | .cons t ts, j => asgT t j || asgTs ts j
end
mutual
def asgS : S → Nat → Bool
  | .set t _, j => asgT t j
  | .par is _, j => is.contains j
  | .ite _ t f, j => asgSs t j || asgSs f j
  | .lop t _ b, j => asgT t j || asgSs b j
  | .wh _ b, j => asgSs b j
  | .tr b i ws _ _ _, j => asgSs b j || i == j || ws.contains j
  | .new i _ _ b, j => i == j || asgSs b j
  | .newS i _ b, j => i == j || asgSs b j
  | .fin b f, j => asgSs b j || asgSs f j
  | _, _ => false
def asgSs : Ss → Nat → Bool
  | .nil, _ => false
  | .cons s ss, j => asgS s j || asgSs ss j
end
def srcFree (A : Nat → Bool) : Src → Bool
  | none => true
  | some (i, _) => !A i
def setRs : List Nat → List R → Env → Option Env
  | [], [], e => some e
  | i :: is, r :: rs, e => match setR i r e with
    | some e1 => setRs is rs e1
    | none => none
  | _, _, _ => none
def noPl : List R → Bool
  | [] => true
  | .pl _ :: _ => false
  | _ :: rs => noPl rs
def rzR (c : Nat) (m : M) : List R → Res Flow
  | [] => .rz c none m
  | [r] => match esc m.e r with
    | some (d, e) => .rz c (some d) ⟨e, m.s⟩
    | none => .bad
  | _ => .bad
def exSlot (a b : Addr) : Option Str → Option PyData → Option Slot
  | none, none => some (.ex a none)
  | some n, some d => some (.ex a (some (b, n, d)))
  | _, _ => none
/-- the exception's name goes -/
def unE (i : Nat) : Res Flow → Res Flow
  | .ok (.rt (.pl _)) _ => .bad
  | .ok fl m => .ok fl ⟨m.e.set i .un, m.s⟩
  | _ => .bad
open Classical in
/-- a suite: its end is the same wherever the exception lies -/
def trF (i : Nat) (F : Addr → Addr → Res Flow) : Res Flow := if ∀ a b, unE i (F a b) = unE i (F 0 0) then unE i (F 0 0) else .bad
/-- a place from 1000 on: no name -/
def trG (i n : Nat) (F : Addr → Addr → Res Flow) : Res Flow := if 1000 ≤ i ∧ i < n then .bad else trF i F
mutual
def ex : S → M → Res Flow
  | .set (.nm i) e, m => match ev cl e m with
    | .ok r m1 => match setR i r m1.e with
      | some e => .ok .nx ⟨e, m1.s⟩
      | none => .bad
    | .rz c f m1 => .rz c f m1
    | .bad => .bad
  | .set t e, m => match ev cl e m with
    | .ok r m1 => match esc m1.e r with
      | some (d, e1) => match bind1 e1 t d with
        | some e => .ok .nx ⟨e, m1.s⟩
        | none => .bad
      | none => .bad
    | .rz c f m1 => .rz c f m1
    | .bad => .bad
  | .par is es, m => match evs cl es m with
    | .ok rs m1 => if noPl rs = true then match setRs is rs m1.e with
        | some e => .ok .nx ⟨e, m1.s⟩
        | none => .bad
      else .bad
    | .rz c f m1 => .rz c f m1
    | .bad => .bad
  | .sub i k e, m => match ev cl e m with
    | .ok r m1 => match esc m1.e r with
      | some (d, e1) => if isOwn e1[i]? = true then match ev cl k ⟨e1, m1.s⟩ with
          | .ok (.v dk) m2 => match m2.e[i]?, dk with
            | some (.ol ds), .int j => match L2.ixN ds.length j with
              | some n => .ok .nx ⟨m2.e.set i (.ol (ds.set n d)), m2.s⟩
              | none => .bad
            | some (.od t kvs), k => if keyOk t k = true ∧ kvs.length < LIM then .ok .nx ⟨m2.e.set i (.od t (putD kvs k d)), m2.s⟩ else .bad
            | _, _ => .bad
          | .ok _ _ => .bad
          | .rz c f m2 => .rz c f m2
          | .bad => .bad
        else .bad
      | none => .bad
    | .rz c f m1 => .rz c f m1
    | .bad => .bad
  | .ex e, m => match ev cl e m with
    | .ok _ m1 => .ok .nx m1
    | .rz c f m1 => .rz c f m1
    | .bad => .bad
  | .ret e, m => match ev cl e m with
    | .ok r m1 => .ok (.rt r) m1
    | .rz c f m1 => .rz c f m1
    | .bad => .bad
  | .retN, m => .ok (.rt (.v .none)) m
  | .ite c t f, m => match evT cl c m with
    | .ok true m1 => exs t m1
    | .ok false m1 => exs f m1
    | .rz c f m1 => .rz c f m1
    | .bad => .bad
  | .lop t it b, m => match evI cl it m with
    | .ok (ds, src) m1 => if srcFree (fun j => asgT t j || asgSs b j) src = true then lopL src (fun d m => match bind1 m.e t d with
        | some e => exs b ⟨e, m.s⟩
        | none => .bad) ds m1 else .bad
    | .rz c f m1 => .rz c f m1
    | .bad => .bad
  | .wh c b, m => whL (fun m => evT cl c m) (fun m => exs b m) 100000 m
  | .pass, m => .ok .nx m
  | .brk, m => .ok .brk m
  | .cont, m => .ok .ct m
  | .raise c es, m => match evs cl es m with
    | .ok rs m1 => rzR c m1 rs
    | .rz c f m1 => .rz c f m1
    | .bad => .bad
  | .tr b i _ hc fn su, m => match exs b m with
    | .rz c f m1 => if hc c = true then trG i m1.e.length fun a b' => match exSlot a b' (fn c) f with
        | some sl => exs (su c a b') ⟨m1.e.set i sl, m1.s⟩
        | none => .bad
      else .rz c f m1
    | r => r
  | .fin b f, m => match exs b m with
    | .ok .nx m1 => exs f m1
    | _ => .bad
  | .swp i e ja jb, m => match ev cl e m with
    | .ok r m1 => match swpR i ja jb r m1.e with
      | some e1 => .ok .nx ⟨e1, m1.s⟩
      | none => .bad
    | .rz c f m1 => .rz c f m1
    | .bad => .bad
  | .ask i b, m => match m.e[i]? with
    | some (.dk k) => match obG m.s k with
      | some (.board sts eds _) => .ok .nx ⟨m.e, obS m.s k (.board sts eds b)⟩
      | _ => .bad
    | _ => .bad
  | .new i f es b, m => match evs cl es m with
    | .ok rs m1 => match toArgs m1.e rs with
      | some as => if hasPl rs = false ∧ i < m1.e.length then match cl f (.nil :: as) m1.s with
        | .ok (.v d) s => if flat d = true ∧ (m1.e.set i .un).all (dkLe s.obs.length) = true then scp i s.obs.length (exs b (addM i (.board [d] [] false) ⟨m1.e, s⟩)) else .bad
        | .ok _ _ => .bad
        | .rz c f s => .rz c f ⟨m1.e, s⟩
        | .bad => .bad
        else .bad
      | none => .bad
    | .rz c f m1 => .rz c f m1
    | .bad => .bad
  | .newS i j b, m => match m.e[j]? with
    | some (.dk (k + 1)) => if i < m.e.length ∧ (m.e.set i .un).all (dkLe m.s.obs.length) = true ∧ obKind false (obG m.s (k + 1)) = true then scp i m.s.obs.length (exs b (addM i (.shell k) m)) else .bad
    | _ => .bad
def exs : Ss → M → Res Flow
  | .nil, m => .ok .nx m
  | .cons s ss, m => match ex s m with
    | .ok .nx m1 => exs ss m1
    | r => r
end
end
/-- a def: its slots, its parameters, its body -/
structure FD where
  ns : Nat
  np : Nat
  body : Ss
def slotA : Arg → Slot
  | .sh d => .sh d
  | .dk k => .dk k
  | .nil => .un
def finR (r : R) (m : M) : FRes := match r with
  | .pl i => match m.e[i]? with
    | some (.ol ds) => .ok (.fl ds) m.s
    | some (.od t kvs) => .ok (.fd t kvs) m.s
    | some (.sh d) => .ok (.v d) m.s
    | _ => .bad
  | .dk _ => .bad
  | r => .ok r m.s
noncomputable def runB (cl : Nat → List Arg → DS → FRes) (fd : FD) (as : List Arg) (s : DS) : FRes :=
  if as.length = fd.np then match exs cl fd.body ⟨as.map slotA ++ List.replicate (fd.ns - fd.np) .un, s⟩ with
    | .ok .nx m => .ok (.v .none) m.s
    | .ok (.rt r) m => finR r m
    | .ok _ _ => .bad
    | .rz c f m => .rz c f m.s
    | .bad => .bad
  else .bad
inductive FSem where
  | prim (g : List Arg → DS → FRes) | df (fd : FD)
noncomputable def run (tb : Nat → Option FSem) : Nat → Nat → List Arg → DS → FRes
  | 0, _, _, _ => .bad
  | n + 1, f, as, s => match tb f with
    | some (.prim g) => g as s
    | some (.df fd) => runB (run tb n) fd as s
    | none => .bad
end PV

/-! PV.3: slots, owned lists and dicts, the deck, against the abstract heap -/
namespace PV
open PySem PySem.Spec L2

/-- an object's addresses: its class, itself, its own dict, its lists -/
structure OA where
  shell : Bool
  C : Addr
  p : Addr
  dx : Addr
  l1 : Addr
  l2 : Addr
def OA.all (o : OA) : List Addr := if o.shell = true then [o.p] else [o.p, o.l1, o.l2]
structure Gd where
  fst : Addr
  snd : Addr × Addr
  obs : List OA
def Gd.ad (g : Gd) : Nat → Addr
  | 0 => g.1
  | k + 1 => match g.obs[k]? with
    | some o => o.p
    | none => 0
def DkS (g : Gd) : AP := fun a => a = g.1 ∨ a = g.2.1 ∨ a = g.2.2 ∨ ∃ o ∈ g.obs, a ∈ o.all
/-- what the objects' addresses are -/
structure GOb (K : PySem.W.Frag) (g : Gd) : Prop where
  cls : ∀ o ∈ g.obs, PySem.W.nsIn K mainGlobals (if o.shell = true then "Shell" else "Board") = some (some (.ref o.C))
theorem GOb.nil {K : PySem.W.Frag} {a : Addr} {b : Addr × Addr} : GOb K ⟨a, b, []⟩ := ⟨fun _ z => nomatch z⟩
structure OSt (g : Gd) : Prop where
  nd : (g.obs.flatMap OA.all).Nodup
  dk : ∀ o ∈ g.obs, ∀ a ∈ o.all, a ≠ g.1 ∧ a ≠ g.2.1 ∧ a ≠ g.2.2
theorem OSt.nil {a : Addr} {b : Addr × Addr} : OSt ⟨a, b, []⟩ := ⟨List.Pairwise.nil, fun _ z => nomatch z⟩
/-- a list of an object -/
def LR (H : Hp) (l : Addr) (ds : List PyData) : Prop := ∃ xs, H l = some (.lst xs) ∧ xs.length ≤ sizeLine ∧ flatA ds = true ∧ ∀ K, ShA K (fun _ => False) H xs ds
theorem Sh.flatL {K : PySem.W.Frag} {O O' : AP} {H : Hp} {xs : List V} {ds : List PyData} (f : flatA ds = true) (h : ShA K O H xs ds) : ShA K O' H xs ds :=
  Paired.imp_mem h fun _ _ m q => Sh.flat (flatA_mem f _ m) q
theorem LR.keep {M : AP} {H H' : Hp} {l : Addr} {ds : List PyData} (h : LR H l ds) (k : Keep M H H') (m : ¬ M l) : LR H' l ds := by
  obtain ⟨xs, h1, h2, h3, h4⟩ := h
  exact ⟨xs, k.stay _ _ h1 (.inl m), h2, h3, fun K => Sh.flatL h3 (ShA.keep (O := M) k (fun _ z => z) (Sh.flatL h3 (h4 K)))⟩
def bFs (l1 l2 : Addr) (ask : Bool) : List (Str × V) := [("states", .ref l1), ("standing", .ref l2), ("asking", .bl ask)]
def ObRep (g : Gd) (H : Hp) (oa : OA) : OB → Prop
  | .board sts eds ask => oa.shell = false ∧ H oa.p = some (.ins oa.C oa.dx (bFs oa.l1 oa.l2 ask)) ∧ LR H oa.l1 sts ∧ LR H oa.l2 eds
  | .shell j => oa.shell = true ∧ H oa.p = some (.ins oa.C oa.dx [("board", .ref (g.ad (j + 1)))]) ∧ j < g.obs.length
theorem ObRep.keep {g : Gd} {H H' : Hp} {M : AP} {oa : OA} {ob : OB} (h : ObRep g H oa ob) (k : Keep M H H') (m : ∀ a ∈ oa.all, ¬ M a) : ObRep g H' oa ob := by
  cases ob with
  | board sts eds ask =>
    obtain ⟨h0, h1, h2, h3⟩ := h
    have e : oa.all = [oa.p, oa.l1, oa.l2] := by unfold OA.all; rw [h0]; rfl
    rw [e] at m
    exact ⟨h0, k.stay _ _ h1 (.inl (m _ (by simp))), h2.keep k (m _ (by simp)), h3.keep k (m _ (by simp))⟩
  | shell j =>
    obtain ⟨h0, h1, h2⟩ := h
    have e : oa.all = [oa.p] := by unfold OA.all; rw [h0]; rfl
    rw [e] at m
    exact ⟨h0, k.stay _ _ h1 (.inl (m _ (by simp))), h2⟩
structure DkRep (g : Gd) (s : DS) (H : Hp) : Prop where
  cells : H g.2.1 = some (.lst (s.cells.map V.int))
  ne : g.1 ≠ g.2.1
  top : ((g.2.2 = g.1 ∧ s.rests = []) ∧ H g.1 = some (.lst [.ref g.2.1, .int s.cnt])) ∨ (g.2.2 ≠ g.1 ∧ g.2.2 ≠ g.2.1 ∧ H g.1 = some (.lst [.ref g.2.1, .int s.cnt, .ref g.2.2]) ∧ H g.2.2 = some (.lst (s.rests.map V.int)))
  obs : Paired (ObRep g H) g.obs s.obs
  st : OSt g
/-- the deck alone is written -/
theorem DkRep.obsD {g : Gd} {s : DS} {H : Hp} (h : DkRep g s H) {a : Addr} {o u : HO} (hu : H a = some u) (hs : still u = false) (ha : a = g.1 ∨ a = g.2.1 ∨ a = g.2.2) : Paired (ObRep g (upd H a o)) g.obs s.obs := by
  have key : ∀ {l : List OA} {bs : List OB}, Paired (ObRep g H) l bs → (∀ x ∈ l, x ∈ g.obs) → Paired (ObRep g (upd H a o)) l bs := by
    intro l bs p
    induction p with
    | nil => intro _; exact .nil
    | @cons x b l bs r _ ih =>
      intro hm
      refine .cons (r.keep (M := fun c => c = a) (Keep.write hu hs rfl) fun c hc e => ?_) (ih fun y hy => hm y (List.mem_cons_of_mem _ hy))
      obtain ⟨h1, h2, h3⟩ := h.st.dk x (hm x List.mem_cons_self) c hc
      rcases ha with z | z | z
      · exact h1 (e.trans z)
      · exact h2 (e.trans z)
      · exact h3 (e.trans z)
  exact key h.obs fun _ z => z
theorem Paired.memL {α β : Type} {F G : α → β → Prop} {l₁ : List α} {l₂ : List β} (h : Paired F l₁ l₂) : (∀ a b, a ∈ l₁ → F a b → G a b) → Paired G l₁ l₂ := by
  induction h with
  | nil => intro _; exact .nil
  | cons r _ ih => intro f; exact .cons (f _ _ List.mem_cons_self r) (ih fun a b m => f a b (List.mem_cons_of_mem _ m))
theorem DkRep.keep {g : Gd} {s : DS} {H H' : Hp} {M : AP} (h : DkRep g s H) (k : Keep M H H') (m : ∀ a, M a → ¬ DkS g a) : DkRep g s H' := by
  have n : ∀ a, DkS g a → ¬ M a := fun a d z => m a z d
  refine ⟨k.stay _ _ h.cells (.inl (n _ (.inr (.inl rfl)))), h.ne, ?_, Paired.memL h.obs fun o b ho q => q.keep k fun a ha => n a (.inr (.inr (.inr ⟨o, ho, ha⟩))), h.st⟩
  rcases h.top with ⟨e, t⟩ | ⟨e1, e2, t1, t2⟩
  · exact .inl ⟨e, k.stay _ _ t (.inl (n _ (.inl rfl)))⟩
  · exact .inr ⟨e1, e2, k.stay _ _ t1 (.inl (n _ (.inl rfl))), k.stay _ _ t2 (.inl (n _ (.inr (.inr (.inl rfl)))))⟩

def own (e : Env) (σ : St) : AP := fun a => ∃ i : Nat, isOwn e[i]? = true ∧ σ[i]? = some (some (.ref a))
def Ow (O : AP) (e : Env) (σ : St) : AP := fun a => O a ∨ own e σ a
def plus (O : AP) (F : List Addr) : AP := fun a => O a ∨ a ∈ F
def Mu (g : Gd) (e : Env) (σ : St) : AP := fun a => own e σ a ∨ DkS g a
def DcT (K : PySem.W.Frag) (O : AP) (H : Hp) : Bool → HO → List (PyData × PyData) → Prop
  | false, o, kvs => ∃ ks, o = .dK ks ∧ Paired (fun p q => q.1 = keyD p.1 ∧ Sh K O H p.2 q.2) ks kvs
  | true, o, kvs => ∃ ks, o = .dT ks ∧ Paired (fun p q => q.1 = keyT p.1 ∧ Sh K O H p.2 q.2) ks kvs
theorem DcT.is {K : PySem.W.Frag} {O : AP} {H : Hp} {t : Bool} {o : HO} {kvs : List (PyData × PyData)} (h : DcT K O H t o kvs) : DcIs K O H o kvs := by
  cases t with
  | false => exact .inl h
  | true => exact .inr h
theorem DcT.go {K : PySem.W.Frag} {O O' M : AP} {H H' : Hp} {t : Bool} {o : HO} {kvs : List (PyData × PyData)} (h : DcT K O H t o kvs) (k : Keep M H H') (m : ∀ a, M a → O a) (n : ∀ a, O' a → O a ∨ H a = none) : DcT K O' H' t o kvs := by
  cases t with
  | false => obtain ⟨ks, e, q⟩ := h; exact ⟨ks, e, Paired.imp q fun _ _ q => ⟨q.1, q.2.go k m n⟩⟩
  | true => obtain ⟨ks, e, q⟩ := h; exact ⟨ks, e, Paired.imp q fun _ _ q => ⟨q.1, q.2.go k m n⟩⟩
theorem DcT.weak {K : PySem.W.Frag} {O O' : AP} {H : Hp} {t : Bool} {o : HO} {kvs : List (PyData × PyData)} (h : DcT K O H t o kvs) (n : ∀ a, O' a → O a) : DcT K O' H t o kvs :=
  h.go (M := fun _ => False) Keep.refl (fun _ z => z.elim) fun a z => .inl (n a z)

def SlotR (K : PySem.W.Frag) (g : Gd) (O0 O : AP) (σ : St) (H : Hp) (i : Nat) : Slot → Prop
  | .un => True
  | .sh d => ∃ v, σ[i]? = some (some v) ∧ Sh K O H v d
  | .ol ds => ∃ p xs, σ[i]? = some (some (.ref p)) ∧ ¬ O0 p ∧ H p = some (.lst xs) ∧ xs.length ≤ sizeLine ∧ ShA K O H xs ds
  | .od t kvs => ∃ p o, σ[i]? = some (some (.ref p)) ∧ ¬ O0 p ∧ H p = some o ∧ DcT K O H t o kvs
  | .dk k => σ[i]? = some (some (.ref (g.ad k)))
  | .ex a f => σ[i]? = some (some (.ref a)) ∧ ∀ b n d, f = some (b, n, d) → ∃ v, H b = some (.xd [(n, v)]) ∧ Sh K O H v d
structure Rep (K : PySem.W.Frag) (g : Gd) (O0 : AP) (e : Env) (σ : St) (H : Hp) : Prop where
  len : e.length = σ.length
  at' : ∀ (i : Nat) s, e[i]? = some s → SlotR K g O0 (Ow O0 e σ) σ H i s
  inj : ∀ (i j : Nat) a, isOwn e[i]? = true → isOwn e[j]? = true → σ[i]? = some (some (.ref a)) → σ[j]? = some (some (.ref a)) → i = j

section
variable {K : PySem.W.Frag} {g : Gd} {O0 O0' M : AP} {e e' : Env} {σ σ' : St} {H H' : Hp}

theorem isOwn_cases {s : Option Slot} (h : isOwn s = true) : (∃ ds, s = some (.ol ds)) ∨ ∃ t kvs, s = some (.od t kvs) := by
  cases s with
  | none => simp [isOwn] at h
  | some s => cases s with
    | ol ds => exact .inl ⟨ds, rfl⟩
    | od t kvs => exact .inr ⟨t, kvs, rfl⟩
    | un => simp [isOwn] at h
    | sh d => simp [isOwn] at h
    | dk => simp [isOwn] at h
    | ex a f => simp [isOwn] at h
/-- an owned object: it stands, it is no still one, and O0 has it not -/
theorem Rep.owned (r : Rep K g O0 e σ H) {a : Addr} (h : own e σ a) : ¬ O0 a ∧ ∃ o, H a = some o ∧ still o = false := by
  obtain ⟨i, h1, h2⟩ := h
  rcases isOwn_cases h1 with ⟨ds, e1⟩ | ⟨t, kvs, e1⟩
  · obtain ⟨p, xs, q, n, hp, _⟩ := r.at' i _ e1
    rw [h2] at q; cases q
    exact ⟨n, _, hp, rfl⟩
  · obtain ⟨p, o, q, n, hp, d⟩ := r.at' i _ e1
    rw [h2] at q; cases q
    exact ⟨n, _, hp, d.is.still⟩
theorem SlotR.go {O O' : AP} {i : Nat} {s : Slot} (h : SlotR K g O0 O σ H i s) (k : Keep M H H') (m : ∀ a, M a → O0 a) (mo : ∀ a, O0 a → O a) (n0 : ∀ a, O0' a → O0 a ∨ H a = none) (n : ∀ a, O' a → O a ∨ H a = none) : SlotR K g O0' O' σ H' i s := by
  cases s with
  | un => trivial
  | sh d => obtain ⟨v, q, z⟩ := h; exact ⟨v, q, z.go k (fun a z => mo a (m a z)) n⟩
  | ol ds =>
    obtain ⟨p, xs, q, c, hp, z, s⟩ := h
    exact ⟨p, xs, q, fun z => (n0 p z).elim c fun z => by (rw [hp] at z; cases z), k.stay p _ hp (.inl fun z => c (m p z)), z, s.go k (fun a z => mo a (m a z)) n⟩
  | od t kvs =>
    obtain ⟨p, o, q, c, hp, s⟩ := h
    exact ⟨p, o, q, fun z => (n0 p z).elim c fun z => by (rw [hp] at z; cases z), k.stay p _ hp (.inl fun z => c (m p z)), s.go k (fun a z => mo a (m a z)) n⟩
  | dk => exact h
  | ex a f => exact ⟨h.1, fun b n' d e => by
    obtain ⟨v, h1, h2⟩ := h.2 b n' d e
    exact ⟨v, k.stay _ _ h1 (.inr rfl), h2.go k (fun a z => mo a (m a z)) n⟩⟩
/-- the heap goes on, nothing owned is written -/
theorem Rep.go (r : Rep K g O0 e σ H) (k : Keep M H H') (m : ∀ a, M a → O0 a) (n : ∀ a, O0' a → O0 a ∨ H a = none) : Rep K g O0' e σ H' :=
  ⟨r.len, fun i s h => (r.at' i s h).go k m (fun _ z => .inl z) n fun a z => z.elim (fun z => (n a z).imp .inl id) fun z => .inl (.inr z), r.inj⟩
theorem Rep.weak (r : Rep K g O0 e σ H) (n : ∀ a, O0' a → O0 a) : Rep K g O0' e σ H := r.go (M := fun _ => False) Keep.refl (fun _ z => z.elim) fun a z => .inl (n a z)

theorem get_set {α : Type} {l : List α} {i j : Nat} {a b : α} (h : (l.set i a)[j]? = some b) : (j = i ∧ b = a ∧ i < l.length) ∨ (j ≠ i ∧ l[j]? = some b) := by
  by_cases z : i = j
  · subst z
    rw [List.getElem?_set] at h
    split at h
    · split at h
      · exact .inl ⟨rfl, (Option.some.inj h).symm, by assumption⟩
      · cases h
    · exact absurd rfl ‹¬ _›
  · rw [List.getElem?_set_ne z] at h
    exact .inr ⟨fun q => z q.symm, h⟩
theorem isOwn_set {i j : Nat} {s : Slot} (h : isOwn (e.set i s)[j]? = true) : (j = i ∧ isOwn (some s) = true) ∨ (j ≠ i ∧ isOwn e[j]? = true) := by
  cases q : (e.set i s)[j]? with
  | none => rw [q] at h; simp [isOwn] at h
  | some u =>
    rw [q] at h
    rcases get_set q with ⟨z, y, _⟩ | ⟨z, y⟩
    · subst y; exact .inl ⟨z, h⟩
    · exact .inr ⟨z, by rw [y]; exact h⟩
/-- a slot that owns nothing is written -/
theorem own_set {i : Nat} {s : Slot} (ns : isOwn (some s) = false) {x : Option V} {a : Addr} (h : own (e.set i s) (σ.set i x) a) : own e σ a := by
  obtain ⟨j, h1, h2⟩ := h
  rcases isOwn_set h1 with ⟨z, y⟩ | ⟨z, y⟩
  · rw [ns] at y; cases y
  · rcases get_set h2 with ⟨q, _, _⟩ | ⟨_, q⟩
    · exact absurd q z
    · exact ⟨j, y, q⟩
theorem own_set' {i : Nat} {s : Slot} (ns : isOwn (some s) = false) {a : Addr} (h : own (e.set i s) σ a) : own e σ a := by
  obtain ⟨j, h1, h2⟩ := h
  rcases isOwn_set h1 with ⟨z, y⟩ | ⟨z, y⟩
  · rw [ns] at y; cases y
  · exact ⟨j, y, h2⟩
theorem SlotR.weak {O O' : AP} {i : Nat} {s : Slot} (h : SlotR K g O0 O σ H i s) (n : ∀ a, O' a → O a) (mo : ∀ a, O0 a → O a) : SlotR K g O0 O' σ H i s := h.go (M := fun _ => False) Keep.refl (fun _ z => z.elim) mo (fun _ z => .inl z) fun a z => .inl (n a z)
theorem SlotR.other {O : AP} {i j : Nat} {s : Slot} {x : Option V} (h : SlotR K g O0 O σ H j s) (n : j ≠ i) : SlotR K g O0 O (σ.set i x) H j s := by
  have q : (σ.set i x)[j]? = σ[j]? := List.getElem?_set_ne (Ne.symm n)
  cases s with
  | un => trivial
  | sh d => obtain ⟨v, h1, h2⟩ := h; exact ⟨v, by rw [q]; exact h1, h2⟩
  | ol ds => obtain ⟨p, xs, h1, h2⟩ := h; exact ⟨p, xs, by rw [q]; exact h1, h2⟩
  | od t kvs => obtain ⟨p, xs, h1, h2⟩ := h; exact ⟨p, xs, by rw [q]; exact h1, h2⟩
  | dk => show (σ.set i x)[j]? = _; rw [q]; exact h
  | ex a f => exact ⟨by rw [q]; exact h.1, h.2⟩
/-- slot i takes a value that owns nothing -/
theorem Rep.setN (r : Rep K g O0 e σ H) {i : Nat} {s : Slot} {x : Option V} (ns : isOwn (some s) = false) (hs : i < e.length → SlotR K g O0 (Ow O0 e σ) (σ.set i x) H i s) : Rep K g O0 (e.set i s) (σ.set i x) H := by
  have ow : ∀ a, Ow O0 (e.set i s) (σ.set i x) a → Ow O0 e σ a := fun a z => z.imp id fun z => own_set ns z
  refine ⟨by simp [r.len], fun j u h => ?_, fun j k a h1 h2 h3 h4 => ?_⟩
  · rcases get_set h with ⟨rfl, rfl, l⟩ | ⟨z, y⟩
    · exact (hs l).weak ow fun _ z => .inl z
    · exact ((r.at' j u y).other z).weak ow fun _ z => .inl z
  · rcases isOwn_set h1 with ⟨z, y⟩ | ⟨z, y⟩
    · rw [ns] at y; cases y
    · rcases isOwn_set h2 with ⟨z', y'⟩ | ⟨z', y'⟩
      · rw [ns] at y'; cases y'
      · rcases get_set h3 with ⟨q, _⟩ | ⟨_, q⟩
        · exact absurd q z
        · rcases get_set h4 with ⟨q', _⟩ | ⟨_, q'⟩
          · exact absurd q' z'
          · exact r.inj j k a y y' q q'
theorem Rep.setSh (r : Rep K g O0 e σ H) {i : Nat} {v : V} {d : PyData} (h : Sh K (Ow O0 e σ) H v d) : Rep K g O0 (e.set i (.sh d)) (σ.set i (some v)) H :=
  r.setN rfl fun l => ⟨v, by rw [List.getElem?_set_self (by rw [← r.len]; exact l)], h⟩
theorem Rep.setUn (r : Rep K g O0 e σ H) {i : Nat} {x : Option V} : Rep K g O0 (e.set i .un) (σ.set i x) H := r.setN rfl fun _ => trivial
theorem Rep.setDk (r : Rep K g O0 e σ H) {i k : Nat} : Rep K g O0 (e.set i (.dk k)) (σ.set i (some (.ref (g.ad k)))) H := r.setN rfl fun l => by
  show (σ.set i (some (V.ref (g.ad k))))[i]? = _
  rw [List.getElem?_set_self (by rw [← r.len]; exact l)]
/-- the env forgets slot i, the frame does not -/
theorem Rep.drop (r : Rep K g O0 e σ H) {i : Nat} : Rep K g O0 (e.set i .un) σ H := by
  have ow : ∀ a, Ow O0 (e.set i .un) σ a → Ow O0 e σ a := fun a z => z.imp id fun z => own_set' rfl z
  refine ⟨by simp [r.len], fun j u h => ?_, fun j k a h1 h2 h3 h4 => ?_⟩
  · rcases get_set h with ⟨rfl, rfl, l⟩ | ⟨z, y⟩
    · trivial
    · exact (r.at' j u y).weak ow fun _ z => .inl z
  · rcases isOwn_set h1 with ⟨z, y⟩ | ⟨z, y⟩
    · simp [isOwn] at y
    · rcases isOwn_set h2 with ⟨z', y'⟩ | ⟨z', y'⟩
      · simp [isOwn] at y'
      · exact r.inj j k a y y' h3 h4
/-- slot i takes a new list or dict of its own, at p -/
theorem Rep.setOwn {p : Addr} (r : Rep K g (plus O0 [p]) e σ H) (n0 : ¬ O0 p) (no : ¬ own e σ p) {i : Nat} {s : Slot}
    (hs : i < e.length → SlotR K g O0 (Ow (plus O0 [p]) e σ) (σ.set i (some (.ref p))) H i s) : Rep K g O0 (e.set i s) (σ.set i (some (.ref p))) H := by
  have ow' : ∀ a, own (e.set i s) (σ.set i (some (.ref p))) a → a = p ∨ own e σ a := fun a ⟨j, h1, h2⟩ => by
    rcases isOwn_set h1 with ⟨z, y⟩ | ⟨z, y⟩
    · rcases get_set h2 with ⟨_, q, _⟩ | ⟨q, _⟩
      · cases q; exact .inl rfl
      · exact absurd z q
    · rcases get_set h2 with ⟨q, _, _⟩ | ⟨_, q⟩
      · exact absurd q z
      · exact .inr ⟨j, y, q⟩
  have ow : ∀ a, Ow O0 (e.set i s) (σ.set i (some (.ref p))) a → Ow (plus O0 [p]) e σ a := fun a z => by
    rcases z with z | z
    · exact .inl (.inl z)
    · rcases ow' a z with z | z
      · exact .inl (.inr (by simp [z]))
      · exact .inr z
  refine ⟨by simp [r.len], fun j u h => ?_, fun j k a h1 h2 h3 h4 => ?_⟩
  · rcases get_set h with ⟨rfl, rfl, l⟩ | ⟨z, y⟩
    · exact (hs l).weak ow fun a z => .inl (.inl z)
    · exact (((r.at' j u y).go (M := fun _ => False) (O0' := O0) (O' := Ow (plus O0 [p]) e σ) Keep.refl (fun _ z => z.elim) (fun _ z => .inl z) (fun a z => .inl (.inl z)) fun a z => .inl z).other z).weak ow fun a z => .inl (.inl z)
  · have at_i : ∀ j, isOwn (e.set i s)[j]? = true → (σ.set i (some (.ref p)))[j]? = some (some (.ref a)) → (j = i ∧ a = p) ∨ (j ≠ i ∧ isOwn e[j]? = true ∧ σ[j]? = some (some (.ref a))) := fun j h1 h2 => by
      rcases isOwn_set h1 with ⟨z, y⟩ | ⟨z, y⟩
      · rcases get_set h2 with ⟨_, q, _⟩ | ⟨q, _⟩
        · cases q; exact .inl ⟨z, rfl⟩
        · exact absurd z q
      · rcases get_set h2 with ⟨q, _, _⟩ | ⟨_, q⟩
        · exact absurd q z
        · exact .inr ⟨z, y, q⟩
    rcases at_i j h1 h3 with ⟨z, y⟩ | ⟨z, y, q⟩
    · rcases at_i k h2 h4 with ⟨z', _⟩ | ⟨_, y', q'⟩
      · rw [z, z']
      · exact absurd ⟨k, y', by rw [q', y]⟩ no
    · rcases at_i k h2 h4 with ⟨_, y'⟩ | ⟨_, y', q'⟩
      · exact absurd ⟨j, y, by rw [q, y']⟩ no
      · exact r.inj j k a y y' q q'
theorem own_eq {i : Nat} {s u : Slot} (h : e[i]? = some u) (c : isOwn (some s) = isOwn (some u)) {a : Addr} : own (e.set i s) σ a ↔ own e σ a := by
  have l : i < e.length := (List.getElem?_eq_some_iff.mp h).1
  constructor
  · rintro ⟨j, h1, h2⟩
    rcases isOwn_set h1 with ⟨z, y⟩ | ⟨z, y⟩
    · exact ⟨j, by rw [z, h, ← c]; exact y, h2⟩
    · exact ⟨j, y, h2⟩
  · rintro ⟨j, h1, h2⟩
    refine ⟨j, ?_, h2⟩
    by_cases z : j = i
    · subst z
      rw [List.getElem?_set_self l, c, ← h]; exact h1
    · rw [List.getElem?_set_ne (Ne.symm z)]; exact h1
/-- what slot i owns, at p, is written: before, the new content must be readable -/
theorem Rep.write (r : Rep K g O0 e σ H) {i : Nat} {s u : Slot} {p : Addr} {o : HO} (hi : e[i]? = some u) (hu : isOwn (some u) = true) (hs : isOwn (some s) = true) (hp : σ[i]? = some (some (.ref p)))
    (new : Keep (own e σ) H (upd H p o) → SlotR K g O0 (Ow O0 e σ) σ (upd H p o) i s) : Rep K g O0 (e.set i s) σ (upd H p o) := by
  have oi : own e σ p := ⟨i, by rw [hi]; exact hu, hp⟩
  obtain ⟨n0, o', ho, st⟩ := r.owned oi
  have k : Keep (own e σ) H (upd H p o) := Keep.write ho st oi
  have ow : ∀ a, own (e.set i s) σ a ↔ own e σ a := fun a => own_eq hi (by rw [hs, hu])
  refine ⟨by simp [r.len], fun j w h => ?_, fun j l a h1 h2 h3 h4 => ?_⟩
  · have wk : ∀ a, Ow O0 (e.set i s) σ a → Ow O0 e σ a := fun a z => z.imp id (ow a).mp
    rcases get_set h with ⟨rfl, rfl, l⟩ | ⟨z, y⟩
    · exact (new k).weak wk fun _ z => .inl z
    · refine SlotR.weak (O := Ow O0 e σ) ?_ wk fun _ z => .inl z
      have q := r.at' j w y
      cases w with
      | un => trivial
      | sh d => obtain ⟨v, h1, h2⟩ := q; exact ⟨v, h1, h2.go k (fun _ z => .inr z) fun _ z => .inl z⟩
      | ol ds =>
        obtain ⟨p2, xs, h1, h2, h3, h4, h5⟩ := q
        have ne : p2 ≠ p := fun z' => z (r.inj j i p (by rw [y]; rfl) (by rw [hi]; exact hu) (by rw [h1, z']) hp)
        exact ⟨p2, xs, h1, h2, by rw [upd_ne ne]; exact h3, h4, h5.go k (fun _ z => .inr z) fun _ z => .inl z⟩
      | od t kvs =>
        obtain ⟨p2, xs, h1, h2, h3, h5⟩ := q
        have ne : p2 ≠ p := fun z' => z (r.inj j i p (by rw [y]; rfl) (by rw [hi]; exact hu) (by rw [h1, z']) hp)
        exact ⟨p2, xs, h1, h2, by rw [upd_ne ne]; exact h3, h5.go k (fun _ z => .inr z) fun _ z => .inl z⟩
      | dk => exact q
      | ex a f =>
        refine ⟨q.1, fun b n' d e => ?_⟩
        obtain ⟨v, h1, h2⟩ := q.2 b n' d e
        exact ⟨v, k.stay _ _ h1 (.inr rfl), h2.go k (fun _ z => .inr z) fun _ z => .inl z⟩
  · have c : ∀ j, isOwn (e.set i s)[j]? = true → isOwn e[j]? = true := fun j h => by
      rcases isOwn_set h with ⟨z, y⟩ | ⟨z, y⟩
      · rw [z, hi]; exact hu
      · exact y
    exact r.inj j l a (c j h1) (c l h2) h3 h4
/-- what slot i owns is shared from now on -/
theorem Rep.share (r : Rep K g O0 e σ H) {i : Nat} {d : PyData} (hi : (∃ ds, e[i]? = some (.ol ds) ∧ d = .list ds) ∨ ∃ t kvs, e[i]? = some (.od t kvs) ∧ d = .dict kvs) :
    ∃ v, σ[i]? = some (some v) ∧ Sh K (Ow O0 (e.set i (.sh d)) σ) H v d ∧ Rep K g O0 (e.set i (.sh d)) σ H := by
  have ow : ∀ a, Ow O0 (e.set i (.sh d)) σ a → Ow O0 e σ a := fun a z => z.imp id fun z => own_set' rfl z
  have main : ∃ v, σ[i]? = some (some v) ∧ Sh K (Ow O0 (e.set i (.sh d)) σ) H v d := by
    have nope : ∀ p, isOwn e[i]? = true → σ[i]? = some (some (.ref p)) → ¬ O0 p → ¬ Ow O0 (e.set i (.sh d)) σ p := fun p ho hp n0 z => by
      rcases z with z | ⟨j, h1, h2⟩
      · exact n0 z
      · rcases isOwn_set h1 with ⟨_, y⟩ | ⟨z, y⟩
        · simp [isOwn] at y
        · exact z (r.inj j i p y ho h2 hp)
    rcases hi with ⟨ds, h, rfl⟩ | ⟨t, kvs, h, rfl⟩
    · obtain ⟨p, xs, h1, h2, h3, h4, h5⟩ := r.at' i _ h
      exact ⟨.ref p, h1, sh_list.mpr ⟨p, xs, rfl, ⟨nope p (by rw [h]; rfl) h1 h2, h3⟩, h4, h5.weak ow⟩⟩
    · obtain ⟨p, o, h1, h2, h3, h5⟩ := r.at' i _ h
      exact ⟨.ref p, h1, sh_dict.mpr ⟨p, o, rfl, nope p (by rw [h]; rfl) h1 h2, h3, h5.is.weak ow⟩⟩
  obtain ⟨v, h1, h2⟩ := main
  refine ⟨v, h1, h2, by simp [r.len], fun j u h => ?_, fun j k a h1 h2 h3 h4 => ?_⟩
  · rcases get_set h with ⟨rfl, rfl, l⟩ | ⟨z, y⟩
    · exact ⟨v, h1, h2⟩
    · exact (r.at' j u y).weak ow fun _ z => .inl z
  · rcases isOwn_set h1 with ⟨z, y⟩ | ⟨z, y⟩
    · simp [isOwn] at y
    · rcases isOwn_set h2 with ⟨z', y'⟩ | ⟨z', y'⟩
      · simp [isOwn] at y'
      · exact r.inj j k a y y' h3 h4
end

/-! what an expression gives -/
def RV1 (K : PySem.W.Frag) (g : Gd) (O : AP) (σ : St) (H : Hp) (v : V) (F : List Addr) : R → Prop
  | .v d => F = [] ∧ Sh K O H v d
  | .pl i => F = [] ∧ σ[i]? = some (some v)
  | .dk k => F = [] ∧ v = .ref (g.ad k)
  | .fl ds => ∃ p xs, F = [p] ∧ v = .ref p ∧ H p = some (.lst xs) ∧ xs.length ≤ sizeLine ∧ ShA K O H xs ds
  | .fd t kvs => ∃ p o, F = [p] ∧ v = .ref p ∧ H p = some o ∧ DcT K O H t o kvs
inductive RVs (K : PySem.W.Frag) (g : Gd) (O : AP) (σ : St) (H : Hp) : List V → List Addr → List R → Prop
  | nil : RVs K g O σ H [] [] []
  | cons {v vs F1 F2 r rs} : RV1 K g O σ H v F1 r → RVs K g O σ H vs F2 rs → (∀ p ∈ F1, p ∉ F2) → RVs K g O σ H (v :: vs) (F1 ++ F2) (r :: rs)

/-- from (e, H) to (m.e, H'), the frame as it was, F new -/
structure Stp (K : PySem.W.Frag) (g : Gd) (O0 : AP) (e : Env) (σ : St) (H : Hp) (F : List Addr) (m : M) (H' : Hp) : Prop where
  keep : Keep (Mu g e σ) H H'
  own : ∀ a, own m.e σ a → PV.own e σ a
  new : ∀ p ∈ F, H p = none ∧ ¬ O0 p ∧ ¬ PV.own m.e σ p ∧ H' p ≠ none
  rep : Rep K g (plus O0 F) m.e σ H'
  dk : DkRep g m.s H'

section
variable {K : PySem.W.Frag} {g : Gd} {O O' O0 M : AP} {e : Env} {σ : St} {H H1 H' : Hp} {v : V} {F F1 F2 : List Addr} {r : R} {m1 m2 : PV.M}
theorem RV1.go (h : RV1 K g O σ H v F r) (k : Keep M H H') (m : ∀ a, M a → O a) (hf : ∀ p ∈ F, ¬ M p) (n : ∀ a, O' a → O a ∨ H a = none) : RV1 K g O' σ H' v F r := by
  cases r with
  | v d => exact ⟨h.1, h.2.go k m n⟩
  | pl i => exact h
  | dk => exact h
  | fl ds => obtain ⟨p, xs, rfl, q, hp, z, s⟩ := h; exact ⟨p, xs, rfl, q, k.stay p _ hp (.inl (hf p (by simp))), z, s.go k m n⟩
  | fd t kvs => obtain ⟨p, o, rfl, q, hp, s⟩ := h; exact ⟨p, o, rfl, q, k.stay p _ hp (.inl (hf p (by simp))), s.go k m n⟩
theorem RVs.go {vs : List V} {rs : List R} (h : RVs K g O σ H vs F rs) (k : Keep M H H') (m : ∀ a, M a → O a) (hf : ∀ p ∈ F, ¬ M p) (n : ∀ a, O' a → O a ∨ H a = none) : RVs K g O' σ H' vs F rs := by
  induction h with
  | nil => exact .nil
  | cons q _ d ih => exact .cons (q.go k m (fun p hp => hf p (List.mem_append_left _ hp)) n) (ih fun p hp => hf p (List.mem_append_right _ hp)) d
theorem Stp.refl {s : DS} (r : Rep K g O0 e σ H) (d : DkRep g s H) : Stp K g O0 e σ H [] ⟨e, s⟩ H :=
  ⟨Keep.refl, fun _ z => z, (fun _ z => nomatch z), r.weak fun a z => z.elim id (fun z => nomatch z), d⟩
theorem mu_sub (own : ∀ a, PV.own m1.e σ a → PV.own e σ a) : ∀ a, Mu g m1.e σ a → Mu g e σ a := fun a z => z.imp (own a) id
theorem Stp.trans (a : Stp K g O0 e σ H F1 m1 H1) (b : Stp K g (plus O0 F1) m1.e σ H1 F2 m2 H') : Stp K g O0 e σ H (F1 ++ F2) m2 H' := by
  refine ⟨a.keep.trans b.keep fun x z => .inl (mu_sub a.own x z), fun x z => a.own x (b.own x z), fun p hp => ?_, b.rep.weak fun x z => ?_, b.dk⟩
  · rcases List.mem_append.mp hp with hp | hp
    · obtain ⟨h1, h2, h3, h4⟩ := a.new p hp
      exact ⟨h1, h2, fun z => h3 (b.own p z), fun z => h4 (b.keep.old p z)⟩
    · obtain ⟨h1, h2, h3, h4⟩ := b.new p hp
      exact ⟨a.keep.old p h1, fun z => h2 (.inl z), h3, h4⟩
  · rcases z with z | z
    · exact .inl (.inl z)
    · rcases List.mem_append.mp z with z | z
      · exact .inl (.inr z)
      · exact .inr z
/-- what is new is in no writer's hand -/
theorem Stp.noMu (a : Stp K g O0 e σ H F m1 H1) (hd : ∀ x, DkS g x → O0 x) : ∀ p ∈ F, ¬ Mu g m1.e σ p := fun p hp z => by
  obtain ⟨_, h2, h3, _⟩ := a.new p hp
  exact z.elim h3 fun z => h2 (hd p z)
theorem Stp.repO (a : Stp K g O0 e σ H F m1 H1) : Rep K g O0 m1.e σ H1 := a.rep.weak fun _ z => .inl z
/-- the new ones are forgotten (they are shared) -/
theorem Stp.forget (a : Stp K g O0 e σ H F m1 H1) : Stp K g O0 e σ H [] m1 H1 :=
  ⟨a.keep, a.own, (fun _ z => nomatch z), a.rep.weak fun x z => z.elim .inl (fun z => nomatch z), a.dk⟩
end
end PV

/-! PV.4: readings by the pure evaluator; sequences -/
namespace PV
open PySem PySem.Spec L2

abbrev XC := Nat → Option (Value × Option Str)
def XcR (xc : XC) (K : PySem.W.Frag) (O : AP) (H : Hp) (c : Nat) (f : Option PyData) (cls : Value) (dd : Option Addr) : Prop :=
  ∃ fn, xc c = some (cls, fn) ∧ match fn, f with
    | none, none => dd = none
    | some n, some d => ∃ a v, dd = some a ∧ H a = some (.xd [(n, v)]) ∧ Sh K O H v d
    | _, _ => False
theorem XcR.weak {xc : XC} {K : PySem.W.Frag} {O O' : AP} {H : Hp} {c : Nat} {f : Option PyData} {cls : Value} {dd : Option Addr} (h : XcR xc K O H c f cls dd) (n : ∀ a, O' a → O a) : XcR xc K O' H c f cls dd := by
  obtain ⟨fn, e, h⟩ := h
  refine ⟨fn, e, ?_⟩
  cases fn with
  | none => cases f with
    | none => exact h
    | some d => exact h.elim
  | some m => cases f with
    | none => exact h.elim
    | some d => obtain ⟨a, v, h1, h2, h3⟩ := h; exact ⟨a, v, h1, h2, h3.weak n⟩

structure Good (K : PySem.W.Frag) (g : Gd) (O0 : AP) (e : Env) (s : DS) (σ : L2.St) (H : Hp) : Prop where
  dk0 : ∀ a, DkS g a → O0 a
  oe : ∀ a, O0 a → H a ≠ none
  rep : Rep K g O0 e σ H
  dk : DkRep g s H
  ob : GOb K g

section
variable {K : PySem.W.Frag} {g : Gd} {O0 : AP} {e : Env} {s : DS} {σ : L2.St} {H H' : Hp} {F : List Addr} {m : M}
theorem Good.step (G : Good K g O0 e s σ H) (t : Stp K g O0 e σ H F m H') : Good K g (plus O0 F) m.e m.s σ H' :=
  ⟨fun a z => .inl (G.dk0 a z), fun a z => z.elim (fun z q => G.oe a z (t.keep.old a q)) fun z => (t.new a z).2.2.2, t.rep, t.dk, G.ob⟩
theorem Good.step0 (G : Good K g O0 e s σ H) (t : Stp K g O0 e σ H F m H') : Good K g O0 m.e m.s σ H' :=
  ⟨G.dk0, fun a z q => G.oe a z (t.keep.old a q), t.repO, t.dk, G.ob⟩
theorem Good.stp (G : Good K g O0 e s σ H) : Stp K g O0 e σ H [] ⟨e, s⟩ H := Stp.refl G.rep G.dk
theorem Good.mu (G : Good K g O0 e s σ H) : ∀ a, Mu g e σ a → Ow O0 e σ a := fun a z => z.elim .inr fun z => .inl (G.dk0 a z)
/-- new objects, nothing else -/
theorem Good.pure (G : Good K g O0 e s σ H) (k : Keep (fun _ => False) H H') (hF : ∀ p ∈ F, H p = none ∧ H' p ≠ none) : Stp K g O0 e σ H F ⟨e, s⟩ H' := by
  refine ⟨k.mono fun _ z => z.elim, fun _ z => z, fun p hp => ?_, G.rep.go k (fun _ z => z.elim) fun a z => z.imp id fun z => (hF a z).1, G.dk.keep k fun _ z => z.elim⟩
  obtain ⟨h1, h2⟩ := hF p hp
  refine ⟨h1, fun z => G.oe p z h1, fun z => ?_, h2⟩
  obtain ⟨_, o, ho, _⟩ := G.rep.owned z
  rw [h1] at ho; cases ho
end

def PostE (xc : XC) (K : PySem.W.Frag) (W : WX) (g : Gd) (O0 : AP) (e : Env) (σ : L2.St) (H : Hp) (Q : VK) : Res R → Prop
  | .ok r m => ∀ v H' F, Stp K g O0 e σ H F m H' → RV1 K g (Ow (plus O0 F) m.e σ) σ H' v F r → Q v H'
  | .rz c f m => ∀ cls dd H', Stp K g O0 e σ H [] m H' → XcR xc K (Ow O0 m.e σ) H' c f cls dd → W cls dd σ H'
  | .bad => False
def tE (xc : XC) (K : PySem.W.Frag) (W : WX) (f : M → Res R) : TE := fun σ H Q => ∃ g O0 e s, Good K g O0 e s σ H ∧ PostE xc K W g O0 e σ H Q (f ⟨e, s⟩)
def PostEs (xc : XC) (K : PySem.W.Frag) (W : WX) (g : Gd) (O0 : AP) (e : Env) (σ : L2.St) (H : Hp) (Q : List V → Hp → Prop) : Res (List R) → Prop
  | .ok rs m => ∀ vs H' F, Stp K g O0 e σ H F m H' → RVs K g (Ow (plus O0 F) m.e σ) σ H' vs F rs → Q vs H'
  | .rz c f m => ∀ cls dd H', Stp K g O0 e σ H [] m H' → XcR xc K (Ow O0 m.e σ) H' c f cls dd → W cls dd σ H'
  | .bad => False
def tEs (xc : XC) (K : PySem.W.Frag) (W : WX) (f : M → Res (List R)) : TA := fun σ H Q => ∃ g O0 e s, Good K g O0 e s σ H ∧ PostEs xc K W g O0 e σ H Q (f ⟨e, s⟩)
def PostT (xc : XC) (K : PySem.W.Frag) (W : WX) (g : Gd) (O0 : AP) (e : Env) (σ : L2.St) (H : Hp) (Q : Bool → Hp → Prop) : Res Bool → Prop
  | .ok b m => ∀ H', Stp K g O0 e σ H [] m H' → Q b H'
  | .rz c f m => ∀ cls dd H', Stp K g O0 e σ H [] m H' → XcR xc K (Ow O0 m.e σ) H' c f cls dd → W cls dd σ H'
  | .bad => False
def tT (xc : XC) (K : PySem.W.Frag) (W : WX) (f : M → Res Bool) : TT := fun σ H Q => ∃ g O0 e s, Good K g O0 e s σ H ∧ PostT xc K W g O0 e σ H Q (f ⟨e, s⟩)

theorem PEimp {X : Cx} {e : Expr} {t t' : TE} (h : PE X e t) (i : ∀ σ H Q, t' σ H Q → t σ H Q) : PE X e t' := ⟨fun pins s σ H Q I z => h.run pins s σ H Q I (i σ H Q z)⟩
theorem PAimp {X : Cx} {e : List Expr} {t t' : TA} (h : PA X e t) (i : ∀ σ H Q, t' σ H Q → t σ H Q) : PA X e t' := ⟨fun pos pins s σ H Q I z => h.run pos pins s σ H Q I (i σ H Q z)⟩
theorem PTimp {X : Cx} {e : Expr} {t t' : TT} (h : PT X e t) (i : ∀ σ H Q, t' σ H Q → t σ H Q) : PT X e t' := ⟨fun pins s σ H Q I z => h.run pins s σ H Q I (i σ H Q z)⟩
theorem PWimp {X : Cx} {e : Expr} {t t' : TT} (h : PW X e t) (i : ∀ σ H Q, t' σ H Q → t σ H Q) : PW X e t' := ⟨fun wh pins s σ H Q I z => h.run wh pins s σ H Q I (i σ H Q z)⟩
theorem PSimp {X : Cx} {st : Stmt} {t t' : TS} (h : PS X st t) (i : ∀ D σ H, t' D σ H → t D σ H) : PS X st t' := ⟨fun pins s σ H D I z => h.run pins s σ H D I (i D σ H z)⟩
theorem PSsimp {X : Cx} {st : List Stmt} {t t' : TS} (h : PSs X st t) (i : ∀ D σ H, t' D σ H → t D σ H) : PSs X st t' := ⟨fun pins s σ H D I z => h.run pins s σ H D I (i D σ H z)⟩

section
variable {xc : XC} {K : PySem.W.Frag} {W : WX} {g : Gd} {O0 : AP} {e : Env} {s : DS} {σ : L2.St} {H H1 H' : Hp} {F : List Addr} {m m1 : M}
/-- a raise further on is a raise -/
theorem rz_of {c : Nat} {f : Option PyData} (t1 : Stp K g O0 e σ H F m1 H1) (h : ∀ cls dd H', Stp K g O0 e σ H [] m H' → XcR xc K (Ow O0 m.e σ) H' c f cls dd → W cls dd σ H') :
    ∀ cls dd H', Stp K g (plus O0 F) m1.e σ H1 [] m H' → XcR xc K (Ow (plus O0 F) m.e σ) H' c f cls dd → W cls dd σ H' := fun cls dd H' t2 x =>
  h cls dd H' (t1.trans t2).forget (x.weak fun a z => z.imp .inl id)
theorem rz_of0 {c : Nat} {f : Option PyData} (t1 : Stp K g O0 e σ H [] m1 H1) (h : ∀ cls dd H', Stp K g O0 e σ H [] m H' → XcR xc K (Ow O0 m.e σ) H' c f cls dd → W cls dd σ H') :
    ∀ cls dd H', Stp K g O0 m1.e σ H1 [] m H' → XcR xc K (Ow O0 m.e σ) H' c f cls dd → W cls dd σ H' := fun cls dd H' t2 x =>
  h cls dd H' (by
    have t2' : Stp K g (plus O0 []) m1.e σ H1 [] m H' := ⟨t2.keep, t2.own, (fun _ z => nomatch z), t2.rep.weak fun a z => (by rcases z with (z | z) | z; exact .inl z; exact nomatch z; exact nomatch z), t2.dk⟩
    exact t1.trans t2') x
theorem Stp.trans0 {m2 : M} (t1 : Stp K g O0 e σ H [] m1 H1) (t2 : Stp K g O0 m1.e σ H1 F m2 H') : Stp K g O0 e σ H F m2 H' := by
  have t2' : Stp K g (plus O0 []) m1.e σ H1 F m2 H' := ⟨t2.keep, t2.own, fun p hp => (by
    obtain ⟨h1, h2, h3, h4⟩ := t2.new p hp
    exact ⟨h1, fun z => z.elim h2 (fun z => nomatch z), h3, h4⟩), t2.rep.weak fun a z => (by rcases z with (z | z) | z; exact .inl z; exact nomatch z; exact .inr z), t2.dk⟩
  exact t1.trans t2'
/-- the first of a row, when the rest is done -/
theorem rv_later {v : V} {F1 F2 : List Addr} {r : R} {m1 m2 : M} {H2 : Hp} (G : Good K g O0 e s σ H) (t1 : Stp K g O0 e σ H F1 m1 H1) (h : RV1 K g (Ow (plus O0 F1) m1.e σ) σ H1 v F1 r) (t2 : Stp K g (plus O0 F1) m1.e σ H1 F2 m2 H2) :
    RV1 K g (Ow (plus O0 (F1 ++ F2)) m2.e σ) σ H2 v F1 r := by
  refine h.go t2.keep (G.step t1).mu (t1.noMu G.dk0) fun a z => ?_
  rcases z with (z | z) | z
  · exact .inl (.inl (.inl z))
  · rcases List.mem_append.mp z with z | z
    · exact .inl (.inl (.inr z))
    · exact .inr (t2.new a z).1
  · exact .inl (.inr (t2.own a z))
theorem rvs_ext {vs : List V} {F1 F2 : List Addr} {rs : List R} {m2 : M} {H2 : Hp} (h : RVs K g (Ow (plus (plus O0 F1) F2) m2.e σ) σ H2 vs F2 rs) : RVs K g (Ow (plus O0 (F1 ++ F2)) m2.e σ) σ H2 vs F2 rs := by
  refine h.go (M := fun _ => False) Keep.refl (fun _ z => z.elim) (fun _ _ z => z) fun a z => ?_
  rcases z with (z | z) | z
  · exact .inl (.inl (.inl (.inl z)))
  · rcases List.mem_append.mp z with z | z
    · exact .inl (.inl (.inl (.inr z)))
    · exact .inl (.inl (.inr z))
  · exact .inl (.inr z)
theorem apart {F1 F2 : List Addr} {m1 m2 : M} {H2 : Hp} (t1 : Stp K g O0 e σ H F1 m1 H1) (t2 : Stp K g (plus O0 F1) m1.e σ H1 F2 m2 H2) : ∀ p ∈ F1, p ∉ F2 := fun p h1 h2 => (t1.new p h1).2.2.2 (t2.new p h2).1

/-- e, then es -/
theorem cons_ok {f : M → Res R} {fs : M → Res (List R)} {Q : List V → Hp → Prop}
    (h : tEs xc K W (fun m => match f m with
      | .ok r m1 => match fs m1 with
        | .ok rs m2 => .ok (r :: rs) m2
        | .rz c f m2 => .rz c f m2
        | .bad => .bad
      | .rz c f m1 => .rz c f m1
      | .bad => .bad) σ H Q) : tE xc K W f σ H fun x H1 => tEs xc K W fs σ H1 fun xs H2 => Q (x :: xs) H2 := by
  obtain ⟨g, O0, e, s, G, h⟩ := h
  refine ⟨g, O0, e, s, G, ?_⟩
  cases hf : f ⟨e, s⟩ with
  | ok r m1 =>
    simp only [hf] at h
    intro v H1 F1 t1 rv1
    refine ⟨g, plus O0 F1, m1.e, m1.s, G.step t1, ?_⟩
    cases hfs : fs ⟨m1.e, m1.s⟩ with
    | ok rs m2 =>
      have hfs' : fs m1 = .ok rs m2 := hfs
      simp only [hfs'] at h
      intro vs H2 F2 t2 rvs
      exact h (v :: vs) H2 (F1 ++ F2) (t1.trans t2) (.cons (rv_later G t1 rv1 t2) (rvs_ext rvs) (apart t1 t2))
    | rz c f m2 =>
      have hfs' : fs m1 = .rz c f m2 := hfs
      simp only [hfs'] at h
      exact rz_of t1 h
    | bad =>
      have hfs' : fs m1 = .bad := hfs
      simp only [hfs'] at h
      exact h
  | rz c f m1 => simp only [hf] at h; exact h
  | bad => simp only [hf] at h; exact h
theorem nil_ok {Q : List V → Hp → Prop} (h : tEs xc K W (fun m => .ok [] m) σ H Q) : Q [] H := by
  obtain ⟨g, O0, e, s, G, h⟩ := h
  exact h [] H [] G.stp .nil
end

/-! readable at the moment -/
section
variable {xc : XC} {K : PySem.W.Frag} {W : WX} {g : Gd} {O O' O0 : AP} {e : Env} {s : DS} {σ : L2.St} {H H1 H' : Hp} {F : List Addr} {m m1 : M}
theorem RV1.val {v : V} {r : R} {d : PyData} (h : RV1 K g (Ow (plus O0 F) e σ) σ H v F r) (rep : Rep K g (plus O0 F) e σ H) (hd : deref e r = some d) : ShT K (Ow O0 e σ) H v d := by
  have wk : ∀ a, Ow O0 e σ a → Ow (plus O0 F) e σ a := fun a z => z.imp .inl id
  cases r with
  | v d' =>
    obtain rfl : d' = d := by simpa [deref] using hd
    exact (h.2.weak wk).top
  | fl ds =>
    obtain rfl : PyData.list ds = d := by simpa [deref] using hd
    obtain ⟨p, xs, _, rfl, hp, z, q⟩ := h
    exact ⟨p, xs, rfl, hp, z, q.weak wk⟩
  | fd t kvs =>
    obtain rfl : PyData.dict kvs = d := by simpa [deref] using hd
    obtain ⟨p, o, _, rfl, hp, q⟩ := h
    exact ⟨p, o, rfl, hp, q.is.weak wk⟩
  | dk => simp [deref] at hd
  | pl i =>
    obtain ⟨_, hi⟩ := h
    cases hs : e[i]? with
    | none => simp [deref, hs] at hd
    | some sl =>
      have q := rep.at' i sl hs
      cases sl with
      | un => simp [deref, hs] at hd
      | ex a f => simp [deref, hs] at hd
      | dk => simp [deref, hs] at hd
      | sh d' =>
        obtain rfl : d' = d := by simpa [deref, hs] using hd
        obtain ⟨v', h1, h2⟩ := q
        rw [hi] at h1; cases h1
        exact (h2.weak wk).top
      | ol ds =>
        obtain rfl : PyData.list ds = d := by simpa [deref, hs] using hd
        obtain ⟨p, xs, h1, _, h3, h4, h5⟩ := q
        rw [hi] at h1; cases h1
        exact ⟨p, xs, rfl, h3, h4, h5.weak wk⟩
      | od t kvs =>
        obtain rfl : PyData.dict kvs = d := by simpa [deref, hs] using hd
        obtain ⟨p, o, h1, _, h3, h5⟩ := q
        rw [hi] at h1; cases h1
        exact ⟨p, o, rfl, h3, h5.is.weak wk⟩
/-- a value of a row is read alone -/
theorem RV1.alone {v : V} {r : R} {F1 : List Addr} (h : RV1 K g O σ H v F1 r) (hs : ∀ p ∈ F1, p ∈ F) (rep : Rep K g (plus O0 F) e σ H) (ho : O = Ow (plus O0 F) e σ) : RV1 K g (Ow (plus O0 F1) e σ) σ H v F1 r ∧ Rep K g (plus O0 F1) e σ H := by
  subst ho
  exact ⟨h.go (M := fun _ => False) Keep.refl (fun _ z => z.elim) (fun _ _ z => z) fun a z => .inl (z.imp (fun z => z.imp id fun z => hs a z) id), rep.weak fun a z => z.imp id fun z => hs a z⟩
theorem RVs.vals : ∀ {vs : List V} {F1 : List Addr} {rs : List R} {ds : List PyData}, RVs K g (Ow (plus O0 F) e σ) σ H vs F1 rs → (∀ p ∈ F1, p ∈ F) → Rep K g (plus O0 F) e σ H → derefs e rs = some ds → Paired (ShT K (Ow O0 e σ) H) vs ds
  | _, _, _, ds, .nil, _, _, hd => by
    obtain rfl : ds = [] := by simpa [derefs] using hd.symm
    exact .nil
  | _, _, _, ds, @RVs.cons _ _ _ _ _ v vs F1 F2 r rs h t _, hs, rep, hd => by
    cases h1 : deref e r with
    | none => simp [derefs, h1] at hd
    | some d =>
      cases h2 : derefs e rs with
      | none => simp [derefs, h1, h2] at hd
      | some ds' =>
        obtain rfl : d :: ds' = ds := by simpa [derefs, h1, h2] using hd
        obtain ⟨q1, q2⟩ := h.alone (fun p hp => hs p (List.mem_append_left _ hp)) rep rfl
        exact .cons (q1.val q2 h1) (RVs.vals t (fun p hp => hs p (List.mem_append_right _ hp)) rep h2)
theorem RVs.vals' {vs : List V} {rs : List R} {ds : List PyData} (h : RVs K g (Ow (plus O0 F) e σ) σ H vs F rs) (rep : Rep K g (plus O0 F) e σ H) (hd : derefs e rs = some ds) : Paired (ShT K (Ow O0 e σ) H) vs ds := RVs.vals h (fun _ z => z) rep hd
end

/-! an operation by values -/
section
variable {xc : XC} {K : PySem.W.Frag} {W : WX} {g : Gd} {O O' O0 : AP} {e e0 : Env} {s : DS} {σ : L2.St} {H H0 H1 H' : Hp} {F : List Addr} {m m1 : M}
/-- the end of an operation is the end of the expression -/
theorem post_op {r : R} {Q : VK} (hQ : ∀ v H' F', Stp K g O0 e0 σ H0 F' m H' → RV1 K g (Ow (plus O0 F') m.e σ) σ H' v F' r → Q v H') (G0 : Good K g O0 e0 s σ H0) (t : Stp K g O0 e0 σ H0 F m H)
    {v : V} {F' : List Addr} (k : Keep (fun _ => False) H H') (hF : ∀ p ∈ F', H p = none ∧ H' p ≠ none) (rv : RV1 K g (plus (Ow O0 m.e σ) F') σ H' v F' r) : Q v H' := by
  have G := G0.step0 t
  refine hQ v H' F' (t.forget.trans0 (G.pure k hF)) (rv.go (M := fun _ => False) Keep.refl (fun _ z => z.elim) (fun _ _ z => z) fun a z => .inl ?_)
  rcases z with (z | z) | z
  · exact .inl (.inl z)
  · exact .inr z
  · exact .inl (.inr z)
/-- what an operation on values makes -/
def RO (K : PySem.W.Frag) (O : AP) (H : Hp) (v : V) (F : List Addr) : R → Prop
  | .v d => F = [] ∧ Sh K O H v d
  | .fl ds => ∃ p xs, F = [p] ∧ v = .ref p ∧ H p = some (.lst xs) ∧ xs.length ≤ sizeLine ∧ ShA K O H xs ds
  | .fd t kvs => ∃ p o, F = [p] ∧ v = .ref p ∧ H p = some o ∧ DcT K O H t o kvs
  | _ => False
theorem RO.rv {v : V} {r : R} (h : RO K O H v F r) : RV1 K g O σ H v F r := by
  cases r with
  | v d => exact h
  | fl ds => exact h
  | fd t kvs => exact h
  | pl i => exact h.elim
  | dk => exact h.elim
/-- a value, a new list: the two ends -/
theorem RO.sh {v : V} {d : PyData} (h : Sh K O H v d) : RO K (plus O []) H v [] (.v d) := ⟨rfl, h.weak fun _ z => z.elim id (fun z => nomatch z)⟩
theorem RO.new {p : Addr} {xs : List V} {ds : List PyData} (n : H p = none) (hz : xs.length ≤ sizeLine) (h : ShA K O H xs ds) : RO K (plus O [p]) (upd H p (.lst xs)) (.ref p) [p] (.fl ds) :=
  ⟨p, xs, rfl, rfl, upd_same, hz, h.go (Keep.new (M := fun _ => False) n) (fun _ z => z.elim) fun a z => z.imp id fun z => by rw [List.mem_singleton.mp z]; exact n⟩
theorem RO.tup {p : Addr} {xs : List V} {ds : List PyData} (n : H p = none) (hz : xs.length ≤ sizeLine) (h : ShA K O H xs ds) : RO K (plus O []) (upd H p (.tup xs)) (.ref p) [] (.v (.tuple ds)) :=
  RO.sh (sh_tuple.mpr ⟨p, xs, rfl, upd_same, hz, h.go (Keep.new (M := fun _ => False) n) (fun _ z => z.elim) fun a z => .inl z⟩)
theorem newF {p : Addr} {o : HO} (n : H p = none) : ∀ q ∈ [p], H q = none ∧ upd H p o q ≠ none := fun q hq => by
  rw [List.mem_singleton.mp hq]; exact ⟨n, by rw [upd_same]; simp⟩
theorem nilF : ∀ q ∈ ([] : List Addr), H q = none ∧ H' q ≠ none := fun _ z => nomatch z
/-- what an operation on values must do -/
def OpV (K : PySem.W.Frag) (r : List V → Hp → VK → Prop) (op : List PyData → Option R) : Prop :=
  ∀ (O : AP) (H : Hp) (vs : List V) (ds : List PyData) (z : R) (Q : VK), Paired (ShT K O H) vs ds → op ds = some z →
    (∀ v H' F, Keep (fun _ => False) H H' → (∀ p ∈ F, H p = none ∧ H' p ≠ none) → RO K (plus O F) H' v F z → Q v H') → r vs H Q
/-- .. to be used behind a row of operands -/
theorem OpV.use {r : List V → Hp → VK → Prop} {op : List PyData → Option R} (ho : OpV K r op) {fs : M → Res (List R)} {Q : VK}
    (h : tE xc K W (fun m => match fs m with
      | .ok rs m1 => match derefs m1.e rs with
        | some ds => match op ds with
          | some r => .ok r m1
          | none => .bad
        | none => .bad
      | .rz c f m1 => .rz c f m1
      | .bad => .bad) σ H Q) : tEs xc K W fs σ H fun vs H1 => r vs H1 Q := by
  obtain ⟨g, O0, e, s, G, h⟩ := h
  refine ⟨g, O0, e, s, G, ?_⟩
  cases hf : fs ⟨e, s⟩ with
  | ok rs m1 =>
    simp only [hf] at h
    intro vs H1 F1 t1 rvs
    cases hd : derefs m1.e rs with
    | none => simp only [hd] at h; exact h.elim
    | some ds =>
      simp only [hd] at h
      cases hz : op ds with
      | none => simp only [hz] at h; exact h.elim
      | some z =>
        simp only [hz] at h
        exact ho _ H1 vs ds z Q (rvs.vals' t1.rep hd) hz fun v H' F k hF rv => post_op h G t1 k hF rv.rv
  | rz c f m1 => simp only [hf] at h; exact h
  | bad => simp only [hf] at h; exact h
end
end PV

/-! PV.5: the operations by values -/
namespace PV
open PySem PySem.Spec L2

def V1 (r : V → Hp → VK → Prop) : List V → Hp → VK → Prop := fun vs H Q => ∃ x, vs = [x] ∧ r x H Q
def V2 (r : R2) : List V → Hp → VK → Prop := fun vs H Q => ∃ x y, vs = [x, y] ∧ r x y H Q
theorem p1 {F : V → PyData → Prop} {vs : List V} {d : PyData} (h : Paired F vs [d]) : ∃ x, vs = [x] ∧ F x d := by
  cases h with
  | cons r t => cases t; exact ⟨_, rfl, r⟩
theorem p2 {F : V → PyData → Prop} {vs : List V} {d e : PyData} (h : Paired F vs [d, e]) : ∃ x y, vs = [x, y] ∧ F x d ∧ F y e := by
  cases h with
  | cons r t => obtain ⟨y, rfl, q⟩ := p1 t; exact ⟨_, y, rfl, r, q⟩
theorem p3 {F : V → PyData → Prop} {vs : List V} {d e f : PyData} (h : Paired F vs [d, e, f]) : ∃ x y z, vs = [x, y, z] ∧ F x d ∧ F y e ∧ F z f := by
  cases h with
  | cons r t => obtain ⟨y, z, rfl, q⟩ := p2 t; exact ⟨_, y, z, rfl, r, q⟩

section
variable {K : PySem.W.Frag} {O : AP} {H : Hp} {v x : V}
theorem t_int {i : Int} (h : ShT K O H v (.int i)) : v = .int i := sh_int.mp h
theorem t_str {i : Str} (h : ShT K O H v (.str i)) : v = .str i := sh_str.mp h
theorem t_bool {i : Bool} (h : ShT K O H v (.bool i)) : v = .bl i := sh_bool.mp h
theorem t_none (h : ShT K O H v .none) : v = .non := sh_none.mp h
theorem t_list {ds : List PyData} (h : ShT K O H v (.list ds)) : ∃ a xs, v = .ref a ∧ H a = some (.lst xs) ∧ xs.length ≤ sizeLine ∧ ShA K O H xs ds := h
theorem t_tup {ds : List PyData} (h : ShT K O H v (.tuple ds)) : ∃ a xs, v = .ref a ∧ SqT K H a xs ∧ xs.length ≤ sizeLine ∧ ShA K O H xs ds := by
  obtain ⟨a, xs, e, t, z, q⟩ := sh_tuple.mp h
  exact ⟨a, xs, e, t.sq, z, q⟩
theorem t_dict {kvs : List (PyData × PyData)} (h : ShT K O H v (.dict kvs)) : ∃ a o, v = .ref a ∧ H a = some o ∧ DcIs K O H o kvs := h
/-- a tuple's data is shared data -/
theorem t_tup' {ds : List PyData} (h : ShT K O H v (.tuple ds)) : Sh K O H v (.tuple ds) := h
theorem LIM_eq : LIM = sizeLine := by rw [sizeLine_eq]; rfl

/-- the end of an operation that gives a value -/
theorem fin_v {Q : VK} {d : PyData} (hQ : ∀ v H' F, Keep (fun _ => False) H H' → (∀ p ∈ F, H p = none ∧ H' p ≠ none) → RO K (plus O F) H' v F (.v d) → Q v H') (h : Sh K O H v d) : Q v H :=
  hQ v H [] Keep.refl nilF (RO.sh h)
theorem fin_l {Q : VK} {ds : List PyData} {xs : List V} (hQ : ∀ v H' F, Keep (fun _ => False) H H' → (∀ p ∈ F, H p = none ∧ H' p ≠ none) → RO K (plus O F) H' v F (.fl ds) → Q v H') (hz : xs.length ≤ sizeLine) (h : ShA K O H xs ds) :
    ∀ p, H p = none → Q (.ref p) (upd H p (.lst xs)) := fun p n => hQ _ _ [p] (Keep.new n) (newF n) (RO.new n hz h)
theorem fin_t {Q : VK} {ds : List PyData} {xs : List V} (hQ : ∀ v H' F, Keep (fun _ => False) H H' → (∀ p ∈ F, H p = none ∧ H' p ≠ none) → RO K (plus O F) H' v F (.v (.tuple ds)) → Q v H') (hz : xs.length ≤ sizeLine) (h : ShA K O H xs ds) :
    ∀ p, H p = none → Q (.ref p) (upd H p (.tup xs)) := fun p n => hQ _ _ [] (Keep.new n) (fun _ z => nomatch z) (RO.tup n hz h)
end

section
variable {X : Cx} {K : PySem.W.Frag}
/-! + - * // % ** -/
def rAddAll (K : PySem.W.Frag) : R2 := fun x y H Q => (((rI0 fun i j => .int (i + j)) x y H Q ∨ ∃ i j, x = .str i ∧ y = .str j ∧ i.length + j.length ≤ sizeLine ∧ Q (.str (i ++ j)) H) ∨ rCat x y H Q) ∨ rCatA K x y H Q
theorem o_add : OpR X (binaryOp .Add) (rAddAll X.K) := ((op_add.or op_add_str).or op_cat).or op_catA
theorem v_add : OpV K (V2 (rAddAll K)) addD := by
  intro O H vs ds z Q hp hz hQ
  unfold addD at hz
  split at hz
  · obtain ⟨x, y, rfl, h1, h2⟩ := p2 hp
    cases hz
    exact ⟨x, y, rfl, .inl (.inl (.inl ⟨_, _, t_int h1, t_int h2, fin_v hQ (sh_int.mpr rfl)⟩))⟩
  · obtain ⟨x, y, rfl, h1, h2⟩ := p2 hp
    split at hz
    · rename_i hl
      rw [LIM_eq] at hl
      cases hz
      exact ⟨x, y, rfl, .inl (.inl (.inr ⟨_, _, t_str h1, t_str h2, hl, fin_v hQ (sh_str.mpr rfl)⟩))⟩
    · cases hz
  · obtain ⟨x, y, rfl, h1, h2⟩ := p2 hp
    split at hz
    · rename_i hl
      rw [LIM_eq] at hl
      cases hz
      obtain ⟨a, xs, e1, g1, z1, s1⟩ := t_list h1
      obtain ⟨b, ys, e2, g2, z2, s2⟩ := t_list h2
      have hl' : xs.length + ys.length ≤ sizeLine := by rw [Paired.len s1, Paired.len s2]; exact hl
      exact ⟨x, y, rfl, .inl (.inr ⟨a, b, xs, ys, e1, e2, g1, g2, hl', fin_l hQ (by rw [List.length_append]; exact hl') (Paired.app s1 s2)⟩)⟩
    · cases hz
  · obtain ⟨x, y, rfl, h1, h2⟩ := p2 hp
    split at hz
    · rename_i hl
      rw [LIM_eq] at hl
      cases hz
      obtain ⟨a, xs, e1, g1, z1, s1⟩ := t_tup h1
      obtain ⟨b, ys, e2, g2, z2, s2⟩ := t_tup h2
      have hl' : xs.length + ys.length ≤ sizeLine := by rw [Paired.len s1, Paired.len s2]; exact hl
      refine ⟨x, y, rfl, .inr ⟨a, b, xs, ys, e1, e2, g1, g2, hl', fun e => ?_, fun _ e => ?_, fun _ _ => fin_t hQ (by rw [List.length_append]; exact hl') (Paired.app s1 s2)⟩⟩
      · subst e
        cases s1
        rw [← e2]
        exact fin_v hQ (t_tup' h2)
      · subst e
        cases s2
        rw [← e1]
        exact fin_v hQ (by rw [List.append_nil]; exact t_tup' h1)
    · cases hz
  · cases hz
theorem flat_rep {α β : Type} {F : α → β → Prop} {xs : List α} {ys : List β} (h : Paired F xs ys) : ∀ k, Paired F (List.replicate k xs).flatten (List.replicate k ys).flatten
  | 0 => .nil
  | k + 1 => by rw [List.replicate_succ, List.replicate_succ, List.flatten_cons, List.flatten_cons]; exact Paired.app h (flat_rep h k)
/-! tuple * int -/
section
open PyProof.Rows
theorem tupMul1 (l : Addr) (items : Array Value) (n : Nat) (dd : Option Addr) (sl : Array (Option Value)) (x : Int) (u : Tok) (c0 : (decide (x < -(2 ^ 63)) || decide (x ≥ 2 ^ 63)) = false) (c1 : (items.isEmpty || x == 1) = true) :
    Meets (Builtin.«tuple.__mul__» ⟨[.ref l, .int x u], []⟩) (fun _ R s => s.heap.get? l = some { cls := .type "tuple", dict := dd, data := .seq items n, slots := sl } ∧ R (.ok (.ret (Value.ref l))) s) :=
  .of_wp fun prog w A R s h => by
    obtain ⟨hp, g, d, tk, os⟩ := s
    obtain ⟨hl, h⟩ := h
    have f1 := AutoSeq1.idx_int
    wp_walk using wpAny_loadPart' hl
    repeat (first
      | (refine wpAny_ite_false (decide_eq_false (by rw [c0]; exact Bool.false_ne_true)) ?_; wp_walk using wpAny_loadPart' hl)
      | (refine wpAny_ite_true (decide_eq_true c1) ?_; wp_walk using wpAny_loadPart' hl))
    exact ⟨_, rfl, h⟩
theorem tupMul0 (l : Addr) (items : Array Value) (n : Nat) (dd : Option Addr) (sl : Array (Option Value)) (x : Int) (u : Tok) (c0 : (decide (x < -(2 ^ 63)) || decide (x ≥ 2 ^ 63)) = false) (c1 : (items.isEmpty || x == 1) = false) (c2 : (decide (x ≤ 0) || items.isEmpty) = true) :
    Meets (Builtin.«tuple.__mul__» ⟨[.ref l, .int x u], []⟩) (fun _ R s => s.heap.get? l = some { cls := .type "tuple", dict := dd, data := .seq items n, slots := sl } ∧
      R (.ok (.ret (Value.ref s.heap.objs.size))) { s with heap := s.heap.push { cls := Value.type "tuple", data := Data.seq #[] }, toks := s.toks }) :=
  .of_wp fun prog w A R s h => by
    obtain ⟨hp, g, d, tk, os⟩ := s
    obtain ⟨hl, h⟩ := h
    have f1 := AutoSeq1.idx_int
    wp_walk using wpAny_loadPart' hl
    repeat (first
      | (refine wpAny_ite_false (decide_eq_false (by rw [c0]; exact Bool.false_ne_true)) ?_; wp_walk using wpAny_loadPart' hl)
      | (refine wpAny_ite_false (decide_eq_false (by rw [c1]; exact Bool.false_ne_true)) ?_; wp_walk using wpAny_loadPart' hl)
      | (refine wpAny_ite_true (decide_eq_true c2) ?_; wp_walk using wpAny_loadPart' hl))
    exact ⟨_, rfl, h⟩
def rMulT (K : PySem.W.Frag) : R2 := fun x y H Q => ∃ l k xs, x = .ref l ∧ y = .int k ∧ SqT K H l xs ∧ xs.length ≤ 1000 ∧ -(2 ^ 63) ≤ k ∧ k ≤ 1000 ∧ ((xs = [] ∨ k = 1) → Q (.ref l) H) ∧ ∀ p, H p = none → Q (.ref p) (upd H p (.tup (List.replicate k.toNat xs).flatten))
theorem o_mulT {X : Cx} : OpR X (binaryOp .Mult) (rMulT X.K) := by
  intro pins s σ H x y v u Q I rx ry h
  obtain ⟨l, k, xs, rfl, rfl, hT, hz, h0, h1, q1, q⟩ := h
  by_cases c : xs ≠ [] ∧ 2 ≤ k
  · exact op_repT pins s σ H _ _ v u Q I rx ry ⟨l, k, xs, rfl, rfl, hT, c.1, c.2, h1, hz, q⟩
  cases rx
  obtain ⟨t, rfl⟩ := ry
  obtain ⟨its, r, ⟨⟨cls, dd, data, sl⟩, ho, hc, n, hd⟩, hs⟩ := I.tuple hT
  simp only at hc hd
  subst hc hd
  have hle : its.length = xs.length := r.length.symm
  have c0 : (decide (k < -(2 ^ 63)) || decide (k ≥ 2 ^ 63)) = false := by
    rw [decide_eq_false (by omega), decide_eq_false (by omega)] <;> rfl
  by_cases c1 : (its.toArray.isEmpty || k == 1) = true
  · refine wpAny_binaryOp_repeat_ref (T := "tuple") (U := "int") (by decide) ⟨_, ho, rfl⟩ (fun s' => typeIs_int s' k t) noFill_tuple_mul F.fills_int_mul F.slot_int_rmul repeat_tuple F.slot_int_index.lookup
      (call_meets F.slot_int_rmul (typeIs_int s k t) F.entry_int_rmul (F.args_int_rmul_2 _ _) (int_rmul_tuple k t l its.toArray n dd sl)
        ⟨ho, rfl, ⟨_, ho, rfl⟩, call_meets F.slot_tuple_mul ⟨_, ho, rfl⟩ F.entry_tuple_mul (F.args_tuple_mul_2 _ _) (tupMul1 l its.toArray n dd sl k t c0 c1) ⟨ho, ?_⟩⟩)
    refine ⟨.ref l, H, I, rfl, q1 ?_⟩
    rw [Bool.or_eq_true] at c1
    rcases c1 with c1 | c1
    · left
      have : its = [] := by simpa using c1
      rw [this] at hle
      exact List.eq_nil_of_length_eq_zero hle.symm
    · right; simpa using c1
  · have c1 : (its.toArray.isEmpty || k == 1) = false := by simpa using c1
    have hne : xs ≠ [] := fun e => by
      rw [e] at hle
      have : its = [] := List.eq_nil_of_length_eq_zero hle
      rw [this] at c1
      cases c1
    have hk1 : k ≠ 1 := fun e => by rw [e] at c1; simp at c1
    have hk : k ≤ 0 := by
      have : ¬ 2 ≤ k := fun z => c ⟨hne, z⟩
      omega
    have c2 : (decide (k ≤ 0) || its.toArray.isEmpty) = true := by rw [decide_eq_true hk]; rfl
    refine wpAny_binaryOp_repeat_ref (T := "tuple") (U := "int") (by decide) ⟨_, ho, rfl⟩ (fun s' => typeIs_int s' k t) noFill_tuple_mul F.fills_int_mul F.slot_int_rmul repeat_tuple F.slot_int_index.lookup
      (call_meets F.slot_int_rmul (typeIs_int s k t) F.entry_int_rmul (F.args_int_rmul_2 _ _) (int_rmul_tuple k t l its.toArray n dd sl)
        ⟨ho, rfl, ⟨_, ho, rfl⟩, call_meets F.slot_tuple_mul ⟨_, ho, rfl⟩ F.entry_tuple_mul (F.args_tuple_mul_2 _ _) (tupMul0 l its.toArray n dd sl k t c0 c1 c2) ⟨ho, ?_⟩⟩)
    have e : (List.replicate k.toNat xs).flatten = [] := by rw [show k.toNat = 0 by omega]; rfl
    have q := q _ (I.hok.fresh (Nat.le_refl _))
    rw [e] at q
    exact ⟨.ref s.heap.objs.size, _, I.laid (t' := s.toks) (o := .tup []) (fun b ob q => Heap.get?_push_of_some _ q) (Nat.le_refl _) ⟨Nat.zero_le _, _, .nil, IsTup.new _ _⟩, rfl, q⟩
end
def rMulAll (K : PySem.W.Frag) : R2 := fun x y H Q => ((rI CMul fun i j => .int (i * j)) x y H Q ∨ rRep x y H Q) ∨ rMulT K x y H Q
theorem o_mul {X : Cx} : OpR X (binaryOp .Mult) (rMulAll X.K) := (op_mul.or op_rep).or o_mulT
theorem v_mul : OpV K (V2 (rMulAll K)) mulD := by
  intro O H vs ds z Q hp hz hQ
  unfold mulD at hz
  split at hz
  · obtain ⟨x, y, rfl, h1, h2⟩ := p2 hp
    split at hz
    · rename_i xs k hl
      cases hz
      obtain ⟨a, us, rfl, l, hs, q⟩ := t_list h1
      have hl' : us.length * k.toNat ≤ sizeLine := by rw [Paired.len q, ← LIM_eq]; exact hl.2.2
      exact ⟨_, y, rfl, .inl <| .inr ⟨a, _, us, rfl, t_int h2, l, hl.1, hl.2.1, hl', fin_l hQ (by simp only [List.length_flatten, List.map_replicate, List.sum_replicate_nat]; rw [Nat.mul_comm]; exact hl') (flat_rep q _)⟩⟩
    · cases hz
  · obtain ⟨x, y, rfl, h1, h2⟩ := p2 hp
    split at hz
    · rename_i hl
      cases hz
      exact ⟨x, y, rfl, .inl <| .inl ⟨_, _, t_int h1, t_int h2, hl, fin_v hQ (sh_int.mpr rfl)⟩⟩
    · cases hz
  · obtain ⟨x, y, rfl, h1, h2⟩ := p2 hp
    split at hz
    · rename_i xs k hl
      cases hz
      have h1' := t_tup' h1
      obtain ⟨a, us, rfl, g, zz, q⟩ := t_tup h1
      have hl3 : us.length ≤ 1000 := by rw [Paired.len q]; exact hl.2.2
      refine ⟨_, y, rfl, .inr ⟨a, _, us, rfl, t_int h2, g, hl3, hl.1, hl.2.1, fun e => ?_, fin_t hQ ?_ (flat_rep q _)⟩⟩
      · refine fin_v hQ ?_
        have e2 : (List.replicate k.toNat xs).flatten = xs := by
          rcases e with e | e
          · subst e
            cases q
            simp
          · rw [e]; simp
        rw [e2]
        exact h1'
      · simp only [List.length_flatten, List.map_replicate, List.sum_replicate_nat]
        have : k.toNat * us.length ≤ 1000 * 1000 := Nat.mul_le_mul (by omega) hl3
        rw [sizeLine_eq]
        omega
    · cases hz
  · cases hz
theorem v_pow : OpV K (V2 (rI CPow fun i j => .int (i ^ j.toNat))) powD := by
  intro O H vs ds z Q hp hz hQ
  unfold powD at hz
  split at hz
  · obtain ⟨x, y, rfl, h1, h2⟩ := p2 hp
    split at hz
    · rename_i hl
      cases hz
      exact ⟨x, y, rfl, _, _, t_int h1, t_int h2, hl, fin_v hQ (sh_int.mpr rfl)⟩
    · cases hz
  · cases hz
theorem v_neg : OpV K (V1 (rU fun i => .int (-i))) negD := by
  intro O H vs ds z Q hp hz hQ
  unfold negD at hz
  split at hz
  · obtain ⟨x, rfl, h1⟩ := p1 hp
    cases hz
    exact ⟨x, rfl, _, t_int h1, fin_v hQ (sh_int.mpr rfl)⟩
  · cases hz

/-! == != < <= > >= -/
mutual
theorem nod_lay : ∀ d : PyData, d.canLay0 = true → nod d = true
  | .none, _ => rfl
  | .bool _, _ => rfl
  | .int _, _ => rfl
  | .str _, _ => rfl
  | .list ds, h => by simp only [nod]; exact nodA_lay ds (by simpa [PyData.canLay0] using h)
  | .tuple ds, h => by simp only [nod]; exact nodA_lay ds (by simpa [PyData.canLay0] using h)
  | .dict _, h => by simp [PyData.canLay0] at h
theorem nodA_lay : ∀ ds : List PyData, PyData.canLayAll0 ds = true → nodA ds = true
  | [], _ => rfl
  | d :: ds, h => by
    have h' : d.canLay0 = true ∧ PyData.canLayAll0 ds = true := by simpa [PyData.canLayAll0] using h
    simp only [nodA, nod_lay d h'.1, nodA_lay ds h'.2, Bool.and_self]
end
theorem nod_shaped {d : PyData} (h : SeqAt.shaped d = true) : nod d = true := nod_lay d (SeqAt.canLay_of_shaped h)
/-- a row that is not empty, and the empty one -/
def rNil (b : Bool) (K : PySem.W.Frag) : R2 := fun x y H Q => ∃ p q xs, x = .ref p ∧ y = .ref q ∧ ((SqL K H p xs ∧ SqL K H q []) ∨ (SqT K H p xs ∧ SqT K H q [])) ∧ xs ≠ [] ∧ Q (.bl b) H
theorem nil_size {its its2 : List Value} {xs : List V} (r : Vals xs its) (r2 : Vals [] its2) (h : xs ≠ []) : (its.toArray.size != its2.toArray.size) = true := by
  cases r2
  cases r with
  | nil => exact absurd rfl h
  | cons _ _ => rfl
theorem op_eqNil (hu : X.A.units + 64 < cLine) : OpR X (compareOp .Eq) (rNil false X.K) := by
  intro pins s σ H x y v u Q I rx ry h
  obtain ⟨p, q, xs, rfl, rfl, hpq, hne, k⟩ := h
  cases rx; cases ry
  rcases hpq with ⟨hp, hq⟩ | ⟨hp, hq⟩
  · obtain ⟨its, rv, pl, _⟩ := I.list hp
    obtain ⟨its2, rv2, pl2, _⟩ := I.list hq
    exact SeqAt.eq_list_lengthsAt pl.isList pl2.isList (nil_size rv rv2 hne) (by omega) ⟨.bl _, H, I, rfl, k⟩
  · obtain ⟨its, rv, pl, _⟩ := I.tuple hp
    obtain ⟨its2, rv2, pl2, _⟩ := I.tuple hq
    have ns := nil_size rv rv2 hne
    have e2 : its2.toArray.size = 0 := by cases rv2; rfl
    refine SeqAt.eq_tupleAt (e := fun _ => false) (show s.heap.IsTuple p its.toArray from pl) (show s.heap.IsTuple q its2.toArray from pl2) (by omega) (fun j _ h2 => by omega) ?_
    have eb : ((List.range (min its.toArray.size its2.toArray.size)).all (fun _ => false) && its.toArray.size == its2.toArray.size) = false := by
      rw [Bool.and_eq_false_iff]; right
      simpa using ns
    rw [eb]
    exact ⟨.bl _, H, I, rfl, k⟩
theorem op_neNil (hu : X.A.units + 64 < cLine) : OpR X (compareOp .NotEq) (rNil true X.K) := by
  intro pins s σ H x y v u Q I rx ry h
  obtain ⟨p, q, xs, rfl, rfl, hpq, hne, k⟩ := h
  cases rx; cases ry
  rcases hpq with ⟨hp, hq⟩ | ⟨hp, hq⟩
  · obtain ⟨its, rv, pl, _⟩ := I.list hp
    obtain ⟨its2, rv2, pl2, _⟩ := I.list hq
    exact SeqAt.RcNeAt.lists_lengths pl.isList pl2.isList (nil_size rv rv2 hne) (by omega) _ _ _ _ ⟨.bl _, H, I, rfl, k⟩
  · obtain ⟨its, rv, pl, _⟩ := I.tuple hp
    obtain ⟨its2, rv2, pl2, _⟩ := I.tuple hq
    have ns := nil_size rv rv2 hne
    have e2 : its2.toArray.size = 0 := by cases rv2; rfl
    have eb : ((List.range (min its.toArray.size its2.toArray.size)).all (fun _ => false) && its.toArray.size == its2.toArray.size) = false := by
      rw [Bool.and_eq_false_iff]; right
      simpa using ns
    have r := SeqAt.RcNeAt.tuples (A := X.A) (s := s) (e := fun _ => false) (show s.heap.IsTuple p its.toArray from pl) (show s.heap.IsTuple q its2.toArray from pl2) (by omega) (fun j _ h2 => by omega)
    rw [eb] at r
    exact r _ _ _ _ ⟨.bl _, H, I, rfl, k⟩
def rEqAll (K : PySem.W.Frag) : R2 := fun x y H Q => (rEqD K x y H Q ∨ rEq x y H Q) ∨ rNil false K x y H Q
def rNeAll (K : PySem.W.Frag) : R2 := fun x y H Q => (rNeD K x y H Q ∨ rNe x y H Q) ∨ rNil true K x y H Q
theorem o_eq (hu : X.A.units + 64 < cLine) : OpR X (compareOp .Eq) (rEqAll X.K) := ((op_eqD hu).or op_eq).or (op_eqNil hu)
theorem o_ne (hu : X.A.units + 64 < cLine) : OpR X (compareOp .NotEq) (rNeAll X.K) := ((op_neD hu).or op_ne).or (op_neNil hu)
theorem v_nilD {O : AP} {H : Hp} {x y : V} {a b : PyData} {neg : Bool} {z : R} (h1 : ShT K O H x a) (h2 : ShT K O H y b) (hz : nilD neg a b = some z) : z = .v (.bool neg) ∧ ∃ p q xs, x = .ref p ∧ y = .ref q ∧ ((SqL K H p xs ∧ SqL K H q []) ∨ (SqT K H p xs ∧ SqT K H q [])) ∧ xs ≠ [] := by
  unfold nilD at hz
  split at hz
  · split at hz
    · rename_i hl
      cases hz
      obtain ⟨p, us, rfl, l1, _, q1⟩ := t_list h1
      obtain ⟨q, ws, rfl, l2, _, q2⟩ := t_list h2
      cases q2
      exact ⟨rfl, p, q, us, rfl, rfl, .inl ⟨SqL.of l1, SqL.of l2⟩, fun e => by subst e; cases q1; exact hl.2 rfl⟩
    · cases hz
  · split at hz
    · rename_i hl
      cases hz
      obtain ⟨p, us, rfl, l1, _, q1⟩ := sh_tuple.mp h1
      obtain ⟨q, ws, rfl, l2, _, q2⟩ := sh_tuple.mp h2
      cases q2
      exact ⟨rfl, p, q, us, rfl, rfl, .inr ⟨l1.sq, l2.sq⟩, fun e => by subst e; cases q1; exact hl.2 rfl⟩
    · cases hz
  · cases hz
theorem dec_str {a b : Str} : decide (V.str a = V.str b) = decide (a = b) := decide_eq_decide.mpr ⟨fun h => by cases h; rfl, fun h => by rw [h]⟩
theorem v_eq : OpV K (V2 (rEqAll K)) eqD := by
  intro O H vs ds z Q hp hz hQ
  unfold eqD at hz
  split at hz
  · obtain ⟨x, y, rfl, h1, h2⟩ := p2 hp
    cases hz
    rw [t_str h1, t_str h2]
    exact ⟨_, _, rfl, .inl (.inr ⟨rfl, by rw [dec_str]; exact fin_v hQ (sh_bool.mpr rfl)⟩)⟩
  · obtain ⟨x, y, rfl, h1, h2⟩ := p2 hp
    split at hz
    · rename_i hl
      cases hz
      exact ⟨x, y, rfl, .inl (.inl ⟨_, _, h1.dp (nod_shaped hl.1), h2.dp (nod_shaped hl.2), hl.1, hl.2, fin_v hQ (sh_bool.mpr rfl)⟩)⟩
    · obtain ⟨rfl, p, q, us, e1, e2, l12, ne⟩ := v_nilD h1 h2 hz
      exact ⟨x, y, rfl, .inr ⟨p, q, us, e1, e2, l12, ne, fin_v hQ (sh_bool.mpr rfl)⟩⟩
  · cases hz
theorem v_ne : OpV K (V2 (rNeAll K)) neD := by
  intro O H vs ds z Q hp hz hQ
  unfold neD at hz
  split at hz
  · obtain ⟨x, y, rfl, h1, h2⟩ := p2 hp
    cases hz
    rw [t_str h1, t_str h2]
    exact ⟨_, _, rfl, .inl (.inr ⟨rfl, by rw [dec_str]; exact fin_v hQ (sh_bool.mpr rfl)⟩)⟩
  · obtain ⟨x, y, rfl, h1, h2⟩ := p2 hp
    split at hz
    · rename_i hl
      cases hz
      exact ⟨x, y, rfl, .inl (.inl ⟨_, _, h1.dp (nod_shaped hl.1), h2.dp (nod_shaped hl.2), hl.1, hl.2, fin_v hQ (sh_bool.mpr rfl)⟩)⟩
    · obtain ⟨rfl, p, q, us, e1, e2, l12, ne⟩ := v_nilD h1 h2 hz
      exact ⟨x, y, rfl, .inr ⟨p, q, us, e1, e2, l12, ne, fin_v hQ (sh_bool.mpr rfl)⟩⟩
  · cases hz
theorem toInts_sh {O : AP} {H : Hp} : ∀ {ds : List PyData} {ns : List Int} {xs : List V}, toInts ds = some ns → ShA K O H xs ds → xs = ns.map V.int ∧ ds = ns.map PyData.int
  | [], ns, _, h, .nil => by cases h; exact ⟨rfl, rfl⟩
  | .int i :: ds, ns, _, h, .cons r t => by
    cases hn : toInts ds with
    | none => simp [toInts, hn] at h
    | some ms =>
      obtain rfl : i :: ms = ns := by simpa [toInts, hn] using h
      obtain ⟨e1, e2⟩ := toInts_sh hn t
      exact ⟨by rw [sh_int.mp r, e1]; rfl, by rw [e2]; rfl⟩
  | .none :: _, _, _, h, _ => by simp [toInts] at h
  | .bool _ :: _, _, _, h, _ => by simp [toInts] at h
  | .str _ :: _, _, _, h, _ => by simp [toInts] at h
  | .list _ :: _, _, _, h, _ => by simp [toInts] at h
  | .tuple _ :: _, _, _, h, _ => by simp [toInts] at h
  | .dict _ :: _, _, _, h, _ => by simp [toInts] at h
theorem toBls_sh {O : AP} {H : Hp} : ∀ {ds : List PyData} {ns : List Bool} {xs : List V}, toBls ds = some ns → ShA K O H xs ds → xs = ns.map V.bl
  | [], ns, _, h, .nil => by cases h; rfl
  | .bool i :: ds, ns, _, h, .cons r t => by
    cases hn : toBls ds with
    | none => simp [toBls, hn] at h
    | some ms =>
      obtain rfl : i :: ms = ns := by simpa [toBls, hn] using h
      rw [sh_bool.mp r, toBls_sh hn t]; rfl
  | .none :: _, _, _, h, _ => by simp [toBls] at h
  | .int _ :: _, _, _, h, _ => by simp [toBls] at h
  | .str _ :: _, _, _, h, _ => by simp [toBls] at h
  | .list _ :: _, _, _, h, _ => by simp [toBls] at h
  | .tuple _ :: _, _, _, h, _ => by simp [toBls] at h
  | .dict _ :: _, _, _, h, _ => by simp [toBls] at h

/-! tuples of ints in order: all four -/
theorem ints_at {its : List Value} {ns : List Int} (r : Vals (ns.map V.int) its) : ∀ (j : Nat) (h1 : j < its.toArray.size), ∃ t, its.toArray[j] = .int (ns.getD j 0) t := fun j h1 =>
  PyProof.Rows.IntsAre.int_at (Vals.ints r) _ _ (by simp at h1; simp [h1])

theorem lexAt_le (ns ms : List Int) : ∀ (k i : Nat), k = min ns.length ms.length - i → i ≤ min ns.length ms.length →
    Ob.lexAt (fun j => decide (ns.getD j 0 = ms.getD j 0)) (fun j => decide (ns.getD j 0 ≤ ms.getD j 0)) (decide (ns.length ≤ ms.length)) i k = lexLe (ns.drop i) (ms.drop i)
  | 0, i, h, hi => by
    rw [Ob.lexAt_zero]
    by_cases c : ns.length ≤ ms.length
    · have e : ns.drop i = [] := List.drop_eq_nil_of_le (by omega)
      rw [e, decide_eq_true c]; rfl
    · have e : ms.drop i = [] := List.drop_eq_nil_of_le (by omega)
      rw [e, decide_eq_false c]
      cases q : ns.drop i with
      | nil =>
        have := List.drop_eq_nil_iff.mp q
        omega
      | cons x xs => rfl
  | k + 1, i, h, hi => by
    have h1 : i < ns.length := by omega
    have h2 : i < ms.length := by omega
    rw [Ob.lexAt_succ, lexAt_le ns ms k (i + 1) (by omega) (by omega)]
    rw [List.drop_eq_getElem_cons h1, List.drop_eq_getElem_cons h2]
    have g1 : ns.getD i 0 = ns[i] := by simp [h1]
    have g2 : ms.getD i 0 = ms[i] := by simp [h2]
    rw [g1, g2]
    show _ = if ns[i] = ms[i] then lexLe _ _ else decide (ns[i] ≤ ms[i])
    by_cases c : ns[i] = ms[i]
    · rw [if_pos c, decide_eq_true c, if_pos rfl]
    · rw [if_neg c, decide_eq_false c, if_neg Bool.false_ne_true]
def rLeTt (K : PySem.W.Frag) : R2 := fun x y H Q => ∃ (a b : Addr) (ns ms : List Int), x = .ref a ∧ y = .ref b ∧ SqT K H a (ns.map V.int) ∧ SqT K H b (ms.map V.int) ∧ Q (.bl (lexLe ns ms)) H
def rGeTt (K : PySem.W.Frag) : R2 := fun x y H Q => ∃ (a b : Addr) (ns ms : List Int), x = .ref a ∧ y = .ref b ∧ SqT K H a (ns.map V.int) ∧ SqT K H b (ms.map V.int) ∧ Q (.bl (lexLe ms ns)) H
theorem o_leT (hu : X.A.units < cLine) : OpR X (compareOp .LtE) (rLeTt X.K) := by
  intro pins s σ H x y v u Q I rx ry h
  obtain ⟨a, b, ns, ms, h1, h2, h3, h4, q⟩ := h
  refine op_leT hu pins s σ H x y v u Q I rx ry ⟨a, b, ns, ms, h1, h2, h3, h4, ?_⟩
  rw [lexAt_le ns ms _ 0 (by omega) (by omega)]
  exact q
def rLtAll (K : PySem.W.Frag) : R2 := fun x y H Q => (rI0 fun i j => .bl (decide (i < j))) x y H Q ∨ rLtT K x y H Q
def rLeAll (K : PySem.W.Frag) : R2 := fun x y H Q => (rI0 fun i j => .bl (decide (i ≤ j))) x y H Q ∨ rLeTt K x y H Q
def rGeAll (K : PySem.W.Frag) : R2 := fun x y H Q => (rI0 fun i j => .bl (decide (j ≤ i))) x y H Q ∨ rGeTt K x y H Q
theorem o_le (hu : X.A.units < cLine) : OpR X (compareOp .LtE) (rLeAll X.K) := op_le.or (o_leT hu)
/-- two ints, or two tuples of ints -/
theorem cmp_inv {o : Op} {a b : PyData} {c : Bool} (h : cmpD o a b = some c) :
    (∃ i j, a = .int i ∧ b = .int j) ∨ ∃ xs ys ns ms, a = .tuple xs ∧ b = .tuple ys ∧ toInts xs = some ns ∧ toInts ys = some ms := by
  unfold cmpD at h
  split at h
  · exact .inl ⟨_, _, rfl, rfl⟩
  · split at h
    · exact .inr ⟨_, _, _, _, rfl, rfl, by assumption, by assumption⟩
    · cases h
  · cases h
theorem v_cmp {o : Op} {r : R2} (hI : ∀ (i j : Int) (b : Bool) (H : Hp) (Q : VK), cmpD o (.int i) (.int j) = some b → Q (.bl b) H → r (.int i) (.int j) H Q)
    (hT : ∀ (a b : Addr) (ns ms : List Int) (c : Bool) (H : Hp) (Q : VK), cmpD o (.tuple (ns.map .int)) (.tuple (ms.map .int)) = some c → SqT K H a (ns.map V.int) → SqT K H b (ms.map V.int) → Q (.bl c) H → r (.ref a) (.ref b) H Q) : OpV K (V2 r) (cmpR o) := by
  intro O H vs ds z Q hp hz hQ
  unfold cmpR at hz
  split at hz
  · rename_i a b
    obtain ⟨x, y, rfl, h1, h2⟩ := p2 hp
    cases hc : cmpD o a b with
    | none => rw [hc] at hz; cases hz
    | some c =>
      rw [hc] at hz
      cases hz
      have fin : Q (.bl c) H := fin_v hQ (sh_bool.mpr rfl)
      rcases cmp_inv hc with ⟨i, j, rfl, rfl⟩ | ⟨xs, ys, ns, ms, rfl, rfl, e1, e2⟩
      · rw [t_int h1, t_int h2]
        exact ⟨_, _, rfl, hI i j c H Q hc fin⟩
      · obtain ⟨a, us, rfl, g1, _, s1⟩ := t_tup h1
        obtain ⟨b, ws, rfl, g2, _, s2⟩ := t_tup h2
        obtain ⟨q1, q1'⟩ := toInts_sh e1 s1
        obtain ⟨q2, q2'⟩ := toInts_sh e2 s2
        subst q1 q2
        rw [q1', q2'] at hc
        exact ⟨_, _, rfl, hT a b ns ms c H Q hc g1 g2 fin⟩
  · cases hz
theorem toInts_map : ∀ ns : List Int, toInts (ns.map .int) = some ns
  | [] => rfl
  | n :: ns => by show (toInts (ns.map .int)).map (n :: ·) = _; rw [toInts_map ns]; rfl
theorem v_le : OpV K (V2 (rLeAll K)) (cmpR .le) := v_cmp (fun i j b H Q h q => .inl ⟨i, j, rfl, rfl, by cases h; exact q⟩) fun a b ns ms c H Q h g1 g2 q => .inr ⟨a, b, ns, ms, rfl, rfl, g1, g2, by
  simp only [cmpD, toInts_map] at h
  cases h; exact q⟩
theorem v_gt : OpV K (V2 (rI0 fun i j => .bl (decide (j < i)))) (cmpR .gt) := v_cmp (fun i j b H Q h q => ⟨i, j, rfl, rfl, by cases h; exact q⟩) fun a b ns ms c H Q h g1 g2 q => by
  simp only [cmpD, toInts_map] at h
  cases h

/-! is None -/
theorem v_isN : OpV K (V1 fun x H Q => Q (.bl (decide (x = .non))) H) isND := by
  intro O H vs ds z Q hp hz hQ
  unfold isND at hz
  split at hz
  · rename_i a
    obtain ⟨x, rfl, h1⟩ := p1 hp
    cases hz
    refine ⟨x, rfl, fin_v hQ (sh_bool.mpr ?_)⟩
    cases a with
    | none => rw [t_none h1]; rfl
    | bool b => rw [t_bool h1]; rfl
    | int i => rw [t_int h1]; rfl
    | str s => rw [t_str h1]; rfl
    | list ds => obtain ⟨a, xs, rfl, _⟩ := t_list h1; rfl
    | tuple ds => obtain ⟨a, xs, rfl, _⟩ := t_tup h1; rfl
    | dict kvs => obtain ⟨a, o, rfl, _⟩ := t_dict h1; rfl
  · cases hz
/-! dicts, asked -/
theorem toKey_sh {O : AP} {H : Hp} {d : PyData} {k : Key} {v : V} (h : toKey d = some k) (s : Sh K O H v d) : v = kV k ∧ d = keyD k := by
  cases d with
  | int i => cases h; exact ⟨sh_int.mp s, rfl⟩
  | str i => cases h; exact ⟨sh_str.mp s, rfl⟩
  | none => cases h
  | bool b => cases h
  | list ds => cases h
  | tuple ds => cases h
  | dict kvs => cases h
theorem toKeys_sh {O : AP} {H : Hp} : ∀ {ds : List PyData} {ks : List Key} {vs : List V}, toKeys ds = some ks → ShA K O H vs ds → vs = ks.map kV ∧ ds = ks.map keyD
  | [], ks, _, h, .nil => by cases h; exact ⟨rfl, rfl⟩
  | d :: ds, ks, _, h, .cons r t => by
    cases h1 : toKey d with
    | none => simp [toKeys, h1] at h
    | some k =>
      cases h2 : toKeys ds with
      | none => simp [toKeys, h1, h2] at h
      | some ks' =>
        obtain rfl : k :: ks' = ks := by simpa [toKeys, h1, h2] using h
        obtain ⟨e1, e2⟩ := toKey_sh h1 r
        obtain ⟨e3, e4⟩ := toKeys_sh h2 t
        exact ⟨by rw [e1, e3]; rfl, by rw [e2, e4]; rfl⟩
theorem keyD_inj {a b : Key} (h : keyD a = keyD b) : a = b := by
  cases a <;> cases b <;> simp [keyD] at h <;> rw [h]
theorem keyT_inj {a b : List Key} (h : keyT a = keyT b) : a = b := by
  have h' : a.map keyD = b.map keyD := by simpa [keyT] using h
  exact (List.map_inj_right (fun x y => keyD_inj)).mp h'
open Classical in
theorem look_rel {κ : Type} [DecidableEq κ] {O : AP} {H : Hp} {f : κ → PyData} (inj : ∀ a b, f a = f b → a = b) {k : κ} : ∀ {ks : List (κ × V)} {kvs : List (PyData × PyData)},
    Paired (fun p q => q.1 = f p.1 ∧ Sh K O H p.2 q.2) ks kvs → (valV ks k = none ∧ look kvs (f k) = none) ∨ ∃ v d, valV ks k = some v ∧ look kvs (f k) = some d ∧ Sh K O H v d
  | _, _, .nil => .inl ⟨rfl, rfl⟩
  | _, _, @Paired.cons _ _ _ p q ks kvs r t => by
    unfold valV look
    rw [List.find?_cons, List.find?_cons]
    by_cases c : p.1 = k
    · have c' : q.1 = f k := by rw [r.1, c]
      rw [decide_eq_true c, decide_eq_true c']
      exact .inr ⟨_, _, rfl, rfl, r.2⟩
    · have c' : ¬ q.1 = f k := fun z => c (inj _ _ (by rw [← r.1, z]))
      rw [decide_eq_false c, decide_eq_false c']
      exact look_rel inj t
/-- the dict at a, asked for the key y -/
theorem dget_of {O : AP} {H : Hp} {a : Addr} {t : Bool} {o : HO} {kvs : List (PyData × PyData)} {y : V} {k : PyData} (ho : H a = some o) (h : DcT K O H t o kvs) (hk : keyOk t k = true) (hy : Sh K O H y k) :
    (DGet H a y none ∧ look kvs k = none) ∨ ∃ v d, DGet H a y (some v) ∧ look kvs k = some d ∧ Sh K O H v d := by
  cases t with
  | false =>
    obtain ⟨ks, rfl, q⟩ := h
    cases hk' : toKey k with
    | none => simp [keyOk, hk'] at hk
    | some kk =>
      obtain ⟨e1, e2⟩ := toKey_sh hk' hy
      subst e1 e2
      rcases look_rel (K := K) (fun _ _ => keyD_inj) (k := kk) q with ⟨z1, z2⟩ | ⟨v, d, z1, z2, z3⟩
      · exact .inl ⟨by rw [← z1]; exact DGet.k ho, z2⟩
      · exact .inr ⟨v, d, by rw [← z1]; exact DGet.k ho, z2, z3⟩
  | true =>
    obtain ⟨ks, rfl, q⟩ := h
    cases k with
    | tuple ds =>
      cases hk' : toKeys ds with
      | none => simp [keyOk, hk'] at hk
      | some kk =>
        obtain ⟨b, xs, rfl, ht, _, sx⟩ := sh_tuple.mp hy
        obtain ⟨e1, e2⟩ := toKeys_sh hk' sx
        subst e1 e2
        rcases look_rel (K := K) (fun _ _ => keyT_inj) (k := kk) q with ⟨z1, z2⟩ | ⟨v, d, z1, z2, z3⟩
        · exact .inl ⟨by rw [← z1]; exact DGet.t ho ht, z2⟩
        · exact .inr ⟨v, d, by rw [← z1]; exact DGet.t ho ht, z2, z3⟩
    | none => simp [keyOk] at hk
    | bool b => simp [keyOk] at hk
    | int i => simp [keyOk] at hk
    | str s => simp [keyOk] at hk
    | list ds => simp [keyOk] at hk
    | dict kvs => simp [keyOk] at hk

/-! in, not in -/
def rInT (K : PySem.W.Frag) : R2 := fun x y H Q => ∃ d ds, Dp K H x d ∧ Dp K H y (.tuple ds) ∧ SeqAt.shaped d = true ∧ SeqAt.shaped (.tuple ds) = true ∧ Q (.bl (ds.any fun z => PyData.eqv z d)) H
def rNotInT (K : PySem.W.Frag) : R2 := fun x y H Q => ∃ d ds, Dp K H x d ∧ Dp K H y (.tuple ds) ∧ SeqAt.shaped d = true ∧ SeqAt.shaped (.tuple ds) = true ∧ Q (.bl (!ds.any fun z => PyData.eqv z d)) H
theorem roomD {A : Around} {xs : List PyData} {d : PyData} (hd : SeqAt.shaped d = true) (hu : A.units + 65 < cLine) : A.units + 1 + min (PyData.depthAll xs) d.depth < cLine := by
  have h : d.canLay0 = true ∧ d.depth ≤ 64 := by simpa [SeqAt.shaped] using hd
  have := Nat.min_le_right (PyData.depthAll xs) d.depth
  omega
theorem o_inT (hu : X.A.units + 65 < cLine) : OpR X (compareOp .In) (rInT X.K) := by
  intro pins s σ H x y v u Q I rx ry h
  obtain ⟨d, ds, hd, he, sd, se, q⟩ := h
  obtain ⟨as, r1⟩ := Dp.reads I d x v hd rx
  obtain ⟨bs, r2⟩ := Dp.reads I (.tuple ds) y u he ry
  exact SeqAt.in_tuple_reads r2 r1 (by simpa [PyData.canLay0] using SeqAt.canLay_of_shaped se) (SeqAt.canLay_of_shaped sd) (roomD sd hu) ⟨.bl _, H, I, rfl, q⟩
theorem o_notInT (hu : X.A.units + 65 < cLine) : OpR X (compareOp .NotIn) (rNotInT X.K) := by
  intro pins s σ H x y v u Q I rx ry h
  obtain ⟨d, ds, hd, he, sd, se, q⟩ := h
  obtain ⟨as, r1⟩ := Dp.reads I d x v hd rx
  obtain ⟨bs, r2⟩ := Dp.reads I (.tuple ds) y u he ry
  exact SeqAt.notIn_tuple_reads r2 r1 (by simpa [PyData.canLay0] using SeqAt.canLay_of_shaped se) (SeqAt.canLay_of_shaped sd) (roomD sd hu) ⟨.bl _, H, I, rfl, q⟩
def rInDc : R2 := fun x y H Q => ∃ a o, y = .ref a ∧ DGet H a x o ∧ Q (.bl o.isSome) H
def rNotInDc : R2 := fun x y H Q => ∃ a o, y = .ref a ∧ DGet H a x o ∧ Q (.bl (!o.isSome)) H
theorem o_inDc (hu : X.A.units + 65 < cLine) : OpR X (compareOp .In) rInDc := by
  intro pins s σ H x y v u Q I rx ry h
  obtain ⟨a, o, rfl, g, q⟩ := h
  cases ry
  exact d_in (by omega) I g rx fun s3 I3 => ⟨.bl o.isSome, H, I3, rfl, q⟩
theorem o_notInDc (hu : X.A.units + 65 < cLine) : OpR X (compareOp .NotIn) rNotInDc := by
  intro pins s σ H x y v u Q I rx ry h
  obtain ⟨a, o, rfl, g, q⟩ := h
  cases ry
  exact d_notIn (by omega) I g rx fun s3 I3 => ⟨.bl (!o.isSome), H, I3, rfl, q⟩
def rInAll (K : PySem.W.Frag) : R2 := fun x y H Q => (rInD K x y H Q ∨ rInT K x y H Q) ∨ rInDc x y H Q
def rNotInAll (K : PySem.W.Frag) : R2 := fun x y H Q => (rNotInD K x y H Q ∨ rNotInT K x y H Q) ∨ rNotInDc x y H Q
theorem o_in (hu : X.A.units + 65 < cLine) : OpR X (compareOp .In) (rInAll X.K) := ((op_inD hu).or (o_inT hu)).or (o_inDc hu)
theorem o_notin (hu : X.A.units + 65 < cLine) : OpR X (compareOp .NotIn) (rNotInAll X.K) := ((op_notInD hu).or (o_notInT hu)).or (o_notInDc hu)
/-- a key is flat data -/
theorem key_sh {O : AP} {H : Hp} {t : Bool} {k : PyData} {y : V} (hk : keyOk t k = true) (h : ShT K O H y k) : Sh K O H y k := by
  cases k with
  | list ds => cases t <;> simp [keyOk, toKey] at hk
  | dict kvs => cases t <;> simp [keyOk, toKey] at hk
  | none => exact h
  | bool b => exact h
  | int i => exact h
  | str s => exact h
  | tuple ds => exact h
theorem keyOk_td (k : Key) : keyOk true (keyD k) = false := by cases k <;> rfl
theorem keyOk_ft (k : List Key) : keyOk false (keyT k) = false := rfl
/-- a dict that is not empty shows its kind -/
theorem dkOk_t {O : AP} {H : Hp} {o : HO} {kvs : List (PyData × PyData)} {k : PyData} (h : dkOk kvs k = true) (hd : DcIs K O H o kvs) : ∃ t, DcT K O H t o kvs ∧ keyOk t k = true := by
  have h' : kvs.isEmpty = false ∧ (keysK kvs = true ∧ keyOk false k = true ∨ keysT kvs = true ∧ keyOk true k = true) := by simpa [dkOk] using h
  rcases hd with hd | hd
  · refine ⟨false, hd, ?_⟩
    rcases h'.2 with z | z
    · exact z.2
    · obtain ⟨ks, _, q⟩ := hd
      cases q with
      | nil => simp at h'
      | cons r _ =>
        have zz := z.1
        simp only [keysT, List.all_cons, Bool.and_eq_true] at zz
        have z1 := zz.1
        rw [r.1, keyOk_td] at z1
        cases z1
  · refine ⟨true, hd, ?_⟩
    rcases h'.2 with z | z
    · obtain ⟨ks, _, q⟩ := hd
      cases q with
      | nil => simp at h'
      | cons r _ =>
        have zz := z.1
        simp only [keysK, List.all_cons, Bool.and_eq_true] at zz
        have z1 := zz.1
        rw [r.1, keyOk_ft] at z1
        cases z1
    · exact z.2
theorem has_in {O : AP} {H : Hp} {a b : PyData} {x y : V} {c : Bool} {Q : VK} (h : hasD a b = some c) (h1 : ShT K O H x a) (h2 : ShT K O H y b) (q : Q (.bl c) H) : rInAll K x y H Q := by
  unfold hasD at h
  split at h
  · split at h
    · rename_i hl
      cases h
      exact .inl (.inl ⟨_, _, h1.dp (nod_shaped hl.1), h2.dp (nod_shaped hl.2), hl.1, hl.2, q⟩)
    · cases h
  · split at h
    · rename_i hl
      cases h
      exact .inl (.inr ⟨_, _, h1.dp (nod_shaped hl.1), h2.dp (nod_shaped hl.2), hl.1, hl.2, q⟩)
    · cases h
  · split at h
    · rename_i hl
      cases h
      obtain ⟨p, o, rfl, ho, hd⟩ := t_dict h2
      obtain ⟨t, hd', hk⟩ := dkOk_t hl hd
      rcases dget_of ho hd' hk (key_sh hk h1) with ⟨z1, z2⟩ | ⟨v, d, z1, z2, _⟩
      · exact .inr ⟨p, _, rfl, z1, by rw [z2] at q; exact q⟩
      · exact .inr ⟨p, _, rfl, z1, by rw [z2] at q; exact q⟩
    · cases h
  · cases h
theorem has_notin {O : AP} {H : Hp} {a b : PyData} {x y : V} {c : Bool} {Q : VK} (h : hasD a b = some c) (h1 : ShT K O H x a) (h2 : ShT K O H y b) (q : Q (.bl (!c)) H) : rNotInAll K x y H Q := by
  unfold hasD at h
  split at h
  · split at h
    · rename_i hl
      cases h
      exact .inl (.inl ⟨_, _, h1.dp (nod_shaped hl.1), h2.dp (nod_shaped hl.2), hl.1, hl.2, q⟩)
    · cases h
  · split at h
    · rename_i hl
      cases h
      exact .inl (.inr ⟨_, _, h1.dp (nod_shaped hl.1), h2.dp (nod_shaped hl.2), hl.1, hl.2, q⟩)
    · cases h
  · split at h
    · rename_i hl
      cases h
      obtain ⟨p, o, rfl, ho, hd⟩ := t_dict h2
      obtain ⟨t, hd', hk⟩ := dkOk_t hl hd
      rcases dget_of ho hd' hk (key_sh hk h1) with ⟨z1, z2⟩ | ⟨v, d, z1, z2, _⟩
      · exact .inr ⟨p, _, rfl, z1, by rw [z2] at q; exact q⟩
      · exact .inr ⟨p, _, rfl, z1, by rw [z2] at q; exact q⟩
    · cases h
  · cases h
theorem v_in : OpV K (V2 (rInAll K)) inD := by
  intro O H vs ds z Q hp hz hQ
  unfold inD at hz
  split at hz
  · rename_i a b
    obtain ⟨x, y, rfl, h1, h2⟩ := p2 hp
    cases hc : hasD a b with
    | none => rw [hc] at hz; cases hz
    | some c =>
      rw [hc] at hz
      cases hz
      exact ⟨x, y, rfl, has_in hc h1 h2 (fin_v hQ (sh_bool.mpr rfl))⟩
  · cases hz
theorem v_notin : OpV K (V2 (rNotInAll K)) notinD := by
  intro O H vs ds z Q hp hz hQ
  unfold notinD at hz
  split at hz
  · rename_i a b
    obtain ⟨x, y, rfl, h1, h2⟩ := p2 hp
    cases hc : hasD a b with
    | none => rw [hc] at hz; cases hz
    | some c =>
      rw [hc] at hz
      cases hz
      exact ⟨x, y, rfl, has_notin hc h1 h2 (fin_v hQ (sh_bool.mpr rfl))⟩
  · cases hz
end
end PV

/-! PV.6: more operations by values -/
namespace PV
open PySem PySem.Spec L2

section
variable {X : Cx} {K : PySem.W.Frag}
/-! items -/
def rIxDc : R2 := fun x y H Q => ∃ a v, x = .ref a ∧ DGet H a y (some v) ∧ Q v H
theorem ix_dc (hu : X.A.units + 65 < cLine) : IxR X rIxDc := by
  intro value slice pins s σ H x y v u Q I rx ry h hs
  obtain ⟨a, w, rfl, g, q⟩ := h
  cases rx
  exact PyProof.Rows.tail_any (dict_typeIs I g) PySem.F.slot_dict_getitem.lookup (d_getItem (by omega) I g ry fun w' s3 I3 rw' => ⟨w, H, I3, rw', q⟩) hs
def rIxAll (K : PySem.W.Frag) : R2 := fun x y H Q => (rIxL K x y H Q ∨ rIxT K x y H Q) ∨ rIxDc x y H Q
theorem ix_all (hu : X.A.units + 65 < cLine) : IxR X (rIxAll X.K) := (ix_list.or ix_tup).or (ix_dc hu)
theorem pick_sh {O : AP} {H : Hp} {xs : List V} {ds : List PyData} {i : Int} {d : PyData} (h : ShA K O H xs ds) (hp : pick ds i = some d) : ∃ v, atI xs i = some v ∧ Sh K O H v d := by
  unfold pick atI at hp
  unfold atI
  rw [Paired.len h]
  cases hx : ixN ds.length i with
  | none => rw [hx] at hp; cases hp
  | some j =>
    rw [hx] at hp
    obtain ⟨v, e, s⟩ := Paired.get h (show ds[j]? = some d from hp)
    exact ⟨v, e, s⟩
theorem v_idx : OpV K (V2 (rIxAll K)) idxD := by
  intro O H vs ds z Q hp hz hQ
  unfold idxD at hz
  split at hz
  · obtain ⟨x, y, rfl, h1, h2⟩ := p2 hp
    rename_i xs i
    cases hc : pick xs i with
    | none => rw [hc] at hz; cases hz
    | some d =>
      rw [hc] at hz; cases hz
      obtain ⟨a, us, rfl, g, _, s⟩ := t_list h1
      obtain ⟨v, e, sv⟩ := pick_sh s hc
      exact ⟨_, _, rfl, .inl (.inl ⟨a, us, i, v, rfl, t_int h2, SqL.of g, e, fin_v hQ sv⟩)⟩
  · obtain ⟨x, y, rfl, h1, h2⟩ := p2 hp
    rename_i xs i
    cases hc : pick xs i with
    | none => rw [hc] at hz; cases hz
    | some d =>
      rw [hc] at hz; cases hz
      obtain ⟨a, us, rfl, g, _, s⟩ := t_tup h1
      obtain ⟨v, e, sv⟩ := pick_sh s hc
      exact ⟨_, _, rfl, .inl (.inr ⟨a, us, i, v, rfl, t_int h2, g, e, fin_v hQ sv⟩)⟩
  · obtain ⟨x, y, rfl, h1, h2⟩ := p2 hp
    split at hz
    · rename_i kvs k hk
      cases hc : look kvs k with
      | none => rw [hc] at hz; cases hz
      | some d =>
        rw [hc] at hz; cases hz
        obtain ⟨p, o, rfl, ho, hd⟩ := t_dict h1
        obtain ⟨t, hd', hk'⟩ := dkOk_t hk hd
        rcases dget_of ho hd' hk' (key_sh hk' h2) with ⟨_, z2⟩ | ⟨v, d', z1, z2, z3⟩
        · rw [hc] at z2; cases z2
        · rw [hc] at z2; cases z2
          exact ⟨_, y, rfl, .inr ⟨p, v, rfl, z1, fin_v hQ z3⟩⟩
    · cases hz
  · cases hz

/-! slices -/
def rSlAll (K : PySem.W.Frag) : V → Option Int → Option Int → Hp → VK → Prop := fun x lo hi H Q => rSlL K x lo hi H Q ∨ rSlA K x lo hi H Q
theorem sl_all : SlR X (rSlAll X.K) := sl_list.or sl_tupA
theorem cut_sh {O : AP} {H : Hp} {xs : List V} {ds : List PyData} (h : ShA K O H xs ds) (lo hi : Option Int) : ShA K O H (cutV xs lo hi) (cutD ds lo hi) := by
  unfold cutV cutD
  rw [Paired.len h]
  exact Paired.tk (Paired.dr h _) _
theorem cut_list {O : AP} {H : Hp} {x : V} {ds : List PyData} {lo hi : Option Int} {Q : VK} (h : ShT K O H x (.list ds))
    (hQ : ∀ v H' F, Keep (fun _ => False) H H' → (∀ p ∈ F, H p = none ∧ H' p ≠ none) → RO K (plus O F) H' v F (.fl (cutD ds lo hi)) → Q v H') : rSlAll K x lo hi H Q := by
  obtain ⟨a, xs, rfl, g, z, s⟩ := t_list h
  exact .inl ⟨a, xs, rfl, SqL.of g, fin_l hQ (Nat.le_trans (cutV_length _ _ _) z) (cut_sh s lo hi)⟩
theorem cut_all {α : Type} {xs : List α} {lo hi : Option Int} (h : HT.sIx xs.length 0 lo = 0 ∧ HT.sIx xs.length xs.length hi = xs.length) : cutD xs lo hi = xs := by
  unfold cutD
  rw [h.1, h.2, List.drop_zero, Nat.sub_zero, List.take_length]
theorem cut_tup {O : AP} {H : Hp} {x : V} {ds : List PyData} {lo hi : Option Int} {Q : VK} (h : ShT K O H x (.tuple ds))
    (hQ : ∀ v H' F, Keep (fun _ => False) H H' → (∀ p ∈ F, H p = none ∧ H' p ≠ none) → RO K (plus O F) H' v F (.v (.tuple (cutD ds lo hi))) → Q v H') : rSlAll K x lo hi H Q := by
  obtain ⟨a, xs, rfl, g, z, s⟩ := t_tup h
  refine .inr ⟨a, xs, rfl, g, fun e => ?_, fun _ => fin_t hQ (Nat.le_trans (cutV_length _ _ _) z) (cut_sh s lo hi)⟩
  refine fin_v hQ ?_
  rw [cut_all (by rw [← Paired.len s]; exact e)]
  exact t_tup' h
/-- the parts as they come: what is written stands -/
def V3s (lo hi : Bool) (r : V → Option Int → Option Int → Hp → VK → Prop) : List V → Hp → VK → Prop := fun vs H Q => match lo, hi with
  | false, false => ∃ x, vs = [x] ∧ r x none none H Q
  | true, false => ∃ x i, vs = [x, .int i] ∧ r x (some i) none H Q
  | false, true => ∃ x i, vs = [x, .int i] ∧ r x none (some i) H Q
  | true, true => ∃ x i j, vs = [x, .int i, .int j] ∧ r x (some i) (some j) H Q
theorem v_sl (lo hi : Bool) : OpV K (V3s lo hi (rSlAll K)) (slD lo hi) := by
  intro O H vs ds z Q hp hz hQ
  unfold slD at hz
  split at hz
  · obtain ⟨x, rfl, h1⟩ := p1 hp
    split at hz
    · rename_i hl
      obtain ⟨rfl, rfl⟩ := hl
      cases hz
      exact ⟨x, rfl, cut_list h1 hQ⟩
    · cases hz
  · obtain ⟨x, rfl, h1⟩ := p1 hp
    split at hz
    · rename_i hl
      obtain ⟨rfl, rfl⟩ := hl
      cases hz
      exact ⟨x, rfl, cut_tup h1 hQ⟩
    · cases hz
  · obtain ⟨x, y, rfl, h1, h2⟩ := p2 hp
    rw [t_int h2]
    split at hz
    · rename_i hl
      obtain ⟨rfl, rfl⟩ := hl
      cases hz
      exact ⟨x, _, rfl, cut_list h1 hQ⟩
    · split at hz
      · rename_i hl
        obtain ⟨rfl, rfl⟩ := hl
        cases hz
        exact ⟨x, _, rfl, cut_list h1 hQ⟩
      · cases hz
  · obtain ⟨x, y, rfl, h1, h2⟩ := p2 hp
    rw [t_int h2]
    split at hz
    · rename_i hl
      obtain ⟨rfl, rfl⟩ := hl
      cases hz
      exact ⟨x, _, rfl, cut_tup h1 hQ⟩
    · split at hz
      · rename_i hl
        obtain ⟨rfl, rfl⟩ := hl
        cases hz
        exact ⟨x, _, rfl, cut_tup h1 hQ⟩
      · cases hz
  · obtain ⟨x, y, w, rfl, h1, h2, h3⟩ := p3 hp
    rw [t_int h2, t_int h3]
    split at hz
    · rename_i hl
      obtain ⟨rfl, rfl⟩ := hl
      cases hz
      exact ⟨x, _, _, rfl, cut_list h1 hQ⟩
    · cases hz
  · obtain ⟨x, y, w, rfl, h1, h2, h3⟩ := p3 hp
    rw [t_int h2, t_int h3]
    split at hz
    · rename_i hl
      obtain ⟨rfl, rfl⟩ := hl
      cases hz
      exact ⟨x, _, _, rfl, cut_tup h1 hQ⟩
    · cases hz
  · cases hz

/-! calls of built-ins -/
def VC (r : List V → Hp → VK → Prop) : List V → Hp → VK → Prop := r
theorem v_len : OpV K (fun xs H Q => ∃ x n, xs = [x] ∧ LenV K x H n ∧ Q (.int n) H) lenD := by
  intro O H vs ds z Q hp hz hQ
  unfold lenD at hz
  split at hz
  · obtain ⟨x, rfl, h1⟩ := p1 hp
    cases hz
    obtain ⟨a, xs, rfl, g, _, s⟩ := t_list h1
    exact ⟨_, _, rfl, .inl ⟨xs, SqL.of g, rfl⟩, by rw [Paired.len s]; exact fin_v hQ (sh_int.mpr rfl)⟩
  · obtain ⟨x, rfl, h1⟩ := p1 hp
    cases hz
    obtain ⟨a, xs, rfl, g, _, s⟩ := t_tup h1
    exact ⟨_, _, rfl, .inr ⟨xs, g, rfl⟩, by rw [Paired.len s]; exact fin_v hQ (sh_int.mpr rfl)⟩
  · obtain ⟨x, rfl, h1⟩ := p1 hp
    split at hz
    · rename_i hl
      rw [LIM_eq] at hl
      cases hz
      rw [t_str h1]
      exact ⟨_, _, rfl, ⟨hl, rfl⟩, fin_v hQ (sh_int.mpr rfl)⟩
    · cases hz
  · cases hz
theorem v_tuple : OpV K (fun xs H Q => ∃ p ys, xs = [.ref p] ∧ ((SqL K H p ys ∧ ∀ l, H l = none → Q (.ref l) (upd H l (.tup ys))) ∨ (SqT K H p ys ∧ Q (.ref p) H))) tupleD := by
  intro O H vs ds z Q hp hz hQ
  unfold tupleD at hz
  split at hz
  · obtain ⟨x, rfl, h1⟩ := p1 hp
    cases hz
    obtain ⟨a, xs, rfl, g, zl, s⟩ := t_list h1
    exact ⟨a, xs, rfl, .inl ⟨SqL.of g, fin_t hQ zl s⟩⟩
  · obtain ⟨x, rfl, h1⟩ := p1 hp
    cases hz
    obtain ⟨a, xs, rfl, g, zl, s⟩ := t_tup h1
    exact ⟨a, xs, rfl, .inr ⟨g, fin_v hQ (t_tup' h1)⟩⟩
  · cases hz
/-- min(xs) of a tuple of ints -/
def rMinT (K : PySem.W.Frag) : List V → Hp → VK → Prop := fun vs H Q => ∃ (a : Addr) (n : Int) (ns : List Int), vs = [V.ref a] ∧ SqT K H a ((n :: ns).map V.int) ∧ Q (.int (ns.foldl min n)) H
open PyProof.Rows in
def rMinB (K : PySem.W.Frag) : List V → Hp → VK → Prop := fun vs H Q => rMin K vs H Q ∨ rMinT K vs H Q
/-- max(xs) of a tuple of ints -/
def rMaxT (K : PySem.W.Frag) : List V → Hp → VK → Prop := fun vs H Q => ∃ (a : Addr) (n : Int) (ns : List Int), vs = [V.ref a] ∧ SqT K H a ((n :: ns).map V.int) ∧ Q (.int (ns.foldl max n)) H
open PyProof.Rows in
def rMaxB (K : PySem.W.Frag) : List V → Hp → VK → Prop := fun vs H Q => rMax K vs H Q ∨ rMaxT K vs H Q
/-- sum(xs) of a tuple of ints -/
def rSumT (K : PySem.W.Frag) : List V → Hp → VK → Prop := fun vs H Q => ∃ (a : Addr) (ns : List Int), vs = [V.ref a] ∧ SqT K H a (ns.map V.int) ∧ Q (.int ns.sum) H
open PyProof.Rows in
def rSumB (K : PySem.W.Frag) : List V → Hp → VK → Prop := fun vs H Q => rSum K vs H Q ∨ rSumT K vs H Q
theorem v_all : OpV K (rAll K) allD := by
  intro O H vs ds z Q hp hz hQ
  unfold allD at hz
  split at hz
  · obtain ⟨x, rfl, h1⟩ := p1 hp
    rename_i xs
    cases e : toBls xs with
    | none => rw [e] at hz; cases hz
    | some ns =>
      rw [e] at hz; cases hz
      obtain ⟨a, us, rfl, g, zl, s⟩ := t_list h1
      have q := toBls_sh e s
      subst q
      exact ⟨a, ns, rfl, SqL.of g, fin_v hQ (sh_bool.mpr rfl)⟩
  · cases hz
theorem v_int : OpV K (fun xs H Q => (∃ i, xs = [.int i] ∧ Q (.int i) H) ∨ ∃ k, xs = [.bl k] ∧ Q (.int (if k then 1 else 0)) H) intD := by
  intro O H vs ds z Q hp hz hQ
  unfold intD at hz
  split at hz
  · obtain ⟨x, rfl, h1⟩ := p1 hp
    cases hz
    rw [t_int h1]
    exact .inl ⟨_, rfl, fin_v hQ (sh_int.mpr rfl)⟩
  · obtain ⟨x, rfl, h1⟩ := p1 hp
    cases hz
    rw [t_bool h1]
    exact .inr ⟨_, rfl, fin_v hQ (sh_int.mpr rfl)⟩
  · cases hz
theorem v_str : OpV K (fun xs H Q => ∃ i, xs = [.int i] ∧ i.natAbs.log2 < 1920 ∧ Q (.str (toString i)) H) strD := by
  intro O H vs ds z Q hp hz hQ
  unfold strD at hz
  split at hz
  · obtain ⟨x, rfl, h1⟩ := p1 hp
    split at hz
    · rename_i hl
      cases hz
      rw [t_int h1]
      exact ⟨_, rfl, hl, fin_v hQ (sh_str.mpr rfl)⟩
    · cases hz
  · cases hz
end
end PV

/-! PV.7: the rules for expressions -/
namespace PV
open PySem PySem.Spec L2

structure Ok (X : Cx) : Prop where
  calm : X.calm = true
  nd : X.N.Nodup
  un : X.A.units + 65 < cLine
  gd : X.A.guards = some []
theorem Ok.un1 {X : Cx} (k : Ok X) : X.A.units < cLine := by have := k.un; omega
section
variable (X : Cx) (xc : XC) (W : WX) (cl : Nat → List Arg → DS → FRes)
def DE (e : Expr) (a : E) : Prop := PE X e (tE xc X.K W fun m => ev cl a m)
def DA (e : List Expr) (a : Es) : Prop := PA X e (tEs xc X.K W fun m => evs cl a m)
def DT (e : Expr) (a : T) : Prop := PT X e (tT xc X.K W fun m => evT cl a m)
def DW (e : Expr) (a : T) : Prop := PW X e (tT xc X.K W fun m => evT cl a m)
end

section
variable {xc : XC} {K : PySem.W.Frag} {W : WX} {cl : Nat → List Arg → DS → FRes} {g : Gd} {O0 : AP} {e : Env} {s : DS} {σ : L2.St} {H H1 H' : Hp} {F : List Addr} {m m1 : M}

theorem tE.mono {f : M → Res R} {Q Q' : VK} (h : tE xc K W f σ H Q) (i : ∀ v H, Q v H → Q' v H) : tE xc K W f σ H Q' := by
  obtain ⟨g, O0, e, s, G, h⟩ := h
  refine ⟨g, O0, e, s, G, ?_⟩
  cases hf : f ⟨e, s⟩ with
  | ok r m => simp only [hf] at h ⊢; intro v H' F t rv; exact i _ _ (h v H' F t rv)
  | rz c f m => simp only [hf] at h ⊢; exact h
  | bad => simp only [hf] at h; exact h.elim
theorem tEs.mono {f : M → Res (List R)} {Q Q' : List V → Hp → Prop} (h : tEs xc K W f σ H Q) (i : ∀ v H, Q v H → Q' v H) : tEs xc K W f σ H Q' := by
  obtain ⟨g, O0, e, s, G, h⟩ := h
  refine ⟨g, O0, e, s, G, ?_⟩
  cases hf : f ⟨e, s⟩ with
  | ok r m => simp only [hf] at h ⊢; intro v H' F t rv; exact i _ _ (h v H' F t rv)
  | rz c f m => simp only [hf] at h ⊢; exact h
  | bad => simp only [hf] at h; exact h.elim
theorem tT.mono {f : M → Res Bool} {Q Q' : Bool → Hp → Prop} (h : tT xc K W f σ H Q) (i : ∀ v H, Q v H → Q' v H) : tT xc K W f σ H Q' := by
  obtain ⟨g, O0, e, s, G, h⟩ := h
  refine ⟨g, O0, e, s, G, ?_⟩
  cases hf : f ⟨e, s⟩ with
  | ok r m => simp only [hf] at h ⊢; intro H' t; exact i _ _ (h H' t)
  | rz c f m => simp only [hf] at h ⊢; exact h
  | bad => simp only [hf] at h; exact h.elim

theorem one_ok {a : E} {Q : List V → Hp → Prop} (h : tEs xc K W (fun m => evs cl (.cons a .nil) m) σ H Q) : tE xc K W (fun m => ev cl a m) σ H fun x H1 => Q [x] H1 :=
  (cons_ok (f := fun m => ev cl a m) (fs := fun m => evs cl .nil m) h).mono fun _ _ h => nil_ok h
theorem two_ok {a b : E} {Q : List V → Hp → Prop} (h : tEs xc K W (fun m => evs cl (.cons a (.cons b .nil)) m) σ H Q) : tE xc K W (fun m => ev cl a m) σ H fun x H1 => tE xc K W (fun m => ev cl b m) σ H1 fun y H2 => Q [x, y] H2 :=
  (cons_ok (f := fun m => ev cl a m) (fs := fun m => evs cl (.cons b .nil) m) h).mono fun _ _ h => one_ok h
theorem three_ok {a b c : E} {Q : List V → Hp → Prop} (h : tEs xc K W (fun m => evs cl (.cons a (.cons b (.cons c .nil))) m) σ H Q) : tE xc K W (fun m => ev cl a m) σ H fun x H1 => tE xc K W (fun m => ev cl b m) σ H1 fun y H2 => tE xc K W (fun m => ev cl c m) σ H2 fun z H3 => Q [x, y, z] H3 :=
  (cons_ok (f := fun m => ev cl a m) (fs := fun m => evs cl (.cons b (.cons c .nil)) m) h).mono fun _ _ h => two_ok h

/-- what an operation must do where its operands may be one's own -/
def OpE (K : PySem.W.Frag) (r : List V → Hp → VK → Prop) (o : Op) : Prop :=
  ∀ (g : Gd) (O0 : AP) (e : Env) (σ : L2.St) (H : Hp) (vs : List V) (F : List Addr) (rs : List R) (z : R) (Q : VK), RVs K g (Ow (plus O0 F) e σ) σ H vs F rs → Rep K g (plus O0 F) e σ H → opE e o rs = some z →
    (∀ v H' F', Keep (fun _ => False) H H' → (∀ p ∈ F', H p = none ∧ H' p ≠ none) → RO K (plus (Ow O0 e σ) F') H' v F' z → Q v H') → r vs H Q
theorem OpE.of {r : List V → Hp → VK → Prop} {o : Op} (ho : OpV K r (opD o)) (hn : ∀ e rs, dictOp e o rs = none := by intro _ _; rfl) : OpE K r o := by
  intro g O0 e σ H vs F rs z Q rv rep hz hQ
  unfold opE at hz
  rw [hn] at hz
  cases hd : derefs e rs with
  | none => rw [hd] at hz; cases hz
  | some ds => rw [hd] at hz; exact ho _ H vs ds z Q (rv.vals' rep hd) hz hQ
theorem OpE.use {r : List V → Hp → VK → Prop} {o : Op} {as : Es} (ho : OpE K r o) {Q : VK} (h : tE xc K W (fun m => ev cl (.op o as) m) σ H Q) : tEs xc K W (fun m => evs cl as m) σ H fun vs H1 => r vs H1 Q := by
  obtain ⟨g, O0, e, s, G, h⟩ := h
  refine ⟨g, O0, e, s, G, ?_⟩
  show PostEs xc K W g O0 e σ H _ (evs cl as ⟨e, s⟩)
  have h : PostE xc K W g O0 e σ H Q (match evs cl as ⟨e, s⟩ with
    | .ok rs m1 => match opE m1.e o rs with
      | some r => .ok r m1
      | none => .bad
    | .rz c f m1 => .rz c f m1
    | .bad => .bad) := h
  cases hf : evs cl as ⟨e, s⟩ with
  | ok rs m1 =>
    simp only [hf] at h
    intro vs H1 F1 t1 rvs
    cases hz : opE m1.e o rs with
    | none => simp only [hz] at h; exact h.elim
    | some z =>
      simp only [hz] at h
      exact ho g O0 m1.e σ H1 vs F1 rs z Q rvs t1.rep hz fun v H' F k hF rv => post_op h G t1 k hF rv.rv
  | rz c f m1 => simp only [hf] at h; exact h
  | bad => simp only [hf] at h; exact h
/-- a dict of one's own -/
theorem own_dict {i : Nat} {v : V} {t : Bool} {kvs : List (PyData × PyData)} (rep : Rep K g (plus O0 F) e σ H) (hi : e[i]? = some (.od t kvs)) (hv : σ[i]? = some (some v)) : ∃ p o, v = .ref p ∧ H p = some o ∧ DcT K (Ow O0 e σ) H t o kvs := by
  obtain ⟨p, o, h1, _, h3, h5⟩ := rep.at' i _ hi
  rw [hv] at h1; cases h1
  exact ⟨p, o, rfl, h3, h5.weak fun a z => z.imp .inl id⟩
theorem rv_k {v : V} {d : PyData} {F1 : List Addr} (h : RV1 K g (Ow (plus O0 F) e σ) σ H v F1 (.v d)) : F1 = [] ∧ Sh K (Ow O0 e σ) H v d := ⟨h.1, h.2.weak fun a z => z.imp .inl id⟩
theorem rvs2 {vs : List V} {a b : R} (h : RVs K g (Ow (plus O0 F) e σ) σ H vs F [a, b]) : ∃ x y F1 F2, vs = [x, y] ∧ RV1 K g (Ow (plus O0 F) e σ) σ H x F1 a ∧ RV1 K g (Ow (plus O0 F) e σ) σ H y F2 b := by
  generalize hO : Ow (plus O0 F) e σ = O at h
  cases h with
  | cons r t _ => cases t with
    | cons r' t' _ => cases t'; exact ⟨_, _, _, _, rfl, r, r'⟩
theorem OpE.dict {r : List V → Hp → VK → Prop} {o : Op} (ho : OpV K r (opD o))
    (hd : ∀ (g : Gd) (O0 : AP) (e : Env) (σ : L2.St) (H : Hp) (vs : List V) (F : List Addr) (rs : List R) (z : R) (Q : VK), RVs K g (Ow (plus O0 F) e σ) σ H vs F rs → Rep K g (plus O0 F) e σ H → dictOp e o rs = some z →
      (∀ v H' F', Keep (fun _ => False) H H' → (∀ p ∈ F', H p = none ∧ H' p ≠ none) → RO K (plus (Ow O0 e σ) F') H' v F' z → Q v H') → r vs H Q) : OpE K r o := by
  intro g O0 e σ H vs F rs z Q rv rep hz hQ
  unfold opE at hz
  cases hn : dictOp e o rs with
  | some z' => rw [hn] at hz; cases hz; exact hd g O0 e σ H vs F rs z Q rv rep hn hQ
  | none =>
    rw [hn] at hz
    cases hd : derefs e rs with
    | none => rw [hd] at hz; cases hz
    | some ds => rw [hd] at hz; exact ho _ H vs ds z Q (rv.vals' rep hd) hz hQ
theorem e_in : OpE K (V2 (rInAll K)) .inn := OpE.dict v_in fun g O0 e σ H vs F rs z Q rv rep hz hQ => by
  unfold dictOp at hz
  split at hz <;> try contradiction
  · rename_i k i _
    split at hz
    · rename_i t kvs hi
      split at hz
      · rename_i hk
        cases hz
        obtain ⟨x, y, F1, F2, rfl, r1, r2⟩ := rvs2 rv
        obtain ⟨p, o, rfl, ho, hd⟩ := own_dict rep hi r2.2
        refine ⟨x, _, rfl, .inr ?_⟩
        rcases dget_of ho hd hk (rv_k r1).2 with ⟨z1, z2⟩ | ⟨v, d', z1, z2, z3⟩
        · exact ⟨p, _, rfl, z1, by rw [z2] at hQ; exact fin_v hQ (sh_bool.mpr rfl)⟩
        · exact ⟨p, _, rfl, z1, by rw [z2] at hQ; exact fin_v hQ (sh_bool.mpr rfl)⟩
      · cases hz
    · cases hz
theorem e_notin : OpE K (V2 (rNotInAll K)) .notin := OpE.dict v_notin fun g O0 e σ H vs F rs z Q rv rep hz hQ => by
  unfold dictOp at hz
  split at hz <;> try contradiction
  · rename_i k i _
    split at hz
    · rename_i t kvs hi
      split at hz
      · rename_i hk
        cases hz
        obtain ⟨x, y, F1, F2, rfl, r1, r2⟩ := rvs2 rv
        obtain ⟨p, o, rfl, ho, hd⟩ := own_dict rep hi r2.2
        refine ⟨x, _, rfl, .inr ?_⟩
        rcases dget_of ho hd hk (rv_k r1).2 with ⟨z1, z2⟩ | ⟨v, d', z1, z2, z3⟩
        · exact ⟨p, _, rfl, z1, by rw [z2] at hQ; exact fin_v hQ (sh_bool.mpr rfl)⟩
        · exact ⟨p, _, rfl, z1, by rw [z2] at hQ; exact fin_v hQ (sh_bool.mpr rfl)⟩
      · cases hz
    · cases hz
theorem e_idx : OpE K (V2 (rIxAll K)) .idx := OpE.dict v_idx fun g O0 e σ H vs F rs z Q rv rep hz hQ => by
  unfold dictOp at hz
  split at hz <;> try contradiction
  · rename_i i k _
    split at hz
    · rename_i t kvs hi
      split at hz
      · rename_i hk
        obtain ⟨x, y, F1, F2, rfl, r1, r2⟩ := rvs2 rv
        obtain ⟨p, o, rfl, ho, hd⟩ := own_dict rep hi r1.2
        refine ⟨_, y, rfl, .inr ?_⟩
        rcases dget_of ho hd hk (rv_k r2).2 with ⟨z1, z2⟩ | ⟨v, d', z1, z2, z3⟩
        · rw [z2] at hz; cases hz
        · rw [z2] at hz; cases hz; exact ⟨p, v, rfl, z1, fin_v hQ z3⟩
      · cases hz
    · cases hz
end

section
variable {X : Cx} {xc : XC} {W : WX} {cl : Nat → List Arg → DS → FRes} {a b c : Expr} {ea eb ec : E} {pos : Pos}
theorem de_var {i : Nat} {x : Str} (hN : X.N[i]? = some x) (hv : Vis X.env.scope x) (hd : (x == ("__debug__" : Str)) = false := by decide) (hcd : (x == ("__classdict__" : Str)) = false := by decide) : DE X xc W cl (.Name x pos) (.x i) :=
  PEimp (pe_var hN hv hd hcd) fun σ H Q h => by
    obtain ⟨g, O0, e, s, G, h⟩ := h
    have h : PostE xc X.K W g O0 e σ H Q (match e[i]? with
      | some (.sh d) => .ok (.v d) ⟨e, s⟩
      | some (.ol _) => .ok (.pl i) ⟨e, s⟩
      | some (.od _ _) => .ok (.pl i) ⟨e, s⟩
      | some (.dk k) => .ok (.dk k) ⟨e, s⟩
      | _ => .bad) := h
    cases hi : e[i]? with
    | none => simp only [hi] at h; exact h.elim
    | some sl =>
      have q := G.rep.at' i sl hi
      cases sl with
      | un => simp only [hi] at h; exact h.elim
      | ex a f => simp only [hi] at h; exact h.elim
      | sh d =>
        simp only [hi] at h
        obtain ⟨v, h1, h2⟩ := q
        exact ⟨v, h1, h v H [] G.stp ⟨rfl, h2.weak fun a z => z.imp (fun z => z.elim id (fun z => nomatch z)) id⟩⟩
      | ol ds =>
        simp only [hi] at h
        obtain ⟨p, xs, h1, _⟩ := q
        exact ⟨_, h1, h _ H [] G.stp ⟨rfl, h1⟩⟩
      | od t kvs =>
        simp only [hi] at h
        obtain ⟨p, o, h1, _⟩ := q
        exact ⟨_, h1, h _ H [] G.stp ⟨rfl, h1⟩⟩
      | dk =>
        simp only [hi] at h
        exact ⟨_, q, h _ H [] G.stp ⟨rfl, rfl⟩⟩
theorem tE.const {K : PySem.W.Frag} {d : PyData} {v : V} {σ : L2.St} {H : Hp} {Q : VK} (hs : ∀ O, Sh K O H v d) (h : tE xc K W (fun m => ev cl (.c d) m) σ H Q) : Q v H := by
  obtain ⟨g, O0, e, s, G, h⟩ := h
  exact h v H [] G.stp ⟨rfl, hs _⟩
theorem de_int {i : Int} {j : Nat} : DE X xc W cl (.Constant (.int i) j pos) (.c (.int i)) := PEimp pe_int fun σ H Q h => h.const fun _ => sh_int.mpr rfl
theorem de_bl {i : Bool} {j : Nat} : DE X xc W cl (.Constant (.bool i) j pos) (.c (.bool i)) := PEimp pe_bl fun σ H Q h => h.const fun _ => sh_bool.mpr rfl
theorem de_non {j : Nat} : DE X xc W cl (.Constant .none j pos) (.c .none) := PEimp pe_non fun σ H Q h => h.const fun _ => sh_none.mpr rfl
theorem de_str {x : Str} {j : Nat} : DE X xc W cl (.Constant (.str x) j pos) (.c (.str x)) := PEimp pe_str fun σ H Q h => h.const fun _ => sh_str.mpr rfl
theorem de_cint {i : Int} {x : Str} {t : Tok} (hg : Gl X x) (hm : X.mg x = some (.int i t)) (hd : (x == ("__debug__" : Str)) = false := by decide) : DE X xc W cl (.Name x pos) (.c (.int i)) :=
  PEimp (pe_glob hg hm (v := .int i) ⟨t, rfl⟩ hd) fun σ H Q h => h.const fun _ => sh_int.mpr rfl
theorem de_bin {op : Operator} {o : Op} {r : R2} (ho : OpR X (binaryOp op) r) (hv : OpE X.K (V2 r) o) (ha : DE X xc W cl a ea) (hb : DE X xc W cl b eb) : DE X xc W cl (.BinOp a op b pos) (.op o (.cons ea (.cons eb .nil))) :=
  PEimp (pe_op ho ha hb) fun σ H Q h => (two_ok (hv.use h)).mono fun x H1 h => h.mono fun y H2 h => by
    obtain ⟨x', y', e, h⟩ := h
    cases e; exact h
theorem de_cmp {op : CmpOp} {o : Op} {r : R2} (ho : OpR X (compareOp op) r) (hv : OpE X.K (V2 r) o) (ha : DE X xc W cl a ea) (hb : DE X xc W cl b eb) (hm : behindInMarks op b = false := by first | exact nomark _ | with_unfolding_all rfl) : DE X xc W cl (.Compare a [op] [b] pos) (.op o (.cons ea (.cons eb .nil))) :=
  PEimp (pe_cmpR ho ha hb hm) fun σ H Q h => (two_ok (hv.use h)).mono fun x H1 h => h.mono fun y H2 h => by
    obtain ⟨x', y', e, h⟩ := h
    cases e; exact h
theorem de_neg (ha : DE X xc W cl a ea) : DE X xc W cl (.UnaryOp .USub a pos) (.op .neg (.cons ea .nil)) :=
  PEimp (pe_un un_neg ha) fun σ H Q h => (one_ok ((OpE.of v_neg).use h)).mono fun x H1 h => by
    obtain ⟨x', e, h⟩ := h
    cases e; exact h
end
end PV

/-! PV.8: defs where nothing is being shown (no container's repr runs): the promise, the call, the body, the law's own call -/
namespace PV
open PySem PySem.Spec PyProof.Rows L2

theorem deeper_gd {A : Around} {env : PySem.Env} (h : A.guards = some []) : (A.deeper env).guards = some [] := h

structure FnG (P : Program) (w : World) (K : PySem.W.Frag) (mg : Str → Option Value) (base : Heap) (CX : CXT) (k : Nat) (f : Addr) (fd : FuncData) (ps : List Str) (sp : Sp) : Prop where
  len : ∀ vs H Q E, sp vs H Q E → vs.length = ps.length
  run : ∀ (A : Around) (outer : List PySem.Env) (s : Shared) (H : Hp) (args : Args) (us : List Value) (vs : List V) (Q : VK) (E : XK), A.guards = some [] → Room k A → Env0 P w K mg base A outer s H → BindsTo s fd args (ps.zip us) → Vals vs us → sp vs H Q E →
    codeAny (model P w) A (.call (.ref f) args) (CR CX outer P w H s Q E) s
section
variable {P : Program} {w : World} {K : PySem.W.Frag} {mg : Str → Option Value} {base : Heap} {CX : CXT} {k : Nat} {f : Addr} {fd : FuncData} {N ps : List Str} {sp : Sp}
theorem FnG.of (F : FnOk P w K mg base CX k f fd ps sp) : FnG P w K mg base CX k f fd ps sp := ⟨F.len, fun A o s H a us vs Q E _ => F.run A o s H a us vs Q E⟩
theorem FnG.mono {j : Nat} (F : FnG P w K mg base CX j f fd ps sp) (h : j ≤ k) : FnG P w K mg base CX k f fd ps sp := ⟨F.len, fun A o s H a us vs Q E g r => F.run A o s H a us vs Q E g (r.mono h)⟩
theorem FnG.imp {sp' : Sp} (F : FnG P w K mg base CX k f fd ps sp) (h : ∀ vs H Q E, sp' vs H Q E → sp vs H Q E) : FnG P w K mg base CX k f fd ps sp' :=
  ⟨fun vs H Q E z => F.len vs H Q E (h vs H Q E z), fun A o s H a us vs Q E g r e b v z => F.run A o s H a us vs Q E g r e b v (h vs H Q E z)⟩

/-- a def by its body -/
theorem FnG.body {name qual : Str} {params : Arguments} {bd : List Stmt} {scope : Scope} {dV kV doc pm cdv ct oc : Value} {an od : Option Addr} {osl : Array (Option Value)}
    (lk : K.lookup f = some ⟨oc, od, .func (PySem.W.fnOf name qual params bd scope dV kV doc pm an cdv ct), osl⟩) (hcd : PySem.W.codeIn K cdv qual = true) (S : FnScope N ps scope) (len : ∀ vs H Q E, sp vs H Q E → vs.length = ps.length)
    (hb : ∀ (A : Around) (outer : List PySem.Env) (s : Shared) (H : Hp) (vs : List V) (Q : VK) (E : XK), A.guards = some [] → Room k (A.deeper (envOfC qual scope s.heap.objs.size f cdv)) → (∀ b ∈ frs outer, H b = none) → sp vs H Q E →
      ∃ t, PSs (cxOf CX P w K mg base N qual scope f cdv A outer s H E) bd t ∧ t { nx := fun _ H' => Q .non H', rt := Q } (start N vs) H) :
    FnG P w K mg base CX (k + 1) f (PySem.W.fnOf name qual params bd scope dV kV doc pm an cdv ct) ps sp := by
  refine ⟨len, fun A outer s H args us vs Q E hg hr e0 hbd r hsp => ?_⟩
  have inK : K.In s.heap := e0.mod.kin.keeps fun b o e => (e0.bs b o e).1
  have lim : s.heap.NoLimit := e0.mod.nolimit.keeps fun b o e => (e0.bs b o e).1
  have each : ∀ y ∈ ps.zip us, scope.names.lookup y.1 = some .local ∨ (scope.names.lookup y.1 = some .cell ∧ ((cellsFrom (s.heap.objs.size + 1) scope.names []).lookup y.1).isSome = true) := by
    rintro ⟨n, v⟩ hy
    exact (S.par n (List.of_mem_zip hy).1).imp id fun q => ⟨q, PySem.W.cellsFrom_some _ _ _ (.inl q)⟩
  refine codeAny_call_function hr.depth (inK _ _ lk) rfl S.co S.gen rfl (PySem.W.codeRec_of inK hcd) (hbd _ _ _ _ ?_)
  refine wpAny_newFunctionEnv_cells S.kind each fun env he s1 x => ?_
  cases he
  refine ⟨lim.keeps x.toInCall.keep, codeAny_func ?_⟩
  obtain ⟨t, ht, hq⟩ := hb A outer s H vs Q E hg (hr.deeper _) e0.frf hsp
  refine wpAny_mono (ht.run [] s1 (start N vs) H _ (inv_start S hr.hd e0 (len _ _ _ _ hsp) r x) hq) (fun fl s' hs => ?_) fun e s' hs => hs
  cases fl with
  | brk => obtain ⟨_, _, _, z⟩ := hs; exact z.elim
  | cont => obtain ⟨_, _, _, z⟩ := hs; exact z.elim
  | next =>
    obtain ⟨σ', H', J, q⟩ := hs
    exact ⟨V.non, H', J.os, J.bare, J.base, J.hok, rfl, q⟩
  | ret u =>
    obtain ⟨v, σ', H', J, rv, q⟩ := hs
    exact ⟨v, H', J.os, J.bare, J.base, J.hok, rv, q⟩
end

section
variable {X : Cx} {CX : CXT} {k : Nat} {f : Addr} {fd : FuncData} {ps : List Str} {sp : Sp} {E : L2.St → XK} {x : Str} {p pos : Pos} {e : Expr} {es : List Expr} {t : TA}
theorem FnG.called {pins : List (Addr × Obj)} {σ : L2.St} {H : Hp} {s : Shared} {Q : VK} {us : List Value} {vs : List V} (F : FnG X.prog X.w X.K X.mg X.base CX k f fd ps sp) (gd : X.A.guards = some []) (hr : Room k X.A) (hb : Binds X.K fd ps []) (hx : PassesAt CX X σ (E σ))
    (I : Inv X pins σ H s) (r : Vals vs us) (h : sp vs H Q (E σ)) : wpAny (model X.prog X.w) X.A (call (.ref f) us) (EP X pins σ Q) X.xe s := by
  have hl : (us ++ []).length = ps.length := by rw [List.append_nil, ← r.length]; exact F.len _ _ _ _ h
  have bt := hb s us I.kIn hl
  rw [List.append_nil] at bt
  refine wpAny_call (codeAny_mono (F.run X.A X.stack s H ⟨us, []⟩ us vs Q (E σ) gd hr I.env0 bt r h) fun z s' hq => ?_)
  rcases z with e | fl
  rotate_left
  · cases fl with
    | ret u => exact I.after hq
    | next => exact False.elim hq
    | brk => exact False.elim hq
    | cont => exact False.elim hq
  · exact hx pins H s e s' I hq
def tCallG (sp : Sp) (E : L2.St → XK) (t : TA) : TE := fun σ H Q => t σ H fun vs H1 => sp vs H1 Q (E σ)
theorem pe_callG (F : FnG X.prog X.w X.K X.mg X.base CX k f fd ps sp) (gd : X.A.guards = some []) (hr : Room k X.A) (hg : Gl X x) (hm : X.mg x = some (.ref f)) (hk : PySem.W.keepIn X.K (.ref f) = true) (hb : Binds X.K fd ps []) (hx : ∀ σ, PassesAt CX X σ (E σ))
    (ha : PA X (e :: es) t) (hdb : (x == ("__debug__" : Str)) = false := by decide) (he : starEach (e :: es) X.env = (false, eval e X.env) :: starEach es X.env := by rfl) (hpl : (backTo pos (starEach es X.env)).any (·.1) = false := by rfl) :
    PE X (.Call (.Name x p) (e :: es) [] pos) (tCallG sp E t) :=
  ⟨fun pins s σ H Q I h => wpAny_Call_Name_kw (ld_glob I hg hm (PySem.W.callWith_K (h₀ := X.base) I.ok.mod.kin hk
    (thn (ha.run pos pins s σ H _ I h) fun us s1 ⟨vs, H1, I1, r, q⟩ => ⟨I1.kIn, F.called gd hr hb (hx σ) I1 r q⟩) he hpl) hdb)⟩
end
end PV

/-! PV.8b: the law's own call -/
namespace PV
open PySem PySem.Spec PyProof.Rows L2

/-- the script alone is known, where the module has it not itself -/
def Hs (c : Bool) (a : Addr) (o : Obj) (xs : List V) : Hp := fun b => if c = true ∧ b = a then some (.frz o (.lst xs)) else none
theorem Hs_inv {c : Bool} {a b : Addr} {o : Obj} {xs : List V} {u : HO} (h : Hs c a o xs b = some u) : c = true ∧ b = a ∧ u = .frz o (.lst xs) := by
  unfold Hs at h
  split at h
  · rename_i q; exact ⟨q.1, q.2, (Option.some.inj h).symm⟩
  · cases h

theorem law_goal {P : Program} {w : World} {K : PySem.W.Frag} {mg mb : Str → Option Value} {CX : CXT} {k : Nat} {fa a : Addr} {fd : FuncData} {x : Str} {sp : Sp} {s : Shared} {vs : List Value} {ns : List Int}
    (KX : K.In s.heap) (hns : s.heap.Ns mainGlobals mg) (hb : s.heap.Ns builtinsNs mb) (hbb : ∀ x : Str, x ≠ "__name__" → mb x = bootBuiltins x) (hlim : s.heap.NoLimit) (hg : s.gens = #[])
    (ha : s.heap.get? a = some { cls := .type "list", data := .seq vs.toArray }) (hi : IntsAre vs ns) (hl : ns.length ≤ sizeLine) (hr : Room k callerA)
    (F : ∀ base : Heap, K.In base → base.Ns mainGlobals mg → FnG P w K mg base CX k fa fd [x] sp) (hbind : ∀ (s : Shared) (u : Value), BindsTo s fd ⟨[u], []⟩ [(x, u)])
    (hsp : ∀ H : Hp, Only H → SqL K H a (ns.map V.int) → sp [.ref a] H (fun v _ => v = .bl true) fun _ _ _ => False)
    (hCX : ∀ H e s', CX [] H s (fun _ _ _ => False) e s' → False) :
    codeAny (model P w) callerA (.call (.ref fa) ⟨[.ref a], []⟩) (fun r s' => r = .ok (.ret (.bool true)) ∧ OldK s.heap s'.heap ∧ s'.os = s.os ∧ AllBare s'.gens) s := by
  generalize hob : ({ cls := .type "list", data := .seq vs.toArray } : Obj) = ob at ha
  obtain ⟨c, hc⟩ : ∃ c : Bool, c = (K.lookup a).isNone := ⟨_, rfl⟩
  let H : Hp := Hs c a ob (ns.map V.int)
  have inv : ∀ {b u}, H b = some u → c = true ∧ b = a ∧ u = .frz ob (.lst (ns.map V.int)) := fun h => Hs_inv h
  have rv := vals_ints hi
  have only : Only H := fun b => by
    cases q : H b with
    | none => exact .inl rfl
    | some u => obtain ⟨_, _, rfl⟩ := inv q; exact .inr ⟨_, _, rfl⟩
  have isL : ∀ h : Heap, h.get? a = some ob → ObjOk P w H h a (.lst (ns.map V.int)) := fun h e => ⟨by rw [List.length_map]; exact hl, vs, _, rv, by rw [e, ← hob]⟩
  have ok : HOk P w H s.heap := fun b u z => by
    obtain ⟨_, rfl, rfl⟩ := inv z
    exact ⟨ha, isL _ ha⟩
  have read : SqL K H a (ns.map V.int) := by
    cases q : K.lookup a with
    | none => exact .inl (.inr ⟨ob, if_pos ⟨by rw [hc, q]; rfl, rfl⟩⟩)
    | some o =>
      have e := KX a o q
      rw [ha] at e; cases e
      exact .inr ⟨_, vs.toArray, _, q, by rw [← hob], by rw [← hob], by rw [← hob], by rw [List.size_toArray, hi.length]; exact hl, by simpa using rv⟩
  have free : ∀ {b : Addr} {o : Obj}, s.heap.get? b = some o → (b = a → c = true → False) → H b = none := fun {b o} e n => by
    cases q : H b with
    | none => rfl
    | some u => obtain ⟨h1, h2, _⟩ := inv q; exact (n h2 h1).elim
  have nsK : ∀ {b : Addr} {m : Str → Option Value}, s.heap.Ns b m → (hidT s.heap H).Ns b m := fun {b m} ⟨o, es, ep, e, d, r⟩ => ⟨o, es, ep, hidT_get e (free e fun z _ => by
    subst z
    rw [ha] at e; cases e
    rw [← hob] at d
    exact nomatch d), d, r⟩
  have hK : K.In (hidT s.heap H) := fun b o e => hidT_get (KX b o e) (free (KX b o e) fun z z2 => by
    subst z
    rw [hc, e] at z2; cases z2)
  have env0 : Env0 P w K mg (hidT s.heap H) callerA [] s H :=
    ⟨rfl, ⟨hK, nsK hns, ⟨mb, nsK hb, hbb⟩, let ⟨mc, h1, h2⟩ := hlim; ⟨mc, nsK h1, h2⟩⟩, fun b o e => of_hidT e, Nat.le_of_eq (hidT_size _ _), trivial, fun b z => (nomatch z), ok, .of_eq hg⟩
  refine codeAny_mono ((F _ hK (nsK hns)).run callerA [] s H ⟨[.ref a], []⟩ [.ref a] [.ref a] _ _ rfl hr env0 (hbind s _) (.cons rfl .nil) (hsp H only read)) fun r s' h => ?_
  rcases r with e | fl
  · exact (hCX H e s' h).elim
  · cases fl with
    | next => exact False.elim h
    | brk => exact False.elim h
    | cont => exact False.elim h
    | ret u =>
      obtain ⟨v, H', os, bare, un, ok', rel, q⟩ := h
      cases (show v = .bl true from q)
      obtain rfl : u = Value.bool true := rel
      refine ⟨rfl, OldK.of_keep fun b o e => ?_, os, bare⟩
      cases q : H b with
      | none => exact un.keep b o e q (fun z => nomatch z) (fun z => nomatch z)
      | some u =>
        obtain ⟨_, rfl, rfl⟩ := inv q
        rw [ha] at e; cases e
        exact (ok' _ _ (un.frzs _ _ _ q)).1

/-- the law's row, from the law's promise -/
theorem law_walk {l : PySem.W.OpenLaw} {n k : Nat} {q : Program} {loose : List Str} {XP : (Str → Option Value) → Heap → Prop} {YP : World → Heap → Prop} {d : DefRec} {K : Params → PySem.W.Frag} {CX : World → CXT} {sp : World → Sp} {x : Str}
    (hn : l.most = some n) (hn2 : n ≤ sizeLine) (hdf : d.params.defaults = []) (hr : Room k callerA) (hY : ∀ (w : World) (h : Heap), YP w h → (K w.params).In h)
    (F : ∀ (w : World) (mg : Str → Option Value) (fa : Addr) (h : Heap), (K w.params).In h → h.Ns mainGlobals mg → mg d.name = some (.ref fa) →
      ∃ fd : FuncData, (∀ (s : Shared) (u : Value), BindsTo s fd ⟨[u], []⟩ [(x, u)]) ∧ ∀ base : Heap, (K w.params).In base → base.Ns mainGlobals mg → FnG l.prog w (K w.params) mg base (CX w) k fa fd [x] (sp w))
    (hsp : ∀ (w : World) (H : Hp) (a : Addr) (ns : List Int), ns.length ≤ n → Only H → SqL (K w.params) H a (ns.map V.int) → sp w [.ref a] H (fun v _ => v = .bl true) fun _ _ _ => False)
    (hCX : ∀ (w : World) (H : Hp) (s : Shared) (e : Value) (s' : Shared), CX w [] H s (fun _ _ _ => False) e s' → False) :
    PySem.W.WalkO q loose XP YP l.row.toRowW d [] (fun f vs => PySem.call f vs) :=
  Att.attach_call hn hdf fun w s₀ s₁ mg mb fa o pm cd doc a vs ns G Y ho hd hcd hmg hobj hints hlen hg => by
    obtain ⟨fd, h1, h2⟩ := F w mg fa _ (hY w _ Y) G.T.g hmg
    exact law_goal (hY w _ Y) G.T.g G.T.b G.T.builtins G.T.nolimit hg hobj hints (Nat.le_trans hlen hn2) hr h2 h1 (fun H hO hS => hsp w H a ns hlen hO hS) fun H e s' => hCX w H s₁ e s'
end PV

/-! PV.9: calls of defs, displays, tests -/
namespace PV
open PySem PySem.Spec L2

inductive ArgR (K : PySem.W.Frag) (g : Gd) (O : AP) (H : Hp) : V → Arg → Prop where
  | sh {v : V} {d : PyData} (h : Sh K O H v d) : ArgR K g O H v (.sh d)
  | dk (k : Nat) : ArgR K g O H (.ref (g.ad k)) (.dk k)
  | nil (v : V) : ArgR K g O H v .nil
def PostF (xc : XC) (K : PySem.W.Frag) (g : Gd) (O : AP) (H : Hp) (Q : VK) (E : XK) : FRes → Prop
  | .ok r s' => ∀ v H' F, Keep (DkS g) H H' → (∀ p ∈ F, H p = none ∧ H' p ≠ none) → RO K (plus O F) H' v F r → DkRep g s' H' → Q v H'
  | .rz c f s' => ∀ cls dd H', Keep (DkS g) H H' → XcR xc K O H' c f cls dd → DkRep g s' H' → E cls dd H'
  | .bad => False
def spF (xc : XC) (K : PySem.W.Frag) (np : Nat) (sem : List Arg → DS → FRes) : Sp := fun vs H Q E => vs.length = np ∧ ∃ g O args s, GOb K g ∧ (∀ a, DkS g a → O a) ∧ (∀ a, O a → H a ≠ none) ∧ DkRep g s H ∧ Paired (ArgR K g O H) vs args ∧ PostF xc K g O H Q E (sem args s)

section
variable {xc : XC} {K : PySem.W.Frag} {W : WX} {cl : Nat → List Arg → DS → FRes} {g : Gd} {O O0 : AP} {e e0 : Env} {s : DS} {σ : L2.St} {H H0 H1 H' : Hp} {F : List Addr} {m m1 : M}
/-- behind a call: the deck may have been turned -/
theorem Good.called (G : Good K g O0 e s σ H) {s' : DS} (k : Keep (DkS g) H H') (hF : ∀ p ∈ F, H p = none ∧ H' p ≠ none) (dk : DkRep g s' H') : Stp K g O0 e σ H F ⟨e, s'⟩ H' := by
  refine ⟨k.mono fun _ z => .inr z, fun _ z => z, fun p hp => ?_, G.rep.go k G.dk0 fun a z => z.imp id fun z => (hF a z).1, dk⟩
  obtain ⟨h1, h2⟩ := hF p hp
  refine ⟨h1, fun z => G.oe p z h1, fun z => ?_, h2⟩
  obtain ⟨_, o, ho, _⟩ := G.rep.owned z
  rw [h1] at ho; cases ho
/-- the arguments, as the callee sees them -/
theorem arg_of {v : V} {r : R} {F1 : List Addr} {a : Arg} (G : Good K g O0 e s σ H) (hn : ∀ p ∈ F1, ¬ O0 p ∧ ¬ own e σ p) (h : RV1 K g (Ow (plus O0 F) e σ) σ H v F1 r) (hO : ∀ a, O a → Ow O0 e σ a) (hp : ∀ i, r = .pl i → ∀ a, O a → O0 a)
    (ha : toArgs e [r] = some [a]) : ArgR K g O H v a := by
  have wk : ∀ a, Ow O0 e σ a → Ow (plus O0 F) e σ a := fun a z => z.imp .inl id
  cases r with
  | v d =>
    obtain rfl : Arg.sh d = a := by simpa [toArgs, deref] using ha
    exact .sh (h.2.weak fun a z => wk a (hO a z))
  | fl ds =>
    obtain rfl : Arg.sh (.list ds) = a := by simpa [toArgs, deref] using ha
    obtain ⟨p, xs, rfl, rfl, hp, z, q⟩ := h
    obtain ⟨n1, n2⟩ := hn p (by simp)
    exact .sh (sh_list.mpr ⟨p, xs, rfl, ⟨fun z => (hO p z).elim n1 n2, hp⟩, z, q.weak fun a z => wk a (hO a z)⟩)
  | fd t kvs =>
    obtain rfl : Arg.sh (.dict kvs) = a := by simpa [toArgs, deref] using ha
    obtain ⟨p, o, rfl, rfl, hp, q⟩ := h
    obtain ⟨n1, n2⟩ := hn p (by simp)
    exact .sh (sh_dict.mpr ⟨p, o, rfl, fun z => (hO p z).elim n1 n2, hp, q.is.weak fun a z => wk a (hO a z)⟩)
  | dk =>
    obtain rfl : Arg.dk _ = a := by simpa [toArgs] using ha
    obtain ⟨_, rfl⟩ := h
    exact .dk _
  | pl i =>
    obtain ⟨_, hi⟩ := h
    have hp := hp i rfl
    cases hs : e[i]? with
    | none => simp [toArgs, deref, hs] at ha
    | some sl =>
      have q := G.rep.at' i sl hs
      cases sl with
      | un => simp [toArgs, deref, hs] at ha
      | ex a f => simp [toArgs, deref, hs] at ha
      | dk => simp [toArgs, deref, hs] at ha
      | sh d' =>
        obtain rfl : Arg.sh d' = a := by simpa [toArgs, deref, hs] using ha
        obtain ⟨v', h1, h2⟩ := q
        rw [hi] at h1; cases h1
        exact .sh (h2.weak hO)
      | ol ds =>
        obtain rfl : Arg.sh (.list ds) = a := by simpa [toArgs, deref, hs] using ha
        obtain ⟨p, xs, h1, n0, h3, h4, h5⟩ := q
        rw [hi] at h1; cases h1
        exact .sh (sh_list.mpr ⟨p, xs, rfl, ⟨fun z => n0 (hp p z), h3⟩, h4, h5.weak hO⟩)
      | od t kvs =>
        obtain rfl : Arg.sh (.dict kvs) = a := by simpa [toArgs, deref, hs] using ha
        obtain ⟨p, o, h1, n0, h3, h5⟩ := q
        rw [hi] at h1; cases h1
        exact .sh (sh_dict.mpr ⟨p, o, rfl, fun z => n0 (hp p z), h3, h5.is.weak hO⟩)
theorem toArgs_cons {r : R} {rs : List R} {as : List Arg} (h : toArgs e (r :: rs) = some as) : ∃ a as', as = a :: as' ∧ toArgs e [r] = some [a] ∧ toArgs e rs = some as' := by
  cases r <;> simp only [toArgs] at h ⊢
  case dk =>
    cases h2 : toArgs e rs with
    | none => rw [h2] at h; cases h
    | some as' => rw [h2] at h; cases h; exact ⟨_, _, rfl, rfl, rfl⟩
  all_goals
    split at h
    · rename_i d ds h1 h2
      cases h
      refine ⟨_, _, rfl, ?_, h2⟩
      simp [h1]
    · cases h
theorem args_of (G : Good K g O0 e s σ H) (hO : ∀ a, O a → Ow O0 e σ a) : ∀ {vs : List V} {F1 : List Addr} {rs : List R} {as : List Arg}, RVs K g (Ow (plus O0 F) e σ) σ H vs F1 rs → (∀ p ∈ F1, ¬ O0 p ∧ ¬ own e σ p) → (hasPl rs = true → ∀ a, O a → O0 a) → toArgs e rs = some as → Paired (ArgR K g O H) vs as
  | _, _, _, as, .nil, _, _, h => by
    obtain rfl : as = [] := by simpa [toArgs] using h.symm
    exact .nil
  | _, _, _, as, @RVs.cons _ _ _ _ _ v vs F1 F2 r rs h t _, hn, hp, ha => by
    obtain ⟨a, as', rfl, h1, h2⟩ := toArgs_cons ha
    refine .cons (arg_of G (fun p z => hn p (List.mem_append_left _ z)) h hO (fun i e => ?_) h1) (args_of G hO t (fun p z => hn p (List.mem_append_right _ z)) (fun z => ?_) h2)
    · subst e; exact hp rfl
    · refine hp ?_
      cases r <;> first | rfl | exact z
theorem RO.flat {O O' : AP} {v : V} {r : R} (f : flatR r = true) (h : RO K O H v F r) : RO K O' H v F r := by
  cases r with
  | v d => exact ⟨h.1, h.2.flat f⟩
  | fl ds =>
    obtain ⟨p, xs, h1, h2, h3, h4, h5⟩ := h
    exact ⟨p, xs, h1, h2, h3, h4, Paired.imp_mem h5 fun _ d hd q => q.flat (flatA_mem f d hd)⟩
  | fd t kvs => simp [flatR] at f
  | pl i => exact h.elim
  | dk => exact h.elim
theorem RO.weak {O O' : AP} {v : V} {r : R} (n : ∀ a, O' a → O a) (h : RO K O H v F r) : RO K O' H v F r := by
  cases r with
  | v d => exact ⟨h.1, h.2.weak n⟩
  | fl ds =>
    obtain ⟨p, xs, h1, h2, h3, h4, h5⟩ := h
    exact ⟨p, xs, h1, h2, h3, h4, h5.weak n⟩
  | fd t kvs =>
    obtain ⟨p, o, h1, h2, h3, h5⟩ := h
    exact ⟨p, o, h1, h2, h3, h5.weak n⟩
  | pl i => exact h.elim
  | dk => exact h.elim
theorem XcR.flat {O O' : AP} {c : Nat} {x : Option PyData} {cls : Value} {dd : Option Addr} (f : flatO x = true) (h : XcR xc K O H c x cls dd) : XcR xc K O' H c x cls dd := by
  obtain ⟨fn, e, h⟩ := h
  refine ⟨fn, e, ?_⟩
  cases fn with
  | none => cases x with
    | none => exact h
    | some d => exact h.elim
  | some m => cases x with
    | none => exact h.elim
    | some d => obtain ⟨a, v, h1, h2, h3⟩ := h; exact ⟨a, v, h1, h2, h3.flat f⟩

theorem call_ok {f np : Nat} {as : Es} (hnp : ∀ args s, cl f args s ≠ .bad → args.length = np) {Q : VK} (h : tE xc K W (fun m => ev cl (.call f as) m) σ H Q) :
    tEs xc K W (fun m => evs cl as m) σ H fun vs H1 => spF xc K np (cl f) vs H1 Q fun c d H => W c d σ H := by
  obtain ⟨g, O0, e, s, G, h⟩ := h
  refine ⟨g, O0, e, s, G, ?_⟩
  show PostEs xc K W g O0 e σ H _ (evs cl as ⟨e, s⟩)
  have h : PostE xc K W g O0 e σ H Q (match evs cl as ⟨e, s⟩ with
    | .ok rs m1 => match toArgs m1.e rs with
      | some as => match cl f as m1.s with
        | .ok r s => if hasPl rs = true ∧ flatR r = false then .bad else match r with
          | .pl _ => .bad
          | .dk _ => .bad
          | r => .ok r ⟨m1.e, s⟩
        | .rz c f s => if hasPl rs = true ∧ flatO f = false then .bad else .rz c f ⟨m1.e, s⟩
        | .bad => .bad
      | none => .bad
    | .rz c f m1 => .rz c f m1
    | .bad => .bad) := h
  cases hf : evs cl as ⟨e, s⟩ with
  | rz c f m1 => simp only [hf] at h; exact h
  | bad => simp only [hf] at h; exact h
  | ok rs m1 =>
    simp only [hf] at h
    intro vs H1 F1 t1 rvs
    cases ha : toArgs m1.e rs with
    | none => simp only [ha] at h; exact h.elim
    | some args =>
      simp only [ha] at h
      have G1 := G.step0 t1
      have nw : ∀ p ∈ F1, ¬ O0 p ∧ ¬ own m1.e σ p := fun p hp => ⟨(t1.new p hp).2.1, (t1.new p hp).2.2.1⟩
      have fin : ∀ (O : AP) {r : R} {s' : DS}, (∀ a, O a → Ow O0 m1.e σ a) → (∀ v H' F', RO K (plus O F') H' v F' r → RO K (plus (Ow O0 m1.e σ) F') H' v F' r) →
          (∀ v H' F, Stp K g O0 e σ H F ⟨m1.e, s'⟩ H' → RV1 K g (Ow (plus O0 F) m1.e σ) σ H' v F r → Q v H') →
          ∀ v H' F', Keep (DkS g) H1 H' → (∀ p ∈ F', H1 p = none ∧ H' p ≠ none) → RO K (plus O F') H' v F' r → DkRep g s' H' → Q v H' := fun O r s' hO hr h v H' F' k hF ro dk => by
        refine h v H' F' (t1.forget.trans0 (G1.called k hF dk)) (RO.rv (RO.weak ?_ (hr v H' F' ro)))
        intro a z
        rcases z with (z | z) | z
        · exact .inl (.inl z)
        · exact .inr z
        · exact .inl (.inr z)
      by_cases hp : hasPl rs = true
      · -- an own one is lent
        have bad : ∀ r s', cl f args m1.s = .ok r s' → flatR r = true := fun r s' hc => by
          simp only [hc] at h
          cases hfl : flatR r with
          | true => rfl
          | false => simp only [hp, hfl, and_self, if_true] at h; exact h.elim
        cases hc : cl f args m1.s with
        | bad => simp only [hc] at h; exact h.elim
        | rz c x s' =>
          simp only [hc] at h
          have hfl : flatO x = true := by
            cases hfl : flatO x with
            | true => rfl
            | false => simp only [hp, hfl, and_self, if_true] at h; exact h.elim
          rw [if_neg (by rw [hfl]; simp)] at h
          refine ⟨?_, g, O0, args, m1.s, G.ob, G.dk0, G1.oe, t1.dk, args_of G1 (fun a z => .inl z) rvs nw (fun _ _ z => z) ha, ?_⟩
          · rw [Paired.len (args_of (O := O0) G1 (fun a z => .inl z) rvs nw (fun _ _ z => z) ha)]; exact hnp args m1.s (by rw [hc]; simp)
          · rw [hc]
            intro cls dd H' k x dk
            exact h cls dd H' (t1.forget.trans0 (G1.called (F := []) k (fun _ z => nomatch z) dk)) (x.flat hfl)
        | ok r s' =>
          have hfl := bad r s' hc
          simp only [hc] at h
          rw [if_neg (by rw [hfl]; simp)] at h
          refine ⟨?_, g, O0, args, m1.s, G.ob, G.dk0, G1.oe, t1.dk, args_of G1 (fun a z => .inl z) rvs nw (fun _ _ z => z) ha, ?_⟩
          · rw [Paired.len (args_of (O := O0) G1 (fun a z => .inl z) rvs nw (fun _ _ z => z) ha)]; exact hnp args m1.s (by rw [hc]; simp)
          · rw [hc]
            cases r with
            | pl i => exact h.elim
            | dk => exact h.elim
            | v d => exact fin O0 (fun a z => .inl z) (fun v H' F' z => z.flat hfl) h
            | fl d => exact fin O0 (fun a z => .inl z) (fun v H' F' z => z.flat hfl) h
            | fd t d => exact fin O0 (fun a z => .inl z) (fun v H' F' z => z.flat hfl) h
      · have oe : ∀ a, Ow O0 m1.e σ a → H1 a ≠ none := fun a z => z.elim (G1.oe a) fun z q => by
          obtain ⟨_, o, ho, _⟩ := G1.rep.owned z
          rw [q] at ho; cases ho
        have ap := args_of (O := Ow O0 m1.e σ) G1 (fun a z => z) rvs nw (fun z => absurd z hp) ha
        cases hc : cl f args m1.s with
        | bad => simp only [hc] at h; exact h.elim
        | rz c x s' =>
          simp only [hc] at h
          rw [if_neg fun z => hp z.1] at h
          refine ⟨by rw [Paired.len ap]; exact hnp args m1.s (by rw [hc]; simp), g, Ow O0 m1.e σ, args, m1.s, G.ob, fun a z => .inl (G.dk0 a z), oe, t1.dk, ap, ?_⟩
          rw [hc]
          intro cls dd H' k x dk
          exact h cls dd H' (t1.forget.trans0 (G1.called (F := []) k (fun _ z => nomatch z) dk)) x
        | ok r s' =>
          simp only [hc] at h
          rw [if_neg fun z => hp z.1] at h
          refine ⟨by rw [Paired.len ap]; exact hnp args m1.s (by rw [hc]; simp), g, Ow O0 m1.e σ, args, m1.s, G.ob, fun a z => .inl (G.dk0 a z), oe, t1.dk, ap, ?_⟩
          rw [hc]
          cases r with
          | pl i => exact h.elim
          | dk => exact h.elim
          | v d => exact fin _ (fun a z => z) (fun v H' F' z => z) h
          | fl d => exact fin _ (fun a z => z) (fun v H' F' z => z) h
          | fd t d => exact fin _ (fun a z => z) (fun v H' F' z => z) h
end
end PV

/-! PV.10: what is handed on; displays; and, or, if; tests -/
namespace PV
open PySem PySem.Spec L2

section
variable {xc : XC} {K : PySem.W.Frag} {W : WX} {cl : Nat → List Arg → DS → FRes} {g : Gd} {O O0 : AP} {e e0 e' : Env} {s : DS} {σ : L2.St} {H H0 H1 H' : Hp} {F : List Addr} {m m1 : M}
theorem ow_of (h : ∀ a, own e' σ a → own e σ a) : ∀ a, Ow O0 e' σ a → Ow O0 e σ a := fun a z => z.imp id (h a)
theorem esc_ok {v : V} {r : R} {d : PyData} {F1 : List Addr} (rep : Rep K g O0 e σ H) (h : RV1 K g (Ow (plus O0 F) e σ) σ H v F1 r) (hn : ∀ p ∈ F1, ¬ O0 p ∧ ¬ own e σ p) (he : esc e r = some (d, e')) :
    Rep K g O0 e' σ H ∧ (∀ a, own e' σ a → own e σ a) ∧ Sh K (Ow O0 e' σ) H v d := by
  have wk : ∀ a, Ow O0 e σ a → Ow (plus O0 F) e σ a := fun a z => z.imp .inl id
  cases r with
  | v d' =>
    obtain ⟨rfl, rfl⟩ : d' = d ∧ e = e' := by simpa [esc] using he
    exact ⟨rep, fun _ z => z, h.2.weak wk⟩
  | fl ds =>
    obtain ⟨rfl, rfl⟩ : PyData.list ds = d ∧ e = e' := by simpa [esc] using he
    obtain ⟨p, xs, rfl, rfl, hp, z, q⟩ := h
    obtain ⟨n1, n2⟩ := hn p (by simp)
    exact ⟨rep, fun _ z => z, sh_list.mpr ⟨p, xs, rfl, ⟨fun z => z.elim n1 n2, hp⟩, z, q.weak wk⟩⟩
  | fd t kvs =>
    obtain ⟨rfl, rfl⟩ : PyData.dict kvs = d ∧ e = e' := by simpa [esc] using he
    obtain ⟨p, o, rfl, rfl, hp, q⟩ := h
    obtain ⟨n1, n2⟩ := hn p (by simp)
    exact ⟨rep, fun _ z => z, sh_dict.mpr ⟨p, o, rfl, fun z => z.elim n1 n2, hp, q.is.weak wk⟩⟩
  | dk => simp [esc] at he
  | pl i =>
    obtain ⟨_, hi⟩ := h
    cases hs : e[i]? with
    | none => simp [esc, hs] at he
    | some sl =>
      cases sl with
      | un => simp [esc, hs] at he
      | ex a f => simp [esc, hs] at he
      | dk => simp [esc, hs] at he
      | sh d' =>
        obtain ⟨rfl, rfl⟩ : d' = d ∧ e = e' := by simpa [esc, hs] using he
        obtain ⟨v', h1, h2⟩ := rep.at' i _ hs
        rw [hi] at h1; cases h1
        exact ⟨rep, fun _ z => z, h2⟩
      | ol ds =>
        obtain ⟨rfl, rfl⟩ : PyData.list ds = d ∧ e.set i (.sh (.list ds)) = e' := by simpa [esc, hs] using he
        obtain ⟨v', h1, h2, h3⟩ := rep.share (.inl ⟨ds, hs, rfl⟩)
        rw [hi] at h1; cases h1
        exact ⟨h3, fun a z => own_set' rfl z, h2⟩
      | od t kvs =>
        obtain ⟨rfl, rfl⟩ : PyData.dict kvs = d ∧ e.set i (.sh (.dict kvs)) = e' := by simpa [esc, hs] using he
        obtain ⟨v', h1, h2, h3⟩ := rep.share (.inr ⟨t, kvs, hs, rfl⟩)
        rw [hi] at h1; cases h1
        exact ⟨h3, fun a z => own_set' rfl z, h2⟩
theorem RV1.weak {v : V} {r : R} {O' : AP} (n : ∀ a, O' a → O a) (h : RV1 K g O σ H v F r) : RV1 K g O' σ H v F r := h.go (M := fun _ => False) Keep.refl (fun _ z => z.elim) (fun _ _ z => z) fun a z => .inl (n a z)
theorem RVs.weak {vs : List V} {rs : List R} {O' : AP} (n : ∀ a, O' a → O a) (h : RVs K g O σ H vs F rs) : RVs K g O' σ H vs F rs := h.go (M := fun _ => False) Keep.refl (fun _ z => z.elim) (fun _ _ z => z) fun a z => .inl (n a z)
theorem escs_ok : ∀ {rs : List R} {vs : List V} {ds : List PyData} {F1 : List Addr} {e : Env}, Rep K g O0 e σ H → RVs K g (Ow (plus O0 F) e σ) σ H vs F1 rs → (∀ p ∈ F1, ¬ O0 p ∧ ¬ own e σ p) → escs e rs = some (ds, e') →
    Rep K g O0 e' σ H ∧ (∀ a, own e' σ a → own e σ a) ∧ ShA K (Ow O0 e' σ) H vs ds
  | [], vs, ds, F1, e, rep, h, _, he => by
    cases h
    obtain ⟨rfl, rfl⟩ : [] = ds ∧ e = e' := by simpa [escs] using he
    exact ⟨rep, fun _ z => z, .nil⟩
  | r :: rs, vs, ds, F1, e, rep, h, hn, he => by
    cases h with
    | cons h1 h2 hd =>
      rename_i v vs F1 F2
      simp only [escs] at he
      split at he
      · rename_i d e1 he1
        split at he
        · rename_i ds' e2 he2
          cases he
          obtain ⟨r1, o1, s1⟩ := esc_ok rep h1 (fun p hp => hn p (List.mem_append_left _ hp)) he1
          obtain ⟨r2, o2, s2⟩ := escs_ok r1 (h2.weak (ow_of o1)) (fun p hp => ⟨(hn p (List.mem_append_right _ hp)).1, fun z => (hn p (List.mem_append_right _ hp)).2 (o1 p z)⟩) he2
          exact ⟨r2, fun a z => o1 a (o2 a z), .cons (s1.weak (ow_of o2)) s2⟩
        · cases he
      · cases he
theorem stp_esc (G : Good K g O0 e s σ H) (rep : Rep K g O0 e' σ H) (o : ∀ a, own e' σ a → own e σ a) : Stp K g O0 e σ H [] ⟨e', s⟩ H :=
  ⟨Keep.refl, o, (fun _ z => nomatch z), rep.weak fun a z => z.elim id (fun z => nomatch z), G.dk⟩
theorem tup_ok {as : Es} {Q : VK} (h : tE xc K W (fun m => ev cl (.tup as) m) σ H Q) : tEs xc K W (fun m => evs cl as m) σ H fun xs H1 => xs.length ≤ sizeLine ∧ ∀ p, H1 p = none → Q (.ref p) (upd H1 p (.tup xs)) := by
  obtain ⟨g, O0, e, s, G, h⟩ := h
  refine ⟨g, O0, e, s, G, ?_⟩
  show PostEs xc K W g O0 e σ H _ (evs cl as ⟨e, s⟩)
  have h : PostE xc K W g O0 e σ H Q (match evs cl as ⟨e, s⟩ with
    | .ok rs m1 => match escs m1.e rs with
      | some (ds, e) => if ds.length ≤ LIM then .ok (.v (.tuple ds)) ⟨e, m1.s⟩ else .bad
      | none => .bad
    | .rz c f m1 => .rz c f m1
    | .bad => .bad) := h
  cases hf : evs cl as ⟨e, s⟩ with
  | rz c f m1 => simp only [hf] at h; exact h
  | bad => simp only [hf] at h; exact h
  | ok rs m1 =>
    simp only [hf] at h
    intro vs H1 F1 t1 rvs
    cases he : escs m1.e rs with
    | none => simp only [he] at h; exact h.elim
    | some de =>
      obtain ⟨ds, e2⟩ := de
      simp only [he] at h
      have G1 := G.step0 t1
      obtain ⟨r2, o2, s2⟩ := escs_ok G1.rep rvs (fun p hp => ⟨(t1.new p hp).2.1, (t1.new p hp).2.2.1⟩) he
      by_cases hl : ds.length ≤ LIM
      · rw [if_pos hl] at h
        refine ⟨by rw [Paired.len s2, ← LIM_eq]; exact hl, fun p np => ?_⟩
        have t2 := t1.forget.trans0 (stp_esc G1 r2 o2)
        have ro := RO.tup (K := K) (O := Ow O0 e2 σ) np (by rw [Paired.len s2, ← LIM_eq]; exact hl) s2
        exact post_op h G t2 (F' := []) (Keep.new np) nilF ro.rv
      · rw [if_neg hl] at h; exact h.elim
theorem lst_ok {as : Es} {Q : VK} (h : tE xc K W (fun m => ev cl (.lst as) m) σ H Q) : tEs xc K W (fun m => evs cl as m) σ H fun xs H1 => xs.length ≤ sizeLine ∧ ∀ p, H1 p = none → Q (.ref p) (upd H1 p (.lst xs)) := by
  obtain ⟨g, O0, e, s, G, h⟩ := h
  refine ⟨g, O0, e, s, G, ?_⟩
  show PostEs xc K W g O0 e σ H _ (evs cl as ⟨e, s⟩)
  have h : PostE xc K W g O0 e σ H Q (match evs cl as ⟨e, s⟩ with
    | .ok rs m1 => match escs m1.e rs with
      | some (ds, e) => if ds.length ≤ LIM then .ok (.fl ds) ⟨e, m1.s⟩ else .bad
      | none => .bad
    | .rz c f m1 => .rz c f m1
    | .bad => .bad) := h
  cases hf : evs cl as ⟨e, s⟩ with
  | rz c f m1 => simp only [hf] at h; exact h
  | bad => simp only [hf] at h; exact h
  | ok rs m1 =>
    simp only [hf] at h
    intro vs H1 F1 t1 rvs
    cases he : escs m1.e rs with
    | none => simp only [he] at h; exact h.elim
    | some de =>
      obtain ⟨ds, e2⟩ := de
      simp only [he] at h
      have G1 := G.step0 t1
      obtain ⟨r2, o2, s2⟩ := escs_ok G1.rep rvs (fun p hp => ⟨(t1.new p hp).2.1, (t1.new p hp).2.2.1⟩) he
      by_cases hl : ds.length ≤ LIM
      · rw [if_pos hl] at h
        refine ⟨by rw [Paired.len s2, ← LIM_eq]; exact hl, fun p np => ?_⟩
        have t2 := t1.forget.trans0 (stp_esc G1 r2 o2)
        have ro := RO.new (K := K) (O := Ow O0 e2 σ) np (by rw [Paired.len s2, ← LIM_eq]; exact hl) s2
        exact post_op h G t2 (Keep.new np) (newF np) ro.rv
      · rw [if_neg hl] at h; exact h.elim
/-- e, a plain value; then the rest -/
theorem then_ok {f : M → Res R} {k : PyData → M → Res R} {Q : VK}
    (h : tE xc K W (fun m => match f m with
      | .ok (.v d) m1 => k d m1
      | .ok _ _ => .bad
      | .rz c f m1 => .rz c f m1
      | .bad => .bad) σ H Q) {Q' : VK} (i : ∀ g O0 e s v d H1, Good K g O0 e s σ H1 → Sh K (Ow O0 e σ) H1 v d → PostE xc K W g O0 e σ H1 Q (k d ⟨e, s⟩) → Q' v H1) : tE xc K W f σ H Q' := by
  obtain ⟨g, O0, e, s, G, h⟩ := h
  refine ⟨g, O0, e, s, G, ?_⟩
  cases hf : f ⟨e, s⟩ with
  | rz c f m1 => simp only [hf] at h; exact h
  | bad => simp only [hf] at h; exact h
  | ok r m1 =>
    simp only [hf] at h
    intro v H1 F1 t1 rv
    cases r with
    | v d =>
      obtain ⟨rfl, rv⟩ := rv
      simp only at h
      have rv' : Sh K (Ow O0 m1.e σ) H1 v d := rv.weak fun a z => z.imp .inl id
      refine i g O0 m1.e m1.s v d H1 (G.step0 t1) rv' ?_
      show PostE xc K W g O0 m1.e σ H1 Q (k d m1)
      cases hk : k d m1 with
      | bad => rw [hk] at h; exact h
      | rz c f m2 => rw [hk] at h; exact rz_of0 t1 h
      | ok r m2 => rw [hk] at h; exact fun v2 H2 F2 t2 r2 => h v2 H2 F2 (t1.trans0 t2) r2
    | fl ds => exact h.elim
    | fd t kvs => exact h.elim
    | pl i => exact h.elim
    | dk => exact h.elim
theorem and_ok {a b : E} {Q : VK} (h : tE xc K W (fun m => ev cl (.and2 a b) m) σ H Q) : tE xc K W (fun m => ev cl a m) σ H fun x H1 => ∃ c, x = .bl c ∧ if c = true then tE xc K W (fun m => ev cl b m) σ H1 Q else Q (.bl false) H1 := by
  refine then_ok (f := fun m => ev cl a m) (k := fun d m1 => match d with
    | .bool true => ev cl b m1
    | .bool false => .ok (.v (.bool false)) m1
    | _ => .bad) (Q := Q) ?_ fun g O0 e s v d H1 G hs h => ?_
  · obtain ⟨g, O0, e, s, G, h⟩ := h
    refine ⟨g, O0, e, s, G, ?_⟩
    have h : PostE xc K W g O0 e σ H Q (match ev cl a ⟨e, s⟩ with
      | .ok (.v (.bool true)) m1 => ev cl b m1
      | .ok (.v (.bool false)) m1 => .ok (.v (.bool false)) m1
      | .ok _ _ => .bad
      | .rz c f m1 => .rz c f m1
      | .bad => .bad) := h
    revert h
    show _ → PostE xc K W g O0 e σ H Q (match ev cl a ⟨e, s⟩ with
      | .ok (.v d) m1 => _
      | .ok _ _ => .bad
      | .rz c f m1 => .rz c f m1
      | .bad => .bad)
    cases ev cl a ⟨e, s⟩ with
    | bad => exact id
    | rz c f m1 => exact id
    | ok r m1 => cases r with
      | v d => cases d with
        | bool c => cases c <;> exact id
        | none => exact id
        | int i => exact id
        | str i => exact id
        | list i => exact id
        | tuple i => exact id
        | dict i => exact id
      | fl ds => exact id
      | fd t kvs => exact id
      | pl i => exact id
      | dk => exact id
  · cases d with
    | bool c => cases c with
      | true => exact ⟨true, sh_bool.mp hs, by rw [if_pos rfl]; exact ⟨g, O0, e, s, G, h⟩⟩
      | false => exact ⟨false, sh_bool.mp hs, by rw [if_neg (by simp)]; exact h (.bl false) H1 [] G.stp ⟨rfl, sh_bool.mpr rfl⟩⟩
    | none => exact h.elim
    | int i => exact h.elim
    | str i => exact h.elim
    | list i => exact h.elim
    | tuple i => exact h.elim
    | dict i => exact h.elim
/-- a test, then -/
theorem if_ok {c : T} {f k : M → Res R} {Q : VK} (h : tE xc K W (fun m => match evT cl c m with
      | .ok true m1 => f m1
      | .ok false m1 => k m1
      | .rz c f m1 => .rz c f m1
      | .bad => .bad) σ H Q) : tT xc K W (fun m => evT cl c m) σ H fun b H1 => if b = true then tE xc K W f σ H1 Q else tE xc K W k σ H1 Q := by
  obtain ⟨g, O0, e, s, G, h⟩ := h
  refine ⟨g, O0, e, s, G, ?_⟩
  show PostT xc K W g O0 e σ H _ (evT cl c ⟨e, s⟩)
  cases hf : evT cl c ⟨e, s⟩ with
  | rz c f m1 => simp only [hf] at h; exact h
  | bad => simp only [hf] at h; exact h
  | ok b m1 =>
    intro H1 t1
    have go : ∀ x : M → Res R, PostE xc K W g O0 e σ H Q (x m1) → tE xc K W x σ H1 Q := fun x h => by
      refine ⟨g, O0, m1.e, m1.s, G.step0 t1, ?_⟩
      show PostE xc K W g O0 m1.e σ H1 Q (x m1)
      cases hk : x m1 with
      | bad => rw [hk] at h; exact h
      | rz c f m2 => rw [hk] at h; exact rz_of0 t1 h
      | ok r m2 => rw [hk] at h; exact fun v2 H2 F2 t2 r2 => h v2 H2 F2 (t1.trans0 t2) r2
    cases b with
    | true => simp only [hf] at h; rw [if_pos rfl]; exact go f h
    | false => simp only [hf] at h; rw [if_neg (by simp)]; exact go k h
theorem ift_ok {c : T} {f k : M → Res Bool} {Q : Bool → Hp → Prop} (h : tT xc K W (fun m => match evT cl c m with
      | .ok true m1 => f m1
      | .ok false m1 => k m1
      | .rz c f m1 => .rz c f m1
      | .bad => .bad) σ H Q) : tT xc K W (fun m => evT cl c m) σ H fun b H1 => if b = true then tT xc K W f σ H1 Q else tT xc K W k σ H1 Q := by
  obtain ⟨g, O0, e, s, G, h⟩ := h
  refine ⟨g, O0, e, s, G, ?_⟩
  show PostT xc K W g O0 e σ H _ (evT cl c ⟨e, s⟩)
  cases hf : evT cl c ⟨e, s⟩ with
  | rz c f m1 => simp only [hf] at h; exact h
  | bad => simp only [hf] at h; exact h
  | ok b m1 =>
    intro H1 t1
    have go : ∀ x : M → Res Bool, PostT xc K W g O0 e σ H Q (x m1) → tT xc K W x σ H1 Q := fun x h => by
      refine ⟨g, O0, m1.e, m1.s, G.step0 t1, ?_⟩
      show PostT xc K W g O0 m1.e σ H1 Q (x m1)
      cases hk : x m1 with
      | bad => rw [hk] at h; exact h
      | rz c f m2 => rw [hk] at h; exact rz_of0 t1 h
      | ok r m2 => rw [hk] at h; exact fun H2 t2 => h H2 (t1.trans0 t2)
    cases b with
    | true => simp only [hf] at h; rw [if_pos rfl]; exact go f h
    | false => simp only [hf] at h; rw [if_neg (by simp)]; exact go k h
theorem tT.ret {b : Bool} {Q : Bool → Hp → Prop} (h : tT xc K W (fun m => .ok b m) σ H Q) : Q b H := by
  obtain ⟨g, O0, e, s, G, h⟩ := h
  exact h H G.stp
/-- a value as a test -/
theorem truth_ok {a : E} {Q : Bool → Hp → Prop} (h : tT xc K W (fun m => evT cl (.e a) m) σ H Q) : tE xc K W (fun m => ev cl a m) σ H fun x H1 => ∃ d, ShT K (fun _ => False) H1 x d ∧ strFits d = true ∧ Q (truth d) H1 := by
  obtain ⟨g, O0, e, s, G, h⟩ := h
  refine ⟨g, O0, e, s, G, ?_⟩
  show PostE xc K W g O0 e σ H _ (ev cl a ⟨e, s⟩)
  have h : PostT xc K W g O0 e σ H Q (match ev cl a ⟨e, s⟩ with
    | .ok r m1 => match deref m1.e r with
      | some d => if strFits d = true then .ok (truth d) m1 else .bad
      | none => .bad
    | .rz c f m1 => .rz c f m1
    | .bad => .bad) := h
  cases hf : ev cl a ⟨e, s⟩ with
  | rz c f m1 => simp only [hf] at h; exact h
  | bad => simp only [hf] at h; exact h
  | ok r m1 =>
    simp only [hf] at h
    intro v H1 F1 t1 rv
    cases hd : deref m1.e r with
    | none => simp only [hd] at h; exact h.elim
    | some d =>
      simp only [hd] at h
      by_cases hs : strFits d = true
      · rw [if_pos hs] at h
        have q := rv.val t1.rep hd
        refine ⟨d, ?_, hs, h H1 t1.forget⟩
        cases d with
        | list ds => obtain ⟨a, xs, e, z, l, q⟩ := q; exact ⟨a, xs, e, z, l, q.weak fun _ z => z.elim⟩
        | dict kvs => simp [strFits] at hs
        | none => exact q.weak fun _ z => z.elim
        | bool b => exact q.weak fun _ z => z.elim
        | int i => exact q.weak fun _ z => z.elim
        | str i => exact q.weak fun _ z => z.elim
        | tuple i => exact q.weak fun _ z => z.elim
      · rw [if_neg hs] at h; exact h.elim
theorem emp_eq {α β : Type} {F : α → β → Prop} {xs : List α} {ys : List β} (h : Paired F xs ys) : xs.isEmpty = ys.isEmpty := by cases h <;> rfl
theorem tru_of {x : V} {d : PyData} (h : ShT K O H x d) (hs : strFits d = true) : TruV K x H (truth d) := by
  cases d with
  | none => rw [t_none h]; exact rfl
  | bool b => rw [t_bool h]; exact rfl
  | int i => rw [t_int h]; exact rfl
  | str s => rw [t_str h]; exact ⟨by simpa [strFits, LIM_eq] using hs, rfl⟩
  | list ds => obtain ⟨a, xs, rfl, l, _, q⟩ := t_list h; exact .inl ⟨xs, SqL.of l, by rw [emp_eq q]; rfl⟩
  | tuple ds => obtain ⟨a, xs, rfl, l, _, q⟩ := t_tup h; exact .inr (.inl ⟨xs, l, by rw [emp_eq q]; rfl⟩)
  | dict kvs => simp [strFits] at hs
theorem or_ok {a b : E} {Q : VK} (h : tE xc K W (fun m => ev cl (.or2 a b) m) σ H Q) : tE xc K W (fun m => ev cl a m) σ H fun x H1 => ∃ k, TruV K x H1 k ∧ if k = true then Q x H1 else tE xc K W (fun m => ev cl b m) σ H1 Q := by
  refine then_ok (f := fun m => ev cl a m) (k := fun d m1 => if strFits d = true then (if truth d = true then .ok (.v d) m1 else ev cl b m1) else .bad) (Q := Q) ?_ fun g O0 e s v d H1 G hs h => ?_
  · obtain ⟨g, O0, e, s, G, h⟩ := h
    refine ⟨g, O0, e, s, G, ?_⟩
    have h : PostE xc K W g O0 e σ H Q (match ev cl a ⟨e, s⟩ with
      | .ok (.v d) m1 => if strFits d = true then (if truth d = true then .ok (.v d) m1 else ev cl b m1) else .bad
      | .ok _ _ => .bad
      | .rz c f m1 => .rz c f m1
      | .bad => .bad) := h
    exact h
  · by_cases hf : strFits d = true
    · rw [if_pos hf] at h
      refine ⟨truth d, tru_of hs.top hf, ?_⟩
      by_cases ht : truth d = true
      · rw [if_pos ht] at h
        rw [if_pos ht]
        exact h v H1 [] G.stp ⟨rfl, hs.weak fun a z => z.imp (fun q => q.elim id fun q => by cases q) id⟩
      · rw [if_neg ht] at h
        rw [if_neg ht]
        exact ⟨g, O0, e, s, G, h⟩
    · rw [if_neg hf] at h; exact h.elim
end
end PV

/-! PV.11: the rules -/
namespace PV
open PySem PySem.Spec L2

section
variable {X : Cx} {xc : XC} {W : WX} {cl : Nat → List Arg → DS → FRes} {a b c e x y : Expr} {es : List Expr} {ea eb ec el eh : E} {as : Es} {ta tb tc : T} {pos p p2 : Pos} {n : Str}
theorem da_nil : DA X xc W cl [] .nil := PAimp pa_nil fun σ H Q h => nil_ok h
theorem da_cons (ha : DE X xc W cl e ea) (hr : DA X xc W cl es as) (hs : starEach (e :: es) X.env = (false, eval e X.env) :: starEach es X.env := by rfl) : DA X xc W cl (e :: es) (.cons ea as) :=
  PAimp (pa_cons ha hr hs) fun σ H Q h => cons_ok (f := fun m => ev cl ea m) (fs := fun m => evs cl as m) h
theorem de_tup {k : Nat} (h : DA X xc W cl es as) : DE X xc W cl (.Tuple es k pos) (.tup as) := PEimp (pe_tup h) fun σ H Q h => tup_ok h
theorem de_lst (h : DA X xc W cl es as) : DE X xc W cl (.List es pos) (.lst as) := PEimp (pe_lst h) fun σ H Q h => lst_ok h
/-- calls of what is built in -/
theorem de_blt {id : String} {r : List V → Hp → VK → Prop} {o : Op} (hc : CallR X (.builtin id) r) (ho : OpE X.K r o) (hg : Gl X n) (hm : X.mg n = none) (hv : bootBuiltins n = some (.builtin id)) (ha : DA X xc W cl (e :: es) as)
    (hn : n ≠ "__name__" := by decide) (hdb : (n == ("__debug__" : Str)) = false := by decide) (he : starEach (e :: es) X.env = (false, eval e X.env) :: starEach es X.env := by rfl) (hpl : (backTo pos (starEach es X.env)).any (·.1) = false := by rfl) :
    DE X xc W cl (.Call (.Name n p) (e :: es) [] pos) (.op o as) := PEimp (pe_callB hc hg hm hv ha hn hdb he hpl) fun σ H Q h => ho.use h
theorem de_ty {id : String} {r : List V → Hp → VK → Prop} {o : Op} (hc : CallR X (.type id) r) (ho : OpE X.K r o) (hg : Gl X n) (hm : X.mg n = none) (hv : bootBuiltins n = some (.type id)) (ha : DA X xc W cl (e :: es) as)
    (hn : n ≠ "__name__" := by decide) (hdb : (n == ("__debug__" : Str)) = false := by decide) (he : starEach (e :: es) X.env = (false, eval e X.env) :: starEach es X.env := by rfl) (hpl : (backTo pos (starEach es X.env)).any (·.1) = false := by rfl) :
    DE X xc W cl (.Call (.Name n p) (e :: es) [] pos) (.op o as) := PEimp (pe_callTy hc hg hm hv ha hn hdb he hpl) fun σ H Q h => ho.use h
/-- calls of the text's own defs -/
structure FnIn (X : Cx) (xc : XC) (CX : CXT) (cl : Nat → List Arg → DS → FRes) (k : Nat) (n : Str) (f np : Nat) : Prop where
  fn : ∃ (fa : Addr) (fd : FuncData) (ps : List Str), FnG X.prog X.w X.K X.mg X.base CX k fa fd ps (spF xc X.K np (cl f)) ∧ X.mg n = some (.ref fa) ∧ PySem.W.keepIn X.K (.ref fa) = true ∧ Binds X.K fd ps []
  ln : ∀ args s, cl f args s ≠ .bad → args.length = np
theorem de_call {CX : CXT} {k f np : Nat} (o : Ok X) (hr : Room k X.A) (F : FnIn X xc CX cl k n f np) (hx : ∀ σ, PassesAt CX X σ fun c d H => W c d σ H) (hg : Gl X n) (ha : DA X xc W cl (e :: es) as)
    (hdb : (n == ("__debug__" : Str)) = false := by decide) (he : starEach (e :: es) X.env = (false, eval e X.env) :: starEach es X.env := by rfl) (hpl : (backTo pos (starEach es X.env)).any (·.1) = false := by rfl) :
    DE X xc W cl (.Call (.Name n p) (e :: es) [] pos) (.call f as) := by
  obtain ⟨fa, fd, ps, F1, hm, hk, hb⟩ := F.fn
  exact PEimp (pe_callG (E := fun σ c d H => W c d σ H) F1 o.gd hr hg hm hk hb hx ha hdb he hpl) fun σ H Q h => call_ok F.ln h
theorem de_ix (o : Ok X) (ha : DE X xc W cl a ea) (hb : DE X xc W cl b eb) (hs : PlainIx b := by intro _ _; rfl) : DE X xc W cl (.Subscript a b pos) (.op .idx (.cons ea (.cons eb .nil))) :=
  PEimp (pe_ix (ix_all o.un) ha hb hs) fun σ H Q h => (two_ok (e_idx.use h)).mono fun x H1 h => h.mono fun y H2 h => by
    obtain ⟨x', y', e, h⟩ := h
    cases e; exact h
theorem v_idi {K : PySem.W.Frag} : OpV K (V1 fun x H Q => ∃ i, x = .int i ∧ Q (.int i) H) idiD := by
  intro O H vs ds z Q hp hz hQ
  unfold idiD at hz
  split at hz
  · obtain ⟨x, rfl, h1⟩ := p1 hp
    cases hz
    exact ⟨x, rfl, _, t_int h1, fin_v hQ (sh_int.mpr rfl)⟩
  · cases hz
theorem de_sl10 (ha : DE X xc W cl a ea) (hl : DE X xc W cl b el) : DE X xc W cl (.Subscript a (.Slice (some b) none none p2) pos) (.op (.sl true false) (.cons ea (.cons el .nil))) :=
  PEimp (pe_slice sl_all ha (po_some hl) po_none) fun σ H Q h => (two_ok ((OpE.of (v_sl true false)).use h)).mono fun x H1 h => h.mono fun y H2 h => by
    obtain ⟨x', i, e, h⟩ := h
    cases e; exact ⟨i, rfl, h⟩
theorem de_sl01 (ha : DE X xc W cl a ea) (hl : DE X xc W cl b el) : DE X xc W cl (.Subscript a (.Slice none (some b) none p2) pos) (.op (.sl false true) (.cons ea (.cons el .nil))) :=
  PEimp (pe_slice sl_all ha po_none (po_some hl)) fun σ H Q h => (two_ok ((OpE.of (v_sl false true)).use h)).mono fun x H1 h => h.mono fun y H2 h => by
    obtain ⟨x', i, e, h⟩ := h
    cases e; exact ⟨i, rfl, h⟩
theorem de_sl11 (ha : DE X xc W cl a ea) (hl : DE X xc W cl b el) (hh : DE X xc W cl c eh) : DE X xc W cl (.Subscript a (.Slice (some b) (some c) none p2) pos) (.op (.sl true true) (.cons ea (.cons (.op .idi (.cons el .nil)) (.cons eh .nil)))) :=
  PEimp (pe_slice sl_all ha (po_some hl) (po_some hh)) fun σ H Q h => (three_ok ((OpE.of (v_sl true true)).use h)).mono fun x H1 h => (one_ok ((OpE.of v_idi).use h)).mono fun y H2 h => by
    obtain ⟨y', e, i, rfl, h⟩ := h
    cases e
    refine ⟨i, rfl, h.mono fun z H3 h => ?_⟩
    obtain ⟨x', i', j, e, h⟩ := h
    cases e; exact ⟨j, rfl, h⟩
/-! and, or, if -/
theorem de_one {op : BoolOp} (h : DE X xc W cl a ea) : DE X xc W cl (.BoolOp op [a] pos) ea := pe_one h
theorem de_and (ha : DE X xc W cl a ea) (hb : DE X xc W cl (.BoolOp .And (b :: es) pos) eb) : DE X xc W cl (.BoolOp .And (a :: b :: es) pos) (.and2 ea eb) := PEimp (pe_and ha hb) fun σ H Q h => and_ok h
theorem de_or (ha : DE X xc W cl a ea) (hb : DE X xc W cl (.BoolOp .Or (b :: es) pos) eb) : DE X xc W cl (.BoolOp .Or (a :: b :: es) pos) (.or2 ea eb) := PEimp (pe_orT ha hb) fun σ H Q h => or_ok h
theorem de_ite (hc : DT X xc W cl c tc) (ha : DE X xc W cl a ea) (hb : DE X xc W cl b eb) : DE X xc W cl (.IfExp c a b pos) (.ite tc ea eb) := PEimp (pe_ifExp hc ha hb) fun σ H Q h => if_ok (f := fun m => ev cl ea m) (k := fun m => ev cl eb m) h
/-! tests -/
theorem dt_tru (ha : DE X xc W cl a ea) (he : ∀ whole, isTrue a X.env whole = (do let v ← whole; standAt a.pos; holding [v] (truthy v)) := by intro _; rfl) : DT X xc W cl a (.e ea) :=
  PTimp (pt_truth ha he) fun σ H Q h => (truth_ok h).mono fun x H1 h => by
    obtain ⟨d, h1, h2, h3⟩ := h
    exact ⟨_, tru_of h1 h2, h3⟩
/-- what gives a bool -/
def BoolE (cl : Nat → List Arg → DS → FRes) (ea : E) : Prop := ∀ m r m1, ev cl ea m = .ok r m1 → ∃ b, r = .v (.bool b)
theorem bool_ok {K : PySem.W.Frag} (hb : BoolE cl ea) {σ : L2.St} {H : Hp} {Q : Bool → Hp → Prop} (h : tT xc K W (fun m => evT cl (.e ea) m) σ H Q) : tE xc K W (fun m => ev cl ea m) σ H fun x H1 => ∃ k, x = .bl k ∧ Q k H1 := by
  obtain ⟨g, O0, e, s, G, h⟩ := h
  refine ⟨g, O0, e, s, G, ?_⟩
  show PostE xc K W g O0 e σ H _ (ev cl ea ⟨e, s⟩)
  have h : PostT xc K W g O0 e σ H Q (match ev cl ea ⟨e, s⟩ with
    | .ok r m1 => match deref m1.e r with
      | some d => if strFits d = true then .ok (truth d) m1 else .bad
      | none => .bad
    | .rz c f m1 => .rz c f m1
    | .bad => .bad) := h
  cases hf : ev cl ea ⟨e, s⟩ with
  | rz c f m1 => simp only [hf] at h; exact h
  | bad => simp only [hf] at h; exact h
  | ok r m1 =>
    obtain ⟨b, rfl⟩ := hb _ _ _ hf
    simp only [hf] at h
    intro v H1 F1 t1 rv
    exact ⟨b, sh_bool.mp rv.2, h H1 t1.forget⟩
theorem op_bool {o : Op} (h : ∀ e rs r, opE e o rs = some r → ∃ b, r = .v (.bool b)) : BoolE cl (.op o as) := by
  intro m r m1 hm
  have hm : (match evs cl as m with
    | .ok rs m1 => match opE m1.e o rs with
      | some r => Res.ok r m1
      | none => .bad
    | .rz c f m1 => .rz c f m1
    | .bad => .bad) = .ok r m1 := hm
  cases hf : evs cl as m with
  | rz c f m1 => simp only [hf] at hm; cases hm
  | bad => simp only [hf] at hm; cases hm
  | ok rs m1 =>
    simp only [hf] at hm
    cases ho : opE m1.e o rs with
    | none => simp only [ho] at hm; cases hm
    | some z => simp only [ho] at hm; cases hm; exact h _ _ _ ho
theorem boolV {o : Op} (hn : ∀ e rs, dictOp e o rs = none) (h : ∀ ds r, opD o ds = some r → ∃ b, r = .v (.bool b)) : ∀ e rs r, opE e o rs = some r → ∃ b, r = .v (.bool b) := by
  intro e rs r hz
  unfold opE at hz
  rw [hn] at hz
  cases hd : derefs e rs with
  | none => rw [hd] at hz; cases hz
  | some ds => rw [hd] at hz; exact h ds r hz
theorem cmpR_b {o : Op} : ∀ ds r, cmpR o ds = some r → ∃ b, r = .v (.bool b) := by
  intro ds r h
  unfold cmpR at h
  split at h
  · rename_i x y
    cases hc : cmpD o x y with
    | none => rw [hc] at h; cases h
    | some b => rw [hc] at h; cases h; exact ⟨b, rfl⟩
  · cases h
theorem b_gt : BoolE cl (.op .gt as) := op_bool (boolV (fun _ _ => rfl) cmpR_b)
theorem b_eq : BoolE cl (.op .eq as) := op_bool (boolV (fun _ _ => rfl) fun ds r h => by
  have h : eqD ds = some r := h
  unfold eqD at h
  split at h
  · cases h; exact ⟨_, rfl⟩
  · split at h
    · cases h; exact ⟨_, rfl⟩
    · unfold nilD at h
      split at h
      · split at h
        · cases h; exact ⟨_, rfl⟩
        · cases h
      · split at h
        · cases h; exact ⟨_, rfl⟩
        · cases h
      · cases h
  · cases h)
theorem b_ne : BoolE cl (.op .ne as) := op_bool (boolV (fun _ _ => rfl) fun ds r h => by
  have h : neD ds = some r := h
  unfold neD at h
  split at h
  · cases h; exact ⟨_, rfl⟩
  · split at h
    · cases h; exact ⟨_, rfl⟩
    · unfold nilD at h
      split at h
      · split at h
        · cases h; exact ⟨_, rfl⟩
        · cases h
      · split at h
        · cases h; exact ⟨_, rfl⟩
        · cases h
      · cases h
  · cases h)
theorem b_isN : BoolE cl (.op .isN as) := op_bool (boolV (fun _ _ => rfl) fun ds r h => by
  have h : isND ds = some r := h
  unfold isND at h
  split at h
  · cases h; exact ⟨_, rfl⟩
  · cases h)
theorem inD_b : ∀ ds r, inD ds = some r → ∃ b, r = .v (.bool b) := by
  intro ds r h
  unfold inD at h
  split at h
  · rename_i x y
    cases hh : hasD x y with
    | none => rw [hh] at h; cases h
    | some b => rw [hh] at h; cases h; exact ⟨_, rfl⟩
  · cases h
theorem notinD_b : ∀ ds r, notinD ds = some r → ∃ b, r = .v (.bool b) := by
  intro ds r h
  unfold notinD at h
  split at h
  · rename_i x y
    cases hh : hasD x y with
    | none => rw [hh] at h; cases h
    | some b => rw [hh] at h; cases h; exact ⟨_, rfl⟩
  · cases h
theorem b_in : BoolE cl (.op .inn as) := op_bool fun e rs r hz => by
  unfold opE at hz
  cases hn : dictOp e .inn rs with
  | some z =>
    rw [hn] at hz; cases hz
    unfold dictOp at hn
    split at hn <;> try contradiction
    · split at hn
      · split at hn
        · cases hn; exact ⟨_, rfl⟩
        · cases hn
      · cases hn
  | none =>
    rw [hn] at hz
    cases hd : derefs e rs with
    | none => rw [hd] at hz; cases hz
    | some ds =>
      rw [hd] at hz
      exact inD_b ds r hz
theorem b_notin : BoolE cl (.op .notin as) := op_bool fun e rs r hz => by
  unfold opE at hz
  cases hn : dictOp e .notin rs with
  | some z =>
    rw [hn] at hz; cases hz
    unfold dictOp at hn
    split at hn <;> try contradiction
    · split at hn
      · split at hn
        · cases hn; exact ⟨_, rfl⟩
        · cases hn
      · cases hn
  | none =>
    rw [hn] at hz
    cases hd : derefs e rs with
    | none => rw [hd] at hz; cases hz
    | some ds =>
      rw [hd] at hz
      exact notinD_b ds r hz
/-- a op b as a test, as a value: the operation is known -/
theorem dt_cmp {op : CmpOp} {o : Op} {r : R2} (ho : OpR X (compareOp op) r) (hv : OpE X.K (V2 r) o) (hb : BoolE cl (.op o (.cons ea (.cons eb .nil)))) (ha : DE X xc W cl a ea) (hb2 : DE X xc W cl b eb)
    (hm : behindInMarks op b = false := by first | exact nomark _ | with_unfolding_all rfl) : DT X xc W cl (.Compare a [op] [b] pos) (.e (.op o (.cons ea (.cons eb .nil)))) :=
  PTimp (pt_cmpR ho ha hb2 hm) fun σ H Q h => (two_ok (hv.use (bool_ok hb h))).mono fun x H1 h => h.mono fun y H2 h => by
    obtain ⟨x', y', e, h⟩ := h
    cases e; exact h
theorem dt_pw (h : DW X xc W cl a ta) : DT X xc W cl a ta := PW.pt h
theorem dw_and1 (ha : DT X xc W cl a ta) : DW X xc W cl (.BoolOp .And [a] pos) ta := pw_and1 ha
theorem dw_or1 (ha : DT X xc W cl a ta) : DW X xc W cl (.BoolOp .Or [a] pos) ta := pw_or1 ha
theorem dw_and (ha : DT X xc W cl a ta) (hb : DW X xc W cl (.BoolOp .And (b :: es) pos) tb) : DW X xc W cl (.BoolOp .And (a :: b :: es) pos) (.and ta tb) :=
  PWimp (pw_and ha hb) fun σ H Q h => (ift_ok (f := fun m => evT cl tb m) (k := fun m => .ok false m) h).mono fun b H1 h => by
    cases b with
    | true => simpa using h
    | false => simpa using tT.ret (by simpa using h)
theorem dw_or (ha : DT X xc W cl a ta) (hb : DW X xc W cl (.BoolOp .Or (b :: es) pos) tb) : DW X xc W cl (.BoolOp .Or (a :: b :: es) pos) (.or ta tb) :=
  PWimp (pw_or ha hb) fun σ H Q h => (ift_ok (f := fun m => .ok true m) (k := fun m => evT cl tb m) h).mono fun b H1 h => by
    cases b with
    | false => simpa using h
    | true => simpa using tT.ret (by simpa using h)
theorem dt_not (ha : DT X xc W cl a ta) : DT X xc W cl (.UnaryOp .Not a pos) (.not ta) :=
  PTimp (pt_not ha) fun σ H Q h => by
    obtain ⟨g, O0, e, s, G, h⟩ := h
    refine ⟨g, O0, e, s, G, ?_⟩
    show PostT xc X.K W g O0 e σ H _ (evT cl ta ⟨e, s⟩)
    have h : PostT xc X.K W g O0 e σ H Q (match evT cl ta ⟨e, s⟩ with
      | .ok b m1 => .ok (!b) m1
      | .rz c f m1 => .rz c f m1
      | .bad => .bad) := h
    cases hf : evT cl ta ⟨e, s⟩ with
    | rz c f m1 => simp only [hf] at h; exact h
    | bad => simp only [hf] at h; exact h
    | ok b m1 => simp only [hf] at h; exact h
end
end PV

/-! PV.12: statements -/
namespace PV
open PySem PySem.Spec L2

structure StS (K : PySem.W.Frag) (g : Gd) (O0 : AP) (e : Env) (σ : L2.St) (H : Hp) (A : Nat → Bool) (m : M) (σ' : L2.St) (H' : Hp) : Prop where
  keep : Keep (Mu g e σ) H H'
  own : ∀ a, own m.e σ' a → PV.own e σ a ∨ H a = none
  rep : Rep K g O0 m.e σ' H'
  dk : DkRep g m.s H'
  fx : ∀ j, A j = false → σ'[j]? = σ[j]?
structure StR (K : PySem.W.Frag) (g : Gd) (O0 : AP) (e : Env) (σ : L2.St) (H : Hp) (m : M) (σ' : L2.St) (H' : Hp) (v : V) (F : List Addr) (r : R) : Prop where
  keep : Keep (Mu g e σ) H H'
  own : ∀ a, own m.e σ' a → PV.own e σ a ∨ H a = none
  new : ∀ p ∈ F, H p = none ∧ H' p ≠ none
  rep : Rep K g O0 m.e σ' H'
  dk : DkRep g m.s H'
  rv : RV1 K g (Ow (plus O0 F) m.e σ') σ' H' v F r
def PostS (xc : XC) (K : PySem.W.Frag) (W : WX) (g : Gd) (O0 : AP) (e : Env) (σ : L2.St) (H : Hp) (A : Nat → Bool) (D : Ends) : Res Flow → Prop
  | .ok .nx m => ∀ σ' H', StS K g O0 e σ H A m σ' H' → D.nx σ' H'
  | .ok .brk m => ∀ σ' H', StS K g O0 e σ H A m σ' H' → D.bk σ' H'
  | .ok .ct m => ∀ σ' H', StS K g O0 e σ H A m σ' H' → D.ct σ' H'
  | .ok (.rt r) m => ∀ v σ' H' F, StR K g O0 e σ H m σ' H' v F r → D.rt v H'
  | .rz c f m => ∀ cls dd σ' H', StS K g O0 e σ H A m σ' H' → XcR xc K (Ow O0 m.e σ') H' c f cls dd → W cls dd σ' H'
  | .bad => False
def tS (xc : XC) (K : PySem.W.Frag) (W : WX) (A : Nat → Bool) (f : M → Res Flow) : TS := fun D σ H => ∃ g O0 e s, Good K g O0 e s σ H ∧ PostS xc K W g O0 e σ H A D (f ⟨e, s⟩)

section
variable {xc : XC} {K : PySem.W.Frag} {W : WX} {g : Gd} {O0 : AP} {e : Env} {s : DS} {σ σ1 σ' : L2.St} {H H1 H' : Hp} {A A' : Nat → Bool} {D D' : Ends} {F : List Addr} {m m1 : M} {v : V} {r : R}
theorem Good.ss (G : Good K g O0 e s σ H) (t : StS K g O0 e σ H A m σ' H') : Good K g O0 m.e m.s σ' H' := ⟨G.dk0, fun a z q => G.oe a z (t.keep.old a q), t.rep, t.dk, G.ob⟩
theorem StS.refl (G : Good K g O0 e s σ H) : StS K g O0 e σ H A ⟨e, s⟩ σ H := ⟨Keep.refl, fun a z => .inl z, G.rep, G.dk, fun _ _ => rfl⟩
theorem StS.mono (t : StS K g O0 e σ H A m σ' H') (h : ∀ j, A' j = false → A j = false) : StS K g O0 e σ H A' m σ' H' := ⟨t.keep, t.own, t.rep, t.dk, fun j z => t.fx j (h j z)⟩
theorem mu_of (own : ∀ a, own m1.e σ1 a → PV.own e σ a ∨ H a = none) : ∀ a, Mu g m1.e σ1 a → Mu g e σ a ∨ H a = none := fun a z => z.elim (fun z => (own a z).imp .inl id) fun z => .inl (.inr z)
theorem StS.trans (a : StS K g O0 e σ H A m1 σ1 H1) (b : StS K g O0 m1.e σ1 H1 A m σ' H') : StS K g O0 e σ H A m σ' H' :=
  ⟨a.keep.trans b.keep (mu_of a.own), fun x z => (b.own x z).elim (a.own x) fun z => .inr (a.keep.old x z), b.rep, b.dk, fun j z => (b.fx j z).trans (a.fx j z)⟩
theorem StR.after (a : StS K g O0 e σ H A m1 σ1 H1) (b : StR K g O0 m1.e σ1 H1 m σ' H' v F r) : StR K g O0 e σ H m σ' H' v F r :=
  ⟨a.keep.trans b.keep (mu_of a.own), fun x z => (b.own x z).elim (a.own x) fun z => .inr (a.keep.old x z), fun p hp => ⟨a.keep.old p (b.new p hp).1, (b.new p hp).2⟩, b.rep, b.dk, b.rv⟩
theorem PostS.step {x : Res Flow} (a : StS K g O0 e σ H A m1 σ1 H1) (h : PostS xc K W g O0 e σ H A D x) : PostS xc K W g O0 m1.e σ1 H1 A D x := by
  cases x with
  | bad => exact h
  | rz c f m => exact fun cls dd σ' H' t x => h cls dd σ' H' (a.trans t) x
  | ok fl m => cases fl with
    | nx => exact fun σ' H' t => h σ' H' (a.trans t)
    | brk => exact fun σ' H' t => h σ' H' (a.trans t)
    | ct => exact fun σ' H' t => h σ' H' (a.trans t)
    | rt r => exact fun v σ' H' F t => h v σ' H' F (StR.after a t)
theorem PostS.mono {x : Res Flow} (h : PostS xc K W g O0 e σ H A D x) (i : ∀ j, A j = false → A' j = false) : PostS xc K W g O0 e σ H A' D x := by
  cases x with
  | bad => exact h
  | rz c f m => exact fun cls dd σ' H' t x => h cls dd σ' H' (t.mono i) x
  | ok fl m => cases fl with
    | nx => exact fun σ' H' t => h σ' H' (t.mono i)
    | brk => exact fun σ' H' t => h σ' H' (t.mono i)
    | ct => exact fun σ' H' t => h σ' H' (t.mono i)
    | rt r => exact h
/-- an expression's step is a statement's -/
theorem Stp.ss (G : Good K g O0 e s σ H) (t : Stp K g O0 e σ H F m H') : StS K g O0 e σ H A m σ H' := ⟨t.keep, fun a z => .inl (t.own a z), t.repO, t.dk, fun _ _ => rfl⟩

/-! targets -/
def tGs (K : PySem.W.Frag) (A : Nat → Bool) (f : Env → List PyData → Option Env) : TGs := fun vs σ H Q => ∃ g O0 e s ds e', Good K g O0 e s σ H ∧ ShA K (Ow O0 e σ) H vs ds ∧ f e ds = some e' ∧ ∀ σ', Rep K g O0 e' σ' H → (∀ a, own e' σ' a → own e σ a) → (∀ j, A j = false → σ'[j]? = σ[j]?) → Q σ' H
def tGa (K : PySem.W.Frag) (A : Nat → Bool) (f : Env → PyData → Option Env) : TG := fun v σ H Q => ∃ g O0 e s d e', Good K g O0 e s σ H ∧ Sh K (Ow O0 e σ) H v d ∧ f e d = some e' ∧ ∀ σ', Rep K g O0 e' σ' H → (∀ a, own e' σ' a → own e σ a) → (∀ j, A j = false → σ'[j]? = σ[j]?) → Q σ' H
end
section
variable (X : Cx) (xc : XC) (W : WX) (cl : Nat → List Arg → DS → FRes)
def DG (t : Expr) (a : Tg) : Prop := PG X t (tGa X.K (asgT a) fun e d => bind1 e a d)
def DGs (t : List Expr) (a : Tgs) : Prop := PGs X t (tGs X.K (asgTs a) fun e d => bindL e a d)
def DS' (st : Stmt) (a : S) : Prop := PS X st (tS xc X.K W (asgS a) fun m => ex cl a m)
def DSs (st : List Stmt) (a : Ss) : Prop := PSs X st (tS xc X.K W (asgSs a) fun m => exs cl a m)
end
section
variable {X : Cx} {xc : XC} {W : WX} {cl : Nat → List Arg → DS → FRes} {t : Expr} {ts : List Expr} {a : Tg} {as : Tgs} {pos : Pos}
theorem PGimp {e : Expr} {t t' : TG} (h : PG X e t) (i : ∀ v σ H Q, t' v σ H Q → t v σ H Q) : PG X e t' := ⟨fun pins s σ H v u Q I r z => h.run pins s σ H v u Q I r (i v σ H Q z)⟩
theorem PGsimp {e : List Expr} {t t' : TGs} (h : PGs X e t) (i : ∀ v σ H Q, t' v σ H Q → t v σ H Q) : PGs X e t' := ⟨fun pins s σ H v u Q I r z => h.run pins s σ H v u Q I r (i v σ H Q z)⟩
theorem dg_nm {i : Nat} {x : Str} (o : Ok X) (hi : X.N[i]? = some x) (hx : Loc X.env.scope x) (hf : X.fn x = true ∨ X.env.scope.names.lookup x = some .local := by first | exact .inl rfl | exact .inr rfl | assumption) : DG X (.Name x pos) (.nm i) :=
  PGimp (pg_name o.nd hi hx hf) fun v σ H Q h => by
    obtain ⟨g, O0, e, s, d, e', G, hs, he, h⟩ := h
    obtain rfl : e.set i (.sh d) = e' := by simpa [bind1] using he
    refine h _ (G.rep.setSh hs) (fun a z => own_set rfl z) fun j z => ?_
    rw [List.getElem?_set_ne]
    intro q; subst q; simp [asgT] at z
theorem dgs_nil : DGs X [] .nil := PGsimp pgs_nil fun vs σ H Q h => by
  obtain ⟨g, O0, e, s, ds, e', G, hs, he, h⟩ := h
  cases ds with
  | nil =>
    obtain rfl : e = e' := by simpa [bindL] using he
    cases hs
    exact ⟨rfl, h σ G.rep (fun _ z => z) fun _ _ => rfl⟩
  | cons d ds => simp [bindL] at he
theorem dgs_cons (h1 : DG X t a) (h2 : DGs X ts as) (hs : (assignEach (t :: ts) X.env).map (·.2) = assign t X.env :: (assignEach ts X.env).map (·.2) := by rfl) : DGs X (t :: ts) (.cons a as) :=
  PGsimp (pgs_cons h1 h2 hs) fun vs σ H Q h => by
    obtain ⟨g, O0, e, s, ds, e', G, hs, he, h⟩ := h
    cases ds with
    | nil => simp [bindL] at he
    | cons d ds =>
      cases hs with
      | cons s1 s2 =>
        rename_i v vs
        simp only [bindL] at he
        cases hb : bind1 e a d with
        | none => rw [hb] at he; cases he
        | some e1 =>
          rw [hb] at he
          refine ⟨v, vs, rfl, g, O0, e, s, d, e1, G, s1, hb, fun σ1 r1 o1 f1 => ?_⟩
          refine ⟨g, O0, e1, s, ds, e', ⟨G.dk0, G.oe, r1, G.dk, G.ob⟩, ShA.weak (fun a z => z.imp id (o1 a)) s2, he, fun σ2 r2 o2 f2 => h σ2 r2 (fun a z => o1 a (o2 a z)) fun j z => ?_⟩
          have z' : asgT a j = false ∧ asgTs as j = false := by simpa [asgTs] using z
          exact (f2 j z'.2).trans (f1 j z'.1)
/-- a, b, .. = a tuple or a list -/
def gTL (K : PySem.W.Frag) (n : Nat) (t : TGs) : TG := fun v σ H Q => gTup K n t v σ H Q ∨ gLst K n t v σ H Q
theorem pg_tl {X : Cx} {pos : Pos} {es : List Expr} {k : Nat} {t : TGs} {n : Nat} (hc : X.calm = true) (h : PGs X es t)
    (hn : (assignEach es X.env).length = n := by rfl) (hst : (assignEach es X.env).findIdx? (·.1) = none := by rfl) : PG X (.Tuple es k pos) (gTL X.K n t) := by
  refine ⟨fun pins s σ H v u Q I r hw => ?_⟩
  rcases hw with hw | hw
  · exact (pg_tup hc h hn hst).run pins s σ H v u Q I r hw
  · exact (pg_lst hc h hn hst).run pins s σ H v u Q I r hw
theorem dg_tup {k n : Nat} (o : Ok X) (h : DGs X ts as) (hn : (assignEach ts X.env).length = n := by rfl) (hl : ∀ e ds e', bindL e as ds = some e' → ds.length = n) (hst : (assignEach ts X.env).findIdx? (·.1) = none := by rfl) : DG X (.Tuple ts k pos) (.tp as) :=
  PGimp (pg_tl o.calm h hn hst) fun v σ H Q h => by
    obtain ⟨g, O0, e, s, d, e', G, hs, he, h⟩ := h
    cases d with
    | tuple ds =>
      obtain ⟨p, xs, rfl, ht, _, q⟩ := sh_tuple.mp hs
      have he : bindL e as ds = some e' := he
      exact .inl ⟨p, xs, rfl, ht.sq, by rw [Paired.len q]; exact hl _ _ _ he, g, O0, e, s, ds, e', G, q, he, h⟩
    | none => simp [bind1] at he
    | bool b => simp [bind1] at he
    | int b => simp [bind1] at he
    | str b => simp [bind1] at he
    | list ds =>
      obtain ⟨p, xs, rfl, ht, _, q⟩ := sh_list.mp hs
      have he : bindL e as ds = some e' := he
      exact .inr ⟨p, xs, rfl, ht.sq, by rw [Paired.len q]; exact hl _ _ _ he, g, O0, e, s, ds, e', G, q, he, h⟩
    | dict b => simp [bind1] at he
def lenTs : Tgs → Nat
  | .nil => 0
  | .cons _ ts => lenTs ts + 1
theorem bindL_len : ∀ (as : Tgs) (e : Env) (ds : List PyData) (e' : Env), bindL e as ds = some e' → ds.length = lenTs as
  | .nil, e, [], e', h => rfl
  | .nil, e, d :: ds, e', h => by simp [bindL] at h
  | .cons t ts, e, [], e', h => by simp [bindL] at h
  | .cons t ts, e, d :: ds, e', h => by
    simp only [bindL] at h
    cases hb : bind1 e t d with
    | none => rw [hb] at h; cases h
    | some e1 => rw [hb] at h; simp [lenTs, bindL_len ts e1 ds e' h]
theorem dg_tp {k : Nat} (o : Ok X) (h : DGs X ts as) (hn : (assignEach ts X.env).length = lenTs as := by rfl) (hst : (assignEach ts X.env).findIdx? (·.1) = none := by rfl) : DG X (.Tuple ts k pos) (.tp as) :=
  dg_tup o h hn (bindL_len as) hst
end
end PV

/-! PV.13: what is walked -/
namespace PV
open PySem PySem.Spec L2

structure ItOk (K : PySem.W.Frag) (J : L2.It) (ds : List PyData) (P : AP → Hp → Prop) : Prop where
  go : ∀ i O H, P O H → i < ds.length → J.go i H
  stop : ∀ O H, P O H → J.stop ds.length H
  yld : ∀ i O H x H', P O H → i < ds.length → J.yld i H x H' → Keep (fun _ => False) H H' ∧ ∃ d, ds[i]? = some d ∧ Sh K O H' x d
def ItR (K : PySem.W.Frag) (σ : L2.St) (O : AP) (H : Hp) (J : L2.It) (ds : List PyData) : Src → Prop
  | none => ∃ P, ItOk K J ds P ∧ P O H ∧ ∀ M O O' H H', P O H → Keep M H H' → (∀ a, M a → O a) → (∀ a, O' a → O a ∨ H a = none) → P O' H'
  | some (i, d0) => ∃ p, σ[i]? = some (some (.ref p)) ∧ ItOk K J ds fun O H => ShT K O H (.ref p) (.list d0)
def PostI (xc : XC) (K : PySem.W.Frag) (W : WX) (g : Gd) (O0 : AP) (e : Env) (σ : L2.St) (H : Hp) (R : L2.It → Hp → Prop) : Res (List PyData × Src) → Prop
  | .ok (ds, src) m => ∀ J H' F, Stp K g O0 e σ H F m H' → ItR K σ (Ow O0 m.e σ) H' J ds src → R J H'
  | .rz c f m => ∀ cls dd H', Stp K g O0 e σ H [] m H' → XcR xc K (Ow O0 m.e σ) H' c f cls dd → W cls dd σ H'
  | .bad => False
def tI (xc : XC) (K : PySem.W.Frag) (W : WX) (f : M → Res (List PyData × Src)) : TI := fun σ H R => ∃ g O0 e s, Good K g O0 e s σ H ∧ PostI xc K W g O0 e σ H R (f ⟨e, s⟩)
def DI (X : Cx) (xc : XC) (W : WX) (cl : Nat → List Arg → DS → FRes) (tg it : Expr) (a : It) : Prop := PI X tg it (tI xc X.K W fun m => evI cl a m)
theorem PIimp {X : Cx} {tg e : Expr} {t t' : TI} (h : PI X tg e t) (i : ∀ σ H R, t' σ H R → t σ H R) : PI X tg e t' := ⟨fun pins s σ H R I z => h.run pins s σ H R I (i σ H R z)⟩
theorem PIor {X : Cx} {tg e : Expr} {t t' : TI} (h : PI X tg e t) (h' : PI X tg e t') : PI X tg e (fun σ H R => t σ H R ∨ t' σ H R) := ⟨fun pins s σ H R I z => z.elim (h.run pins s σ H R I) (h'.run pins s σ H R I)⟩

section
variable {X : Cx} {xc : XC} {W : WX} {cl : Nat → List Arg → DS → FRes} {K : PySem.W.Frag} {g : Gd} {O O0 : AP} {e : Env} {s : DS} {σ : L2.St} {H H1 H' : Hp} {F : List Addr} {m : M}
theorem itl_ok {a : Addr} {ds : List PyData} {P : AP → Hp → Prop} (h : ∀ O H, P O H → ShT K O H (.ref a) (.list ds)) : ItOk K (Itl K a) ds P := by
  refine ⟨fun i O H p hi => ?_, fun O H p => ?_, fun i O H x H' p hi hy => ?_⟩
  · obtain ⟨b, xs, e, l, _, q⟩ := t_list (h O H p)
    cases e
    obtain ⟨x, hx, _⟩ := Paired.get q (List.getElem?_eq_getElem hi)
    exact ⟨xs, x, SqL.of l, hx⟩
  · obtain ⟨b, xs, e, l, _, q⟩ := t_list (h O H p)
    cases e
    exact ⟨xs, SqL.of l, Nat.le_of_eq (Paired.len q)⟩
  · obtain ⟨rfl, hy⟩ := hy
    obtain ⟨b, xs, e, l, _, q⟩ := t_list (h O H' p)
    cases e
    obtain ⟨x', hx, s⟩ := Paired.get q (List.getElem?_eq_getElem hi)
    have := hy xs (SqL.of l)
    rw [hx] at this; cases this
    exact ⟨Keep.refl, _, List.getElem?_eq_getElem hi, s⟩
theorem itt_ok {a : Addr} {ds : List PyData} {P : AP → Hp → Prop} (h : ∀ O H, P O H → ShT K O H (.ref a) (.tuple ds)) : ItOk K (Itt K a) ds P := by
  refine ⟨fun i O H p hi => ?_, fun O H p => ?_, fun i O H x H' p hi hy => ?_⟩
  · obtain ⟨b, xs, e, l, _, q⟩ := t_tup (h O H p)
    cases e
    obtain ⟨x, hx, _⟩ := Paired.get q (List.getElem?_eq_getElem hi)
    exact ⟨xs, x, l, hx⟩
  · obtain ⟨b, xs, e, l, _, q⟩ := t_tup (h O H p)
    cases e
    exact ⟨xs, l, Nat.le_of_eq (Paired.len q)⟩
  · obtain ⟨rfl, hy⟩ := hy
    obtain ⟨b, xs, e, l, _, q⟩ := t_tup (h O H' p)
    cases e
    obtain ⟨x', hx, s⟩ := Paired.get q (List.getElem?_eq_getElem hi)
    have := hy xs l
    rw [hx] at this; cases this
    exact ⟨Keep.refl, _, List.getElem?_eq_getElem hi, s⟩
theorem itr_ok {lo : Int} {n : Nat} : ItOk K (Itr lo n) ((List.range n).map fun (k : Nat) => .int (lo + (k : Int))) fun _ _ => True := by
  refine ⟨fun i O H p hi => ?_, fun O H p => ?_, fun i O H x H' p hi hy => ?_⟩
  · show i < n; simpa using hi
  · show n ≤ _; simp
  · obtain ⟨rfl, rfl⟩ := hy
    have hi' : i < n := by simpa using hi
    exact ⟨Keep.refl, _, by rw [List.getElem?_map, List.getElem?_range hi']; rfl, sh_int.mpr rfl⟩
theorem di_e {tg a : Expr} {ea : E} (ha : DE X xc W cl a ea) : DI X xc W cl tg a (.e ea) :=
  PIimp (PIor (pi_list ha) (pi_tup ha)) fun σ H R h => by
    obtain ⟨g, O0, e, s, G, h⟩ := h
    have h : PostI xc X.K W g O0 e σ H R (match ev cl ea ⟨e, s⟩ with
      | .ok r m1 => match items m1.e r with
        | some p => .ok p m1
        | none => .bad
      | .rz c f m1 => .rz c f m1
      | .bad => .bad) := h
    cases hf : ev cl ea ⟨e, s⟩ with
    | bad => simp only [hf] at h; exact h.elim
    | rz c f m1 => exact .inl ⟨g, O0, e, s, G, by show PostE xc X.K W g O0 e σ H _ (ev cl ea ⟨e, s⟩); rw [hf]; simp only [hf] at h; exact h⟩
    | ok r m1 =>
      simp only [hf] at h
      have list : ∀ ds, (∀ v H1 F, Stp X.K g O0 e σ H F m1 H1 → RV1 X.K g (Ow (plus O0 F) m1.e σ) σ H1 v F r → Sh X.K (Ow O0 m1.e σ) H1 v (.list ds)) → items m1.e r = some (ds, none) → ∃ g O0 e s, Good X.K g O0 e s σ H ∧ PostE xc X.K W g O0 e σ H (fun x H1 => ∃ a, x = .ref a ∧ (∃ xs, SqL X.K H1 a xs) ∧ R (Itl X.K a) H1) (ev cl ea ⟨e, s⟩) := fun ds hv hi => by
        simp only [hi] at h
        refine ⟨g, O0, e, s, G, ?_⟩
        rw [hf]
        intro v H1 F t1 rv
        have hs := hv v H1 F t1 rv
        obtain ⟨a, xs, rfl, l, _, q⟩ := sh_list.mp hs
        exact ⟨a, rfl, ⟨xs, l.sq⟩, h _ H1 F t1 ⟨fun O H => Sh X.K O H (.ref a) (.list ds), itl_ok fun O H z => z.top, hs, fun M O O' H H' p k m n => p.go k m n⟩⟩
      cases r with
      | dk => simp only [items] at h; exact h.elim
      | fd t kvs => simp only [items] at h; exact h.elim
      | fl ds =>
        refine .inl (list ds (fun v H1 F t1 rv => ?_) rfl)
        obtain ⟨p, xs, rfl, rfl, hp, z, q⟩ := rv
        obtain ⟨_, n1, n2, _⟩ := t1.new p (by simp)
        exact sh_list.mpr ⟨p, xs, rfl, ⟨fun z => z.elim n1 n2, hp⟩, z, q.weak fun a z => z.imp .inl id⟩
      | v d =>
        cases d with
        | list ds => exact .inl (list ds (fun v H1 F t1 rv => rv.2.weak fun a z => z.imp .inl id) rfl)
        | tuple ds =>
          simp only [items] at h
          refine .inr ⟨g, O0, e, s, G, ?_⟩
          show PostE xc X.K W g O0 e σ H _ (ev cl ea ⟨e, s⟩)
          rw [hf]
          intro v H1 F t1 rv
          have hs : Sh X.K (Ow O0 m1.e σ) H1 v (.tuple ds) := rv.2.weak fun a z => z.imp .inl id
          obtain ⟨a, xs, rfl, l, _, q⟩ := sh_tuple.mp hs
          exact ⟨a, rfl, ⟨xs, l.sq⟩, h _ H1 F t1 ⟨fun O H => Sh X.K O H (.ref a) (.tuple ds), itt_ok fun O H z => z.top, hs, fun M O O' H H' p k m n => p.go k m n⟩⟩
        | none => simp only [items] at h; exact h.elim
        | bool b => simp only [items] at h; exact h.elim
        | int b => simp only [items] at h; exact h.elim
        | str b => simp only [items] at h; exact h.elim
        | dict b => simp only [items] at h; exact h.elim
      | pl i =>
        cases hs : m1.e[i]? with
        | none => simp only [items, hs] at h; exact h.elim
        | some sl =>
          cases sl with
          | un => simp only [items, hs] at h; exact h.elim
          | ex a f => simp only [items, hs] at h; exact h.elim
          | dk => simp only [items, hs] at h; exact h.elim
          | od t kvs => simp only [items, hs] at h; exact h.elim
          | sh d =>
            cases d with
            | list ds =>
              refine .inl (list ds (fun v H1 F t1 rv => ?_) (by simp only [items, hs]))
              obtain ⟨v', h1, h2⟩ := t1.repO.at' i _ hs
              rw [rv.2] at h1; cases h1
              exact h2
            | tuple ds => simp only [items, hs] at h; exact h.elim
            | none => simp only [items, hs] at h; exact h.elim
            | bool b => simp only [items, hs] at h; exact h.elim
            | int b => simp only [items, hs] at h; exact h.elim
            | str b => simp only [items, hs] at h; exact h.elim
            | dict b => simp only [items, hs] at h; exact h.elim
          | ol ds =>
            simp only [items, hs] at h
            refine .inl ⟨g, O0, e, s, G, ?_⟩
            show PostE xc X.K W g O0 e σ H _ (ev cl ea ⟨e, s⟩)
            rw [hf]
            intro v H1 F t1 rv
            obtain ⟨p, xs, h1, _, h3, h4, h5⟩ := t1.repO.at' i _ hs
            have hi := rv.2
            rw [hi] at h1; cases h1
            exact ⟨p, rfl, ⟨xs, SqL.of h3⟩, h _ H1 F t1 ⟨p, hi, itl_ok fun O H z => z⟩⟩
theorem rvs1 {O : AP} {vs : List V} {a : R} (h : RVs K g O σ H vs F [a]) : ∃ x, vs = [x] ∧ RV1 K g O σ H x F a := by
  generalize hr : [a] = rs at h
  cases h with
  | nil => cases hr
  | cons r t _ =>
    cases hr
    cases t
    exact ⟨_, rfl, by rw [List.append_nil]; exact r⟩
def lenEs : Es → Nat
  | .nil => 0
  | .cons _ es => lenEs es + 1
theorem evs_len : ∀ (es : Es) (m : M) (rs : List R) (m1 : M), evs cl es m = .ok rs m1 → rs.length = lenEs es
  | .nil, m, rs, m1, h => by cases h; rfl
  | .cons a es, m, rs, m1, h => by
    have h : (match ev cl a m with
      | .ok r m1 => match evs cl es m1 with
        | .ok rs m2 => Res.ok (r :: rs) m2
        | .rz c f m2 => .rz c f m2
        | .bad => .bad
      | .rz c f m1 => .rz c f m1
      | .bad => .bad) = .ok rs m1 := h
    split at h
    · rename_i r m2 h1
      split at h
      · rename_i rs' m3 h2
        cases h
        rw [List.length_cons, evs_len es _ _ _ h2]; rfl
      · cases h
      · cases h
    · cases h
    · cases h
theorem rng_ok {es : Es} (R : L2.It → Hp → Prop) (h : tI xc K W (fun m => evI cl (.rng es) m) σ H R) (Q : List V → Hp → Prop)
    (hq : ∀ rs ds vs g O H1 F, rs.length = lenEs es → rngD rs = some ds → RVs K g O σ H1 vs F rs → (∀ J, (∃ P, ItOk K J ds P ∧ P (fun _ => True) H1 ∧ ∀ O H O' H', P O H → P O' H') → R J H1) → Q vs H1) : tEs xc K W (fun m => evs cl es m) σ H Q := by
  obtain ⟨g, O0, e, s, G, h⟩ := h
  refine ⟨g, O0, e, s, G, ?_⟩
  show PostEs xc K W g O0 e σ H _ (evs cl es ⟨e, s⟩)
  have h : PostI xc K W g O0 e σ H R (match evs cl es ⟨e, s⟩ with
    | .ok rs m1 => match rngD rs with
      | some ds => .ok (ds, none) m1
      | none => .bad
    | .rz c f m1 => .rz c f m1
    | .bad => .bad) := h
  cases hf : evs cl es ⟨e, s⟩ with
  | bad => simp only [hf] at h; exact h.elim
  | rz c f m1 => simp only [hf] at h; exact h
  | ok rs m1 =>
    simp only [hf] at h
    intro vs H1 F t1 rvs
    cases hd : rngD rs with
    | none => simp only [hd] at h; exact h.elim
    | some ds =>
      simp only [hd] at h
      refine hq rs ds vs g _ H1 F (evs_len _ _ _ _ hf) hd rvs fun J ⟨P, h1, h2, h3⟩ => h J H1 F t1 ⟨P, h1, h3 _ _ _ _ h2, fun M O O' H H' p _ _ _ => h3 _ _ _ _ p⟩
theorem di_rng1 {tg a : Expr} {ea : E} {p pos : Pos} (hg : Gl X "range") (hm : X.mg "range" = none) (ha : DE X xc W cl a ea) (hs : starEach [a] X.env = [(false, eval a X.env)] := by rfl) : DI X xc W cl tg (.Call (.Name "range" p) [a] [] pos) (.rng (.cons ea .nil)) :=
  PIimp (pi_range1 hg hm (da_cons ha da_nil hs) hs) fun σ H R h => rng_ok R h _ fun rs ds vs g O H1 F hl hd rvs hR => by
    unfold rngD at hd
    split at hd
    · split at hd
      · rename_i j hj
        cases hd
        obtain ⟨x, rfl, r⟩ := rvs1 rvs
        obtain rfl := sh_int.mp r.2
        exact ⟨j, rfl, hj.1, hj.2, hR _ ⟨fun _ _ => True, itr_ok, trivial, fun _ _ _ _ _ => trivial⟩⟩
      · cases hd
    · exact absurd hl (by simp [lenEs])
    · cases hd
end
end PV

/-! PV.14: the rules for statements; loops -/
namespace PV
open PySem PySem.Spec L2

section
variable {X : Cx} {xc : XC} {W : WX} {cl : Nat → List Arg → DS → FRes} {K : PySem.W.Frag} {g : Gd} {O O0 : AP} {e : Env} {s : DS} {σ : L2.St} {H H1 H' : Hp} {F : List Addr} {m m1 : M} {D : Ends} {A : Nat → Bool}
/-- behind an expression, a statement's end -/
theorem PostS.stp {x : Res Flow} (G : Good K g O0 e s σ H) (t : Stp K g O0 e σ H F m1 H1) (h : PostS xc K W g O0 e σ H A D x) : PostS xc K W g O0 m1.e σ H1 A D x := PostS.step (t.ss G) h
theorem nx_of (G : Good K g O0 e s σ H) (h : PostS xc K W g O0 e σ H A D (.ok .nx ⟨e, s⟩)) : D.nx σ H := h σ H (StS.refl G)
theorem tS.intro {f : M → Res Flow} (G : Good K g O0 e s σ H) (h : PostS xc K W g O0 e σ H A D (f ⟨e, s⟩)) : tS xc K W A f D σ H := ⟨g, O0, e, s, G, h⟩
/-- a test, then one of two -/
theorem ifs_ok {c : T} {f k : M → Res Flow} (h : tS xc K W A (fun m => match evT cl c m with
      | .ok true m1 => f m1
      | .ok false m1 => k m1
      | .rz c f m1 => .rz c f m1
      | .bad => .bad) D σ H) : tT xc K W (fun m => evT cl c m) σ H fun b H1 => if b = true then tS xc K W A f D σ H1 else tS xc K W A k D σ H1 := by
  obtain ⟨g, O0, e, s, G, h⟩ := h
  refine ⟨g, O0, e, s, G, ?_⟩
  show PostT xc K W g O0 e σ H _ (evT cl c ⟨e, s⟩)
  cases hf : evT cl c ⟨e, s⟩ with
  | rz c f m1 => simp only [hf] at h; exact fun cls dd H' t x => h cls dd σ H' (t.ss G) x
  | bad => simp only [hf] at h; exact h
  | ok b m1 =>
    intro H1 t1
    cases b with
    | true => simp only [hf] at h; rw [if_pos rfl]; exact tS.intro (G.step0 t1) (PostS.stp G t1 h)
    | false => simp only [hf] at h; rw [if_neg (by simp)]; exact tS.intro (G.step0 t1) (PostS.stp G t1 h)
theorem tS.mono {f : M → Res Flow} {A' : Nat → Bool} (h : tS xc K W A f D σ H) (i : ∀ j, A j = false → A' j = false) : tS xc K W A' f D σ H := by
  obtain ⟨g, O0, e, s, G, h⟩ := h
  exact ⟨g, O0, e, s, G, h.mono i⟩
theorem PostS.ends {x : Res Flow} {D' : Ends} (h : PostS xc K W g O0 e σ H A D x) (n : ∀ σ H, D.nx σ H → D'.nx σ H) (b : ∀ σ H, D.bk σ H → D'.bk σ H) (c : ∀ σ H, D.ct σ H → D'.ct σ H) (r : ∀ v H, D.rt v H → D'.rt v H) : PostS xc K W g O0 e σ H A D' x := by
  cases x with
  | bad => exact h
  | rz c f m => exact h
  | ok fl m => cases fl with
    | nx => exact fun σ' H' t => n _ _ (h σ' H' t)
    | brk => exact fun σ' H' t => b _ _ (h σ' H' t)
    | ct => exact fun σ' H' t => c _ _ (h σ' H' t)
    | rt z => exact fun v σ' H' F t => r _ _ (h v σ' H' F t)
theorem seq_ok {f k : M → Res Flow} (h : tS xc K W A (fun m => match f m with
      | .ok .nx m1 => k m1
      | r => r) D σ H) : tS xc K W A f { D with nx := tS xc K W A k D } σ H := by
  obtain ⟨g, O0, e, s, G, h⟩ := h
  refine ⟨g, O0, e, s, G, ?_⟩
  cases hf : f ⟨e, s⟩ with
  | rz c f m1 => simp only [hf] at h; exact h
  | bad => simp only [hf] at h; exact h
  | ok fl m1 =>
    cases fl with
    | nx => simp only [hf] at h; exact fun σ' H' t => tS.intro (G.ss t) (PostS.step t h)
    | brk => simp only [hf] at h; exact h
    | ct => simp only [hf] at h; exact h
    | rt r => simp only [hf] at h; exact h
end

section
variable {X : Cx} {xc : XC} {W : WX} {cl : Nat → List Arg → DS → FRes} {st : Stmt} {rest sa sb : List Stmt} {a b c e : Expr} {ia : S} {ib ic : Ss} {ea : E} {tc : T} {tg : Tg} {it : It} {pos : Pos}
theorem ds_nil : DSs X xc W cl [] .nil := PSsimp pss_nil fun D σ H h => by
  obtain ⟨g, O0, e, s, G, h⟩ := h
  exact nx_of G h
theorem ds_cons (h1 : DS' X xc W cl st ia) (h2 : DSs X xc W cl rest ib) : DSs X xc W cl (st :: rest) (.cons ia ib) := PSsimp (pss_cons h1 h2) fun D σ H h => by
  have h : tS xc X.K W (asgSs (.cons ia ib)) (fun m => match (fun m => ex cl ia m) m with
      | .ok .nx m1 => (fun m => exs cl ib m) m1
      | r => r) D σ H := h
  have s1 : ∀ j, asgSs (.cons ia ib) j = false → asgS ia j = false ∧ asgSs ib j = false := fun j z => by simpa [asgSs] using z
  obtain ⟨g, O0, e, s, G, h⟩ := (seq_ok h).mono fun j z => (s1 j z).1
  exact ⟨g, O0, e, s, G, h.ends (fun σ H z => z.mono fun j z => (s1 j z).2) (fun _ _ z => z) (fun _ _ z => z) fun _ _ z => z⟩
theorem ds_if (hc : DT X xc W cl c tc) (ha : DSs X xc W cl sa ib) (hb : DSs X xc W cl sb ic) : DS' X xc W cl (.If c sa sb pos) (.ite tc ib ic) := PSimp (ps_if hc ha hb) fun D σ H h => by
  have s1 : ∀ j, asgS (.ite tc ib ic) j = false → asgSs ib j = false ∧ asgSs ic j = false := fun j z => by simpa [asgS] using z
  refine (ifs_ok (f := fun m => exs cl ib m) (k := fun m => exs cl ic m) h).mono fun b H1 h => ?_
  cases b with
  | true => exact (show tS xc X.K W _ _ D σ H1 from by simpa using h).mono fun j z => (s1 j z).1
  | false => exact (show tS xc X.K W _ _ D σ H1 from by simpa using h).mono fun j z => (s1 j z).2
theorem ds_ret (ha : DE X xc W cl a ea) : DS' X xc W cl (.Return (some a) pos) (.ret ea) := PSimp (ps_ret ha) fun D σ H h => by
  obtain ⟨g, O0, e, s, G, h⟩ := h
  refine ⟨g, O0, e, s, G, ?_⟩
  show PostE xc X.K W g O0 e σ H _ (ev cl ea ⟨e, s⟩)
  have h : PostS xc X.K W g O0 e σ H (asgS (.ret ea)) D (match ev cl ea ⟨e, s⟩ with
    | .ok r m1 => .ok (.rt r) m1
    | .rz c f m1 => .rz c f m1
    | .bad => .bad) := h
  cases hf : ev cl ea ⟨e, s⟩ with
  | rz c f m1 => simp only [hf] at h; exact fun cls dd H' t x => h cls dd σ H' (t.ss G) x
  | bad => simp only [hf] at h; exact h
  | ok r m1 =>
    simp only [hf] at h
    exact fun v H' F t rv => h v σ H' F ⟨t.keep, fun a z => .inl (t.own a z), fun p hp => ⟨(t.new p hp).1, (t.new p hp).2.2.2⟩, t.repO, t.dk, rv⟩
theorem ds_ex (ha : DE X xc W cl a ea) (hs : swapsWith a none pos.line X.env = pure false := by rfl) : DS' X xc W cl (.Expr a pos) (.ex ea) := PSimp (ps_expr ha hs) fun D σ H h => by
  obtain ⟨g, O0, e, s, G, h⟩ := h
  refine ⟨g, O0, e, s, G, ?_⟩
  show PostE xc X.K W g O0 e σ H _ (ev cl ea ⟨e, s⟩)
  have h : PostS xc X.K W g O0 e σ H (asgS (.ex ea)) D (match ev cl ea ⟨e, s⟩ with
    | .ok _ m1 => .ok .nx m1
    | .rz c f m1 => .rz c f m1
    | .bad => .bad) := h
  cases hf : ev cl ea ⟨e, s⟩ with
  | rz c f m1 => simp only [hf] at h; exact fun cls dd H' t x => h cls dd σ H' (t.ss G) x
  | bad => simp only [hf] at h; exact h
  | ok r m1 =>
    simp only [hf] at h
    exact fun v H' F t rv => h σ H' (t.ss G)
/-- slot i takes it -/
theorem setR_ok {K : PySem.W.Frag} {g : Gd} {O0 : AP} {e e' : Env} {s : DS} {σ : L2.St} {H H1 : Hp} {F : List Addr} {m1 : M} {v : V} {r : R} {i : Nat} {A : Nat → Bool} (G : Good K g O0 e s σ H) (t : Stp K g O0 e σ H F m1 H1) (rv : RV1 K g (Ow (plus O0 F) m1.e σ) σ H1 v F r) (hr : setR i r m1.e = some e') (hA : A i = true) :
    StS K g O0 e σ H A ⟨e', m1.s⟩ (σ.set i (some v)) H1 := by
  have fx : ∀ j, A j = false → (σ.set i (some v))[j]? = σ[j]? := fun j z => List.getElem?_set_ne fun q => by subst q; rw [hA] at z; cases z
  have hn : ∀ p ∈ F, ¬ O0 p ∧ ¬ own m1.e σ p := fun p hp => ⟨(t.new p hp).2.1, (t.new p hp).2.2.1⟩
  -- what escapes
  have shared : ∀ {d e1}, esc m1.e r = some (d, e1) → StS K g O0 e σ H A ⟨e1.set i (.sh d), m1.s⟩ (σ.set i (some v)) H1 := fun {d e1} he => by
    obtain ⟨r2, o2, s2⟩ := esc_ok t.repO rv hn he
    exact ⟨t.keep, fun a z => .inl (t.own a (o2 a (own_set rfl z))), r2.setSh s2, t.dk, fx⟩
  have mine : ∀ {p : Addr} {sl : Slot}, isOwn (some sl) = true → F = [p] → v = .ref p → (i < m1.e.length → SlotR K g O0 (Ow (plus O0 [p]) m1.e σ) (σ.set i (some (.ref p))) H1 i sl) → StS K g O0 e σ H A ⟨m1.e.set i sl, m1.s⟩ (σ.set i (some v)) H1 := fun {p sl} ow hF hv hs => by
    subst hF
    subst hv
    obtain ⟨n1, n2, n3, n4⟩ := t.new p (by simp)
    refine ⟨t.keep, fun a z => ?_, t.rep.setOwn n2 n3 hs, t.dk, fx⟩
    obtain ⟨j, h1, h2⟩ := z
    rcases isOwn_set h1 with ⟨z, y⟩ | ⟨z, y⟩
    · rcases get_set h2 with ⟨_, q, _⟩ | ⟨q, _⟩
      · cases q; exact .inr n1
      · exact absurd z q
    · rcases get_set h2 with ⟨q, _, _⟩ | ⟨_, q⟩
      · exact absurd q z
      · exact .inl (t.own a ⟨j, y, q⟩)
  cases r with
  | fl ds =>
    obtain rfl : m1.e.set i (.ol ds) = e' := by simpa [setR] using hr
    obtain ⟨p, xs, h1, h2, h3, h4, h5⟩ := rv
    exact mine rfl h1 h2 fun l => ⟨p, xs, by rw [List.getElem?_set_self (by rw [← t.rep.len]; exact l)], (t.new p (by rw [h1]; simp)).2.1, h3, h4, by subst h1; exact h5⟩
  | fd tt kvs =>
    obtain rfl : m1.e.set i (.od tt kvs) = e' := by simpa [setR] using hr
    obtain ⟨p, o, h1, h2, h3, h5⟩ := rv
    exact mine rfl h1 h2 fun l => ⟨p, o, by rw [List.getElem?_set_self (by rw [← t.rep.len]; exact l)], (t.new p (by rw [h1]; simp)).2.1, h3, by subst h1; exact h5⟩
  | dk =>
    obtain rfl : m1.e.set i (.dk _) = e' := by simpa [setR] using hr
    obtain ⟨_, rfl⟩ := rv
    exact ⟨t.keep, fun a z => .inl (t.own a (own_set rfl z)), t.repO.setDk, t.dk, fx⟩
  | v d =>
    simp only [setR] at hr
    cases he : esc m1.e (.v d) with
    | none => rw [he] at hr; cases hr
    | some q => rw [he] at hr; cases hr; exact shared he
  | pl j =>
    simp only [setR] at hr
    cases he : esc m1.e (.pl j) with
    | none => rw [he] at hr; cases hr
    | some q => rw [he] at hr; cases hr; exact shared he
theorem ds_set {i : Nat} {x : Str} {p : Pos} (nd : X.N.Nodup) (hi : X.N[i]? = some x) (hx : Loc X.env.scope x) (ha : DE X xc W cl a ea) (hs : swapsWith a (some (.Name x p)) pos.line X.env = pure false := by rfl) (hf : X.fn x = true ∨ X.env.scope.names.lookup x = some .local := by first | exact .inl rfl | exact .inr rfl | assumption) :
    DS' X xc W cl (.Assign [.Name x p] a pos) (.set (.nm i) ea) := PSimp (ps_set nd hi hx ha hs hf) fun D σ H h => by
  obtain ⟨g, O0, e, s, G, h⟩ := h
  refine ⟨g, O0, e, s, G, ?_⟩
  show PostE xc X.K W g O0 e σ H _ (ev cl ea ⟨e, s⟩)
  have h : PostS xc X.K W g O0 e σ H (asgS (.set (.nm i) ea)) D (match ev cl ea ⟨e, s⟩ with
    | .ok r m1 => match setR i r m1.e with
      | some e => .ok .nx ⟨e, m1.s⟩
      | none => .bad
    | .rz c f m1 => .rz c f m1
    | .bad => .bad) := h
  cases hf : ev cl ea ⟨e, s⟩ with
  | rz c f m1 => simp only [hf] at h; exact fun cls dd H' t x => h cls dd σ H' (t.ss G) x
  | bad => simp only [hf] at h; exact h
  | ok r m1 =>
    simp only [hf] at h
    intro v H1 F t rv
    cases hr : setR i r m1.e with
    | none => simp only [hr] at h; exact h.elim
    | some e' =>
      simp only [hr] at h
      exact h _ H1 (setR_ok G t rv hr (by simp [asgS, asgT]))
end
end PV

/-! PV.15: several at once; loops -/
namespace PV
open PySem PySem.Spec L2

structure StX (K : PySem.W.Frag) (g : Gd) (O0 : AP) (e : Env) (σ : L2.St) (H : Hp) (A : Nat → Bool) (F : List Addr) (m : M) (σ' : L2.St) (H' : Hp) : Prop where
  keep : Keep (Mu g e σ) H H'
  own : ∀ a, own m.e σ' a → PV.own e σ a ∨ H a = none
  new : ∀ p ∈ F, H p = none ∧ ¬ O0 p ∧ ¬ PV.own m.e σ' p ∧ H' p ≠ none
  rep : Rep K g (plus O0 F) m.e σ' H'
  dk : DkRep g m.s H'
  fx : ∀ j, A j = false → σ'[j]? = σ[j]?
section
variable {xc : XC} {K : PySem.W.Frag} {g : Gd} {O0 : AP} {e e' : Env} {s : DS} {σ σ' : L2.St} {H H' : Hp} {A : Nat → Bool} {F F1 F2 : List Addr} {m : M} {v : V} {r : R} {vs : List V} {rs : List R}
theorem StX.ss (t : StX K g O0 e σ H A [] m σ' H') : StS K g O0 e σ H A m σ' H' := ⟨t.keep, t.own, t.rep.weak fun _ z => .inl z, t.dk, t.fx⟩
theorem Stp.sx (t : Stp K g O0 e σ H F m H') : StX K g O0 e σ H A F m σ H' := ⟨t.keep, fun a z => .inl (t.own a z), t.new, t.rep, t.dk, fun _ _ => rfl⟩
def plR : R → Bool
  | .pl _ => true
  | _ => false
theorem RVs.one {O : AP} {a : R} (h : RVs K g O σ H vs F [a]) : ∃ x, vs = [x] ∧ RV1 K g O σ H x F a := rvs1 h
theorem RVs.uncons {O : AP} {a : R} (h : RVs K g O σ H vs F (a :: rs)) : ∃ x vs' F1 F2, vs = x :: vs' ∧ F = F1 ++ F2 ∧ RV1 K g O σ H x F1 a ∧ RVs K g O σ H vs' F2 rs ∧ ∀ p ∈ F1, p ∉ F2 := by
  generalize hr : a :: rs = rs' at h
  cases h with
  | nil => cases hr
  | cons r t d => cases hr; exact ⟨_, _, _, _, rfl, rfl, r, t, d⟩
/-- the slot's own entry does not count where nothing is read there -/
theorem RV1.slot {O : AP} {i : Nat} {x : Option V} (np : plR r = false) (h : RV1 K g O σ H v F r) : RV1 K g O (σ.set i x) H v F r := by
  cases r with
  | pl j => cases np
  | v d => exact h
  | fl d => exact h
  | fd t d => exact h
  | dk => exact h
theorem RVs.slot {O : AP} {i : Nat} {x : Option V} (np : noPl rs = true) (h : RVs K g O σ H vs F rs) : RVs K g O (σ.set i x) H vs F rs := by
  induction h with
  | nil => exact .nil
  | @cons v vs F1 F2 r rs q t d ih =>
    have n1 : plR r = false ∧ noPl rs = true := by cases r <;> simp_all [noPl, plR]
    exact .cons (q.slot n1.1) (ih n1.2) d
end

section
variable {X : Cx} {xc : XC} {W : WX} {cl : Nat → List Arg → DS → FRes} {a b c : Expr} {ea eb ec : E} {pos px py pz pt : Pos} {as : Es}
end
end PV

/-! PV.16: loops; a def by its body -/
namespace PV
open PySem PySem.Spec L2

section
variable {xc : XC} {K : PySem.W.Frag} {W : WX} {cl : Nat → List Arg → DS → FRes} {g : Gd} {O O0 : AP} {e : Env} {s : DS} {σ σ1 : L2.St} {H H1 H' : Hp} {F : List Addr} {m m1 : M} {D : Ends} {A : Nat → Bool}
/-- behind an iterable, a statement's end -/
theorem iter_ok {it : It} {k : List PyData × Src → M → Res Flow} (h : tS xc K W A (fun m => match evI cl it m with
      | .ok p m1 => k p m1
      | .rz c f m1 => .rz c f m1
      | .bad => .bad) D σ H) {R : L2.It → Hp → Prop}
    (hq : ∀ g O0 e s ds src J H1, Good K g O0 e s σ H1 → ItR K σ (Ow O0 e σ) H1 J ds src → PostS xc K W g O0 e σ H1 A D (k (ds, src) ⟨e, s⟩) → R J H1) : tI xc K W (fun m => evI cl it m) σ H R := by
  obtain ⟨g, O0, e, s, G, h⟩ := h
  refine ⟨g, O0, e, s, G, ?_⟩
  show PostI xc K W g O0 e σ H R (evI cl it ⟨e, s⟩)
  cases hf : evI cl it ⟨e, s⟩ with
  | rz c f m1 => simp only [hf] at h; exact fun cls dd H' t x => h cls dd σ H' (t.ss G) x
  | bad => simp only [hf] at h; exact h
  | ok p m1 =>
    obtain ⟨ds, src⟩ := p
    simp only [hf] at h
    exact fun J H1 F t r => hq g O0 m1.e m1.s ds src J H1 (G.step0 t) r (PostS.stp G t h)
/-- the source, later on -/
theorem src_now {J : L2.It} {ds : List PyData} {src : Src} (r : ItR K σ (Ow O0 e σ) H J ds src) : ∃ P, ItOk K J ds P ∧ ∀ m σ1 H1, StS K g O0 e σ H A m σ1 H1 → (∀ a, DkS g a → O0 a) → srcFree A src = true → srcOk m src → P (Ow O0 m.e σ1) H1 := by
  cases src with
  | none =>
    obtain ⟨P, h1, h2, h3⟩ := r
    refine ⟨P, h1, fun m σ1 H1 t d _ _ => h3 (Mu g e σ) _ _ H H1 h2 t.keep (fun a z => z.elim .inr fun z => .inl (d a z)) fun a z => ?_⟩
    rcases z with z | z
    · exact .inl (.inl z)
    · exact (t.own a z).imp .inr id
  | some q =>
    obtain ⟨i, d0⟩ := q
    obtain ⟨p, h1, h2⟩ := r
    refine ⟨_, h2, fun m σ1 H1 t _ hA hs => ?_⟩
    have hA : A i = false := by simpa [srcFree] using hA
    obtain ⟨q, xs, e1, _, e3, e4, e5⟩ := t.rep.at' i _ (show m.e[i]? = some (.ol d0) from hs)
    rw [t.fx i hA, h1] at e1; cases e1
    exact ⟨p, xs, rfl, e3, e4, e5⟩
/-- the turns of a for loop -/
theorem loop_ok {J : L2.It} {tg : Tg} {A1 A2 : Nat → Bool} {f : M → Res Flow} {gt : TG} {tb : TS} {ds : List PyData} {src : Src} (G : Good K g O0 e s σ H) (r : ItR K σ (Ow O0 e σ) H J ds src) (hA : srcFree A src = true) (h1 : ∀ j, A j = false → A1 j = false ∧ A2 j = false)
    (hg : ∀ v σ H Q, tGa K A1 (fun e d => bind1 e tg d) v σ H Q → gt v σ H Q) (hb : ∀ D σ H, tS xc K W A2 f D σ H → tb D σ H)
    (h : PostS xc K W g O0 e σ H A D (lopL src (fun d m => match bind1 m.e tg d with
        | some e => f ⟨e, m.s⟩
        | none => .bad) ds ⟨e, s⟩)) :
    ∃ Wt : Nat → Nat → L2.St → Hp → Prop, (∃ m, Wt 0 m σ H) ∧ ∀ i m σ H, Wt i m σ H →
      (J.stop i H ∧ D.nx σ H) ∨ (J.go i H ∧ ∃ N : L2.St → Hp → Prop, (∀ σ' H', N σ' H' → ∃ m', m' < m ∧ Wt (i + 1) m' σ' H') ∧ ∀ x H', J.yld i H x H' → gt x σ H' fun σ2 H2 => tb { D with nx := N, ct := N, bk := D.nx } σ2 H2) := by
  let bd : PyData → M → Res Flow := fun d m => match bind1 m.e tg d with
        | some e => f ⟨e, m.s⟩
        | none => .bad
  obtain ⟨P, hI, hP⟩ := src_now (g := g) (A := A) r
  refine ⟨fun i n σ' H' => i + n = ds.length ∧ ∃ m, StS K g O0 e σ H A m σ' H' ∧ PostS xc K W g O0 m.e σ' H' A D (lopL src bd (ds.drop i) m), ⟨ds.length, by omega, ⟨e, s⟩, StS.refl G, by rw [List.drop_zero]; exact h⟩, ?_⟩
  rintro i n σ' H' ⟨hi, m, t, h⟩
  by_cases z : i < ds.length
  rotate_left
  · have : i = ds.length := by omega
    subst this
    rw [List.drop_length] at h
    unfold lopL at h
    by_cases hs : srcOk m src
    · rw [if_pos hs] at h
      exact .inl ⟨hI.stop _ _ (hP m σ' H' t G.dk0 hA hs), h σ' H' (StS.refl (s := m.s) (G.ss t))⟩
    · rw [if_neg hs] at h; exact h.elim
  · have hd : ds.drop i = ds[i] :: ds.drop (i + 1) := List.drop_eq_getElem_cons z
    rw [hd] at h
    unfold lopL at h
    by_cases hs : srcOk m src
    · rw [if_pos hs] at h
      have Pn := hP m σ' H' t G.dk0 hA hs
      have G1 := G.ss t
      refine .inr ⟨hI.go _ _ _ Pn z, fun σ2 H2 => (i + 1) + (n - 1) = ds.length ∧ ∃ m, StS K g O0 e σ H A m σ2 H2 ∧ PostS xc K W g O0 m.e σ2 H2 A D (lopL src bd (ds.drop (i + 1)) m), fun σ2 H2 hN => ⟨n - 1, by omega, hN⟩, fun x H2 hy => hg _ _ _ _ ?_⟩
      obtain ⟨k, d, hd1, hs1⟩ := hI.yld _ _ _ _ _ Pn z hy
      obtain rfl : ds[i] = d := by rw [List.getElem?_eq_getElem z] at hd1; exact Option.some.inj hd1
      -- the heap with the item
      have st2 : Stp K g O0 m.e σ' H' [] ⟨m.e, m.s⟩ H2 := G1.pure k nilF
      have G2 : Good K g O0 m.e m.s σ' H2 := G1.step0 st2
      have h2 := PostS.stp G1 st2 h
      cases hbd : bind1 m.e tg ds[i] with
      | none =>
        have hbd' : bd ds[i] m = .bad := by show (match bind1 m.e tg ds[i] with | some e => f ⟨e, m.s⟩ | none => .bad) = _; rw [hbd]
        simp only [hbd'] at h2
        exact h2.elim
      | some e1 =>
        have hbd' : bd ds[i] m = f ⟨e1, m.s⟩ := by show (match bind1 m.e tg ds[i] with | some e => f ⟨e, m.s⟩ | none => .bad) = _; rw [hbd]
        refine ⟨g, O0, m.e, m.s, ds[i], e1, G2, hs1, hbd, fun σ3 r3 o3 f3 => hb _ _ _ ?_⟩
        have t3 : StS K g O0 m.e σ' H2 A ⟨e1, m.s⟩ σ3 H2 := ⟨Keep.refl, fun a z => .inl (o3 a z), r3, G2.dk, fun j z => f3 j (h1 j z).1⟩
        have t03 : StS K g O0 e σ H A ⟨e1, m.s⟩ σ3 H2 := (t.trans (st2.ss G1)).trans t3
        have h3 := PostS.step t3 h2
        refine tS.mono (A := A) (tS.intro (G2.ss t3) ?_) fun j z => (h1 j z).2
        rw [hbd'] at h3
        show PostS xc K W g O0 e1 σ3 H2 A _ (f ⟨e1, m.s⟩)
        cases hf : f ⟨e1, m.s⟩ with
        | bad => simp only [hf] at h3; exact h3
        | rz c x m1 => simp only [hf] at h3; exact h3
        | ok fl m1 =>
          cases fl with
          | nx => simp only [hf] at h3; exact fun σ4 H4 t4 => ⟨by omega, m1, t03.trans t4, PostS.step t4 h3⟩
          | ct => simp only [hf] at h3; exact fun σ4 H4 t4 => ⟨by omega, m1, t03.trans t4, PostS.step t4 h3⟩
          | brk => simp only [hf] at h3; exact h3
          | rt r => simp only [hf] at h3; exact h3
    · rw [if_neg hs] at h; exact h.elim
end
section
variable {X : Cx} {xc : XC} {W : WX} {cl : Nat → List Arg → DS → FRes} {body : List Stmt} {tg iter c : Expr} {t : Tg} {it : It} {tc : T} {ib : Ss} {pos : Pos}
theorem ds_for (o : Ok X) (hp : PassesOwn (model X.prog X.w) X.A X.env X.xe) (hi : DI X xc W cl tg iter it) (ht : DG X tg t) (hb : DSs X xc W cl body ib) (hs : ∀ x, foldedSetIterable iter X.env x = pure x := by intro _; rfl) :
    DS' X xc W cl (.For tg iter body [] pos) (.lop t it ib) := PSimp (ps_for hp o.calm hi ht hb hs) fun D σ H h =>
  iter_ok (k := fun p m1 => if srcFree (fun j => asgT t j || asgSs ib j) p.2 = true then lopL p.2 (fun d m => match bind1 m.e t d with
        | some e => exs cl ib ⟨e, m.s⟩
        | none => .bad) p.1 m1 else .bad) (A := asgS (.lop t it ib)) (by
      obtain ⟨g, O0, e, s, G, h⟩ := h
      refine ⟨g, O0, e, s, G, ?_⟩
      have h : PostS xc X.K W g O0 e σ H (asgS (.lop t it ib)) D (match evI cl it ⟨e, s⟩ with
        | .ok (ds, src) m1 => if srcFree (fun j => asgT t j || asgSs ib j) src = true then lopL src (fun d m => match bind1 m.e t d with
            | some e => exs cl ib ⟨e, m.s⟩
            | none => .bad) ds m1 else .bad
        | .rz c f m1 => .rz c f m1
        | .bad => .bad) := h
      cases hf : evI cl it ⟨e, s⟩ with
      | bad => simp only [hf] at h ⊢; exact h
      | rz c f m1 => simp only [hf] at h ⊢; exact h
      | ok p m1 => obtain ⟨ds, src⟩ := p; simp only [hf] at h ⊢; exact h) fun g O0 e s ds src J H1 G r h => by
    by_cases hA : srcFree (fun j => asgT t j || asgSs ib j) src = true
    · simp only [hA, if_true] at h
      exact loop_ok (A := asgS (.lop t it ib)) (A1 := asgT t) (A2 := asgSs ib) (f := fun m => exs cl ib m) (tg := t) (xc := xc) (W := W) G r hA (fun j z => by simpa [asgS] using z) (fun v σ H Q z => z) (fun D σ H z => z) h
    · simp only [hA] at h
      exact h.elim
end
end PV

/-! PV.17: a def by its body's walk -/
namespace PV
open PySem PySem.Spec L2

section
variable {xc : XC} {K : PySem.W.Frag} {cl : Nat → List Arg → DS → FRes} {g : Gd} {O : AP} {s : DS} {H : Hp}
def e0 (ns : Nat) (as : List Arg) : Env := as.map slotA ++ List.replicate ns .un
theorem e0_get {ns : Nat} {as : List Arg} {i : Nat} {sl : Slot} (h : (e0 ns as)[i]? = some sl) : (∃ a, as[i]? = some a ∧ sl = slotA a) ∨ sl = .un := by
  unfold e0 at h
  by_cases z : i < as.length
  · rw [List.getElem?_append_left (by simpa using z), List.getElem?_map] at h
    cases hq : as[i]? with
    | none => rw [hq] at h; cases h
    | some a => rw [hq] at h; cases h; exact .inl ⟨a, rfl, rfl⟩
  · rw [List.getElem?_append_right (by simpa using z), List.getElem?_replicate] at h
    split at h
    · cases h; exact .inr rfl
    · cases h
theorem e0_own {ns : Nat} {as : List Arg} {i : Nat} : isOwn (e0 ns as)[i]? = false := by
  cases h : (e0 ns as)[i]? with
  | none => rfl
  | some sl =>
    rcases e0_get h with ⟨a, _, rfl⟩ | rfl
    · cases a <;> rfl
    · rfl
theorem e0_no {ns : Nat} {as : List Arg} {σ : L2.St} {a : Addr} : ¬ own (e0 ns as) σ a := fun ⟨i, h, _⟩ => by rw [e0_own] at h; cases h
theorem good0 {N : List Str} {vs : List V} {as : List Arg} (h0 : GOb K g) (h1 : ∀ a, DkS g a → O a) (h2 : ∀ a, O a → H a ≠ none) (dk : DkRep g s H) (hp : Paired (ArgR K g O H) vs as) (hl : vs.length ≤ N.length) : Good K g O (e0 (N.length - as.length) as) s (start N vs) H := by
  refine ⟨h1, h2, ⟨?_, fun i sl hi => ?_, fun i j a z _ _ _ => ?_⟩, dk, h0⟩
  · unfold e0 L2.start
    simp [← Paired.len hp]
  · rcases e0_get hi with ⟨a, ha, rfl⟩ | rfl
    · obtain ⟨v, hv, r⟩ := Paired.get hp ha
      have hs : (start N vs)[i]? = some (some v) := by
        unfold L2.start
        rw [List.getElem?_append_left (by simpa using (List.getElem?_eq_some_iff.mp hv).1), List.getElem?_map, hv]
        rfl
      cases r with
      | sh h => exact ⟨v, hs, h.weak fun a z => z.elim id fun z => (e0_no z).elim⟩
      | dk => exact hs
      | nil => trivial
    · trivial
  · rw [e0_own] at z; cases z
theorem runB_len {fd : FD} {as : List Arg} {s : DS} (h : runB cl fd as s ≠ .bad) : as.length = fd.np := by
  unfold runB at h
  by_cases z : as.length = fd.np
  · exact z
  · rw [if_neg z] at h; exact absurd rfl h
theorem body_ok {N : List Str} {vs : List V} {np : Nat} {ib : Ss} {Q : VK} {E : XK} (hn : np ≤ N.length) (h : spF xc K np (runB cl ⟨N.length, np, ib⟩) vs H Q E) :
    tS xc K (fun c d _ H => E c d H) (asgSs ib) (fun m => exs cl ib m) { nx := fun _ H' => Q .non H', rt := Q } (start N vs) H := by
  obtain ⟨hl, g, O, as, s, h0, h1, h2, dk, hp, h⟩ := h
  have G := good0 (N := N) h0 h1 h2 dk hp (by omega)
  have la : as.length = np := by rw [← Paired.len hp]; exact hl
  have kp : ∀ {H'}, Keep (Mu g (e0 (N.length - as.length) as) (start N vs)) H H' → Keep (DkS g) H H' := fun k => k.mono fun a z => z.elim (fun z => (e0_no z).elim) id
  have nw : ∀ {m : M} {σ' a}, (own m.e σ' a → own (e0 (N.length - as.length) as) (start N vs) a ∨ H a = none) → own m.e σ' a → H a = none := fun f z => (f z).elim (fun z => (e0_no z).elim) id
  unfold runB at h
  simp only at h
  rw [if_pos la] at h
  rw [show as.map slotA ++ List.replicate (N.length - np) .un = e0 (N.length - as.length) as by rw [la]; rfl] at h
  refine tS.intro G ?_
  cases hf : exs cl ib ⟨e0 (N.length - as.length) as, s⟩ with
  | bad => rw [hf] at h; exact h
  | rz c f m =>
    rw [hf] at h
    exact fun cls dd σ' H' t x => h cls dd H' (kp t.keep) (x.weak fun a z => .inl z) t.dk
  | ok fl m =>
    rw [hf] at h
    cases fl with
    | brk => exact h.elim
    | ct => exact h.elim
    | nx => exact fun σ' H' t => h .non H' [] (kp t.keep) nilF (RO.sh (sh_none.mpr rfl)) t.dk
    | rt r =>
      intro v σ' H' F t
      simp only at h
      have sub : ∀ a, plus O F a → Ow (plus O F) m.e σ' a := fun a z => .inl z
      cases r with
      | dk => exact h.elim
      | v d => exact h v H' F (kp t.keep) t.new (RO.weak sub (show RO K _ H' v F (.v d) from t.rv)) t.dk
      | fl ds => exact h v H' F (kp t.keep) t.new (RO.weak sub (show RO K _ H' v F (.fl ds) from t.rv)) t.dk
      | fd tt kvs => exact h v H' F (kp t.keep) t.new (RO.weak sub (show RO K _ H' v F (.fd tt kvs) from t.rv)) t.dk
      | pl i =>
        obtain ⟨rfl, hi⟩ := t.rv
        unfold finR at h
        simp only at h
        cases hs : m.e[i]? with
        | none => rw [hs] at h; exact h.elim
        | some sl =>
          have q := t.rep.at' i _ hs
          cases sl with
          | un => rw [hs] at h; exact h.elim
          | ex a f => rw [hs] at h; exact h.elim
          | dk => rw [hs] at h; exact h.elim
          | sh d =>
            rw [hs] at h
            obtain ⟨v', e1, e2⟩ := q
            rw [hi] at e1; cases e1
            exact h v H' [] (kp t.keep) nilF (RO.sh (e2.weak fun a z => .inl z)) t.dk
          | ol ds =>
            rw [hs] at h
            obtain ⟨p, xs, e1, e2, e3, e4, e5⟩ := q
            rw [hi] at e1; cases e1
            have op : own m.e σ' p := ⟨i, by rw [hs]; rfl, hi⟩
            refine h _ H' [p] (kp t.keep) (fun z hz => ?_) ⟨p, xs, rfl, rfl, e3, e4, e5.weak fun a z => ?_⟩ t.dk
            · rw [List.mem_singleton.mp hz]; exact ⟨nw (t.own p) op, by rw [e3]; simp⟩
            · rcases z with z | z
              · exact .inl z
              · rw [List.mem_singleton.mp z]; exact .inr op
          | od tt kvs =>
            rw [hs] at h
            obtain ⟨p, o, e1, e2, e3, e5⟩ := q
            rw [hi] at e1; cases e1
            have op : own m.e σ' p := ⟨i, by rw [hs]; rfl, hi⟩
            refine h _ H' [p] (kp t.keep) (fun z hz => ?_) ⟨p, o, rfl, rfl, e3, e5.weak fun a z => ?_⟩ t.dk
            · rw [List.mem_singleton.mp hz]; exact ⟨nw (t.own p) op, by rw [e3]; simp⟩
            · rcases z with z | z
              · exact .inl z
              · rw [List.mem_singleton.mp z]; exact .inr op
end
section
variable {P : Program} {w : World} {K : PySem.W.Frag} {mg : Str → Option Value} {base : Heap} {xc : XC} {cl : Nat → List Arg → DS → FRes}
/-- what a body's walk may use -/
structure Bd (X : Cx) (W : WX) (k : Nat) : Prop where
  ok : Ok X
  room : Room k X.A
  pass : PassesOwn (model X.prog X.w) X.A X.env X.xe
  takes : Takes X W
abbrev CxD (P : Program) (w : World) (K : PySem.W.Frag) (mg : Str → Option Value) (base : Heap) (N : List Str) (qual : Str) (st : Stmt) (f : Addr) (cdv : Value) (A : Around) (outer : List PySem.Env) (s : Shared) (H : Hp) (E : XK) : Cx := cxOf (L2.CX P w) P w K mg base N qual (defScope st) f cdv A outer s H E
theorem def_ok {x qual : Str} {st : Stmt} {f : Addr} {fd : FuncData} {N ps : List Str} {k : Nat} {ib : Ss} (F : Fun K x qual st f fd) (S : FnScope N ps (defScope st))
    (hb : ∀ (cdv : Value) (A : Around) (outer : List PySem.Env) (s : Shared) (H : Hp) (E : XK), Bd (CxD P w K mg base N qual st f cdv A outer s H E) (fun c d _ H => E c d H) k → DSs (CxD P w K mg base N qual st f cdv A outer s H E) xc (fun c d _ H => E c d H) cl (defBody st) ib) :
    FnG P w K mg base (L2.CX P w) (k + 1) f fd ps (spF xc K ps.length (runB cl ⟨N.length, ps.length, ib⟩)) := by
  obtain ⟨oc, od, kV, doc, pm, an, cdv, ct, osl, rfl, lk, hcd⟩ := F.ex
  refine FnG.body lk hcd S (fun vs H Q E h => h.1) fun A outer s H vs Q E hg hr hf hsp => ?_
  have un := hr.un
  refine ⟨_, hb cdv A outer s H E ⟨⟨rfl, S.nd, ?_, deeper_gd hg⟩, hr, L2.passes_of rfl, L2.takes_of rfl rfl rfl rfl⟩, body_ok ?_ hsp⟩
  · show (A.deeper _).units + 65 < cLine
    omega
  · have := congrArg List.length S.pre
    rw [List.length_take] at this
    omega
end
end PV

/-! PV.18: list comprehensions -/
namespace PV
open PySem PySem.Spec L2

section
variable {xc : XC} {K : PySem.W.Frag} {W : WX} {cl : Nat → List Arg → DS → FRes} {g : Gd} {O O0 : AP} {e e' e1 e2 : Env} {s : DS} {σ σ1 σ2 : L2.St} {H H1 H' : Hp} {F : List Addr} {m m1 : M} {vs : List Nat}
theorem wipe_get {j : Nat} : ∀ {vs : List Nat}, (wipe σ vs)[j]? = if j ∈ vs then σ[j]?.map fun _ => none else σ[j]?
  | [] => by simp [wipe]
  | v :: vs => by
    unfold wipe
    by_cases h : v = j
    · subst h
      rw [if_pos List.mem_cons_self, List.getElem?_set, if_pos rfl, wipe_length]
      by_cases z : v < σ.length
      · rw [if_pos z, List.getElem?_eq_getElem z]; rfl
      · rw [if_neg z, List.getElem?_eq_none (by simpa using z)]; rfl
    · rw [List.getElem?_set_ne h, wipe_get (vs := vs)]
      by_cases q : j ∈ vs
      · rw [if_pos q, if_pos (List.mem_cons_of_mem _ q)]
      · rw [if_neg q, if_neg (fun z => (List.mem_cons.mp z).elim (fun z => h z.symm) q)]
theorem clear_len : ∀ {vs : List Nat}, (clear e vs).length = e.length
  | [] => rfl
  | v :: vs => by unfold clear; rw [List.length_set, clear_len]
theorem back_get {j : Nat} : ∀ {vs : List Nat}, (back e e1 vs)[j]? = if j ∈ vs then e[j]?.map fun _ => (e1[j]?).getD .un else e[j]?
  | [] => by simp [back]
  | v :: vs => by
    unfold back
    have hl : ∀ vs : List Nat, (back e e1 vs).length = e.length := fun vs => by
      induction vs with
      | nil => rfl
      | cons v vs ih => unfold back; rw [List.length_set, ih]
    by_cases h : v = j
    · subst h
      rw [if_pos List.mem_cons_self, List.getElem?_set, if_pos rfl, hl]
      by_cases z : v < e.length
      · rw [if_pos z, List.getElem?_eq_getElem z]; rfl
      · rw [if_neg z, List.getElem?_eq_none (l := e) (by simpa using z)]; rfl
    · rw [List.getElem?_set_ne h, back_get (vs := vs)]
      by_cases q : j ∈ vs
      · rw [if_pos q, if_pos (List.mem_cons_of_mem _ q)]
      · rw [if_neg q, if_neg (fun z => (List.mem_cons.mp z).elim (fun z => h z.symm) q)]
theorem back_len : ∀ {vs : List Nat}, (back e e1 vs).length = e.length
  | [] => rfl
  | v :: vs => by unfold back; rw [List.length_set, back_len]
theorem Rep.clear (r : Rep K g O0 e σ H) : ∀ vs : List Nat, Rep K g O0 (PV.clear e vs) (wipe σ vs) H ∧ ∀ a, own (PV.clear e vs) (wipe σ vs) a → own e σ a
  | [] => ⟨r, fun _ z => z⟩
  | v :: vs => by
    obtain ⟨r1, o1⟩ := Rep.clear r vs
    exact ⟨r1.setUn, fun a z => o1 a (own_set rfl z)⟩
/-- the block's own slots as they were -/
theorem Rep.back {O' : AP} (r2 : Rep K g O' e2 (wipe σ vs) H') (r1 : Rep K g O0 e1 σ H1) (k : Keep (Mu g e1 σ) H1 H') (dk : ∀ a, DkS g a → O0 a) (o : ∀ a, own e2 (wipe σ vs) a → own e1 σ a) (hv : vs.all (fun i => !isOwn e1[i]?) = true) (hO : ∀ a, O' a → O0 a ∨ H1 a = none) (hl : e2.length = e1.length) :
    Rep K g O' (PV.back e2 e1 vs) σ H' ∧ ∀ a, own (PV.back e2 e1 vs) σ a → own e2 (wipe σ vs) a := by
  have nv : ∀ j ∈ vs, isOwn e1[j]? = false := fun j hj => by
    have := List.all_eq_true.mp hv j hj
    simpa using this
  have at1 : ∀ {j}, isOwn (PV.back e2 e1 vs)[j]? = true → j ∉ vs ∧ isOwn e2[j]? = true := fun {j} h => by
    rw [back_get] at h
    by_cases q : j ∈ vs
    · rw [if_pos q] at h
      exfalso
      cases hq : e2[j]? with
      | none => rw [hq] at h; simp [isOwn] at h
      | some sl =>
        rw [hq] at h
        have z := nv j q
        cases hq1 : e1[j]? with
        | none => rw [hq1] at h; simp [isOwn] at h
        | some s1 =>
          rw [hq1] at z h
          have h : isOwn (some s1) = true := h
          rw [z] at h; cases h
    · rw [if_neg q] at h; exact ⟨q, h⟩
  have sg : ∀ {j}, j ∉ vs → (wipe σ vs)[j]? = σ[j]? := fun {j} q => by rw [wipe_get, if_neg q]
  have oo : ∀ a, own (PV.back e2 e1 vs) σ a → own e2 (wipe σ vs) a := fun a ⟨j, h1, h2⟩ => by
    obtain ⟨q, h⟩ := at1 h1
    exact ⟨j, h, by rw [sg q]; exact h2⟩
  refine ⟨⟨by rw [back_len, r2.len, wipe_length], fun j sl h => ?_, fun i j a h1 h2 h3 h4 => ?_⟩, oo⟩
  · rw [back_get] at h
    by_cases q : j ∈ vs
    · rw [if_pos q] at h
      cases hq : e2[j]? with
      | none => rw [hq] at h; cases h
      | some s2 =>
        have lt : j < e1.length := by rw [← hl]; exact (List.getElem?_eq_some_iff.mp hq).1
        have h1 := List.getElem?_eq_getElem lt
        have z := nv j q
        rw [h1] at z
        rw [hq, h1] at h
        obtain rfl : e1[j] = sl := by simpa using h
        have q1 := r1.at' j _ h1
        generalize e1[j] = s1 at q1 z
        cases s1 with
        | un => trivial
        | ex x f =>
          refine ⟨q1.1, fun b n' d e => ?_⟩
          obtain ⟨v, a1, a2⟩ := q1.2 b n' d e
          refine ⟨v, k.stay _ _ a1 (.inr rfl), a2.go k (fun a z => z.elim .inr fun z => .inl (dk a z)) fun a z => ?_⟩
          rcases z with z | z
          · exact (hO a z).imp .inl id
          · exact .inl (.inr (o a (oo a z)))
        | dk => exact q1
        | ol ds => cases z
        | od t kvs => cases z
        | sh d =>
          obtain ⟨v, a1, a2⟩ := q1
          refine ⟨v, a1, a2.go k (fun a z => z.elim .inr fun z => .inl (dk a z)) fun a z => ?_⟩
          rcases z with z | z
          · exact (hO a z).imp .inl id
          · exact .inl (.inr (o a (oo a z)))
    · rw [if_neg q] at h
      have q2 := r2.at' j sl h
      have wk : ∀ a, Ow O' (PV.back e2 e1 vs) σ a → Ow O' e2 (wipe σ vs) a := fun a z => z.imp id (oo a)
      refine SlotR.weak (O := Ow O' e2 (wipe σ vs)) ?_ wk fun _ z => .inl z
      cases sl with
      | un => trivial
      | ex x f => exact ⟨by rw [← sg q]; exact q2.1, q2.2⟩
      | sh d => obtain ⟨v, a1, a2⟩ := q2; exact ⟨v, by rw [← sg q]; exact a1, a2⟩
      | ol ds => obtain ⟨p, xs, a1, a2⟩ := q2; exact ⟨p, xs, by rw [← sg q]; exact a1, a2⟩
      | od t kvs => obtain ⟨p, xs, a1, a2⟩ := q2; exact ⟨p, xs, by rw [← sg q]; exact a1, a2⟩
      | dk => show σ[j]? = _; rw [← sg q]; exact q2
  · obtain ⟨q1, z1⟩ := at1 h1
    obtain ⟨q2, z2⟩ := at1 h2
    exact r2.inj i j a z1 z2 (by rw [sg q1]; exact h3) (by rw [sg q2]; exact h4)
/- the targets are the block's own -/
mutual
def tgIn (own : List Nat) : Tg → Bool
  | .nm i => own.contains i
  | .tp ts => tgsIn own ts
def tgsIn (own : List Nat) : Tgs → Bool
  | .nil => true
  | .cons t ts => tgIn own t && tgsIn own ts
end
mutual
theorem tgIn_mem {own : List Nat} {j : Nat} : ∀ {t : Tg}, tgIn own t = true → asgT t j = true → j ∈ own
  | .nm i, h, h2 => by
    have : i = j := by simpa [asgT] using h2
    subst this
    simpa [tgIn] using h
  | .tp ts, h, h2 => tgsIn_mem (by simpa [tgIn] using h) (by simpa [asgT] using h2)
theorem tgsIn_mem {own : List Nat} {j : Nat} : ∀ {t : Tgs}, tgsIn own t = true → asgTs t j = true → j ∈ own
  | .nil, _, h2 => by simp [asgTs] at h2
  | .cons t ts, h, h2 => by
    have h : tgIn own t = true ∧ tgsIn own ts = true := by simpa [tgsIn] using h
    have h2 : asgT t j = true ∨ asgTs ts j = true := by simpa [asgTs] using h2
    exact h2.elim (tgIn_mem h.1) (tgsIn_mem h.2)
end
mutual
theorem bind1_len : ∀ {t : Tg} {e : Env} {d : PyData} {e' : Env}, bind1 e t d = some e' → e'.length = e.length
  | .nm i, e, d, e', h => by
    obtain rfl : e.set i (.sh d) = e' := by simpa [bind1] using h
    simp
  | .tp ts, e, d, e', h => by
    cases d with
    | tuple ds => exact bindL_len' (show bindL e ts ds = some e' from h)
    | none => simp [bind1] at h
    | bool b => simp [bind1] at h
    | int b => simp [bind1] at h
    | str b => simp [bind1] at h
    | list ds => exact bindL_len' (show bindL e ts ds = some e' from h)
    | dict b => simp [bind1] at h
theorem bindL_len' : ∀ {t : Tgs} {e : Env} {d : List PyData} {e' : Env}, bindL e t d = some e' → e'.length = e.length
  | .nil, e, [], e', h => by
    obtain rfl : e = e' := by simpa [bindL] using h
    rfl
  | .nil, e, d :: ds, e', h => by simp [bindL] at h
  | .cons t ts, e, [], e', h => by simp [bindL] at h
  | .cons t ts, e, d :: ds, e', h => by
    simp only [bindL] at h
    cases hb : bind1 e t d with
    | none => rw [hb] at h; cases h
    | some e1 => rw [hb] at h; rw [bindL_len' h, bind1_len hb]
end
theorem wipe_eq (hl : σ2.length = σ.length) (h : ∀ j, j ∉ vs → σ2[j]? = (wipe σ vs)[j]?) : wipe σ2 vs = wipe σ vs := by
  refine List.ext_getElem? fun j => ?_
  rw [wipe_get, wipe_get]
  by_cases q : j ∈ vs
  · rw [if_pos q, if_pos q]
    by_cases z : j < σ.length
    · rw [List.getElem?_eq_getElem z, List.getElem?_eq_getElem (by omega)]; rfl
    · rw [List.getElem?_eq_none (by omega), List.getElem?_eq_none (by omega)]
  · rw [if_neg q, if_neg q, h j q, wipe_get, if_neg q]

/-- where a comprehension stands -/
structure LcI (K : PySem.W.Frag) (g : Gd) (O0 : AP) (e1 : Env) (σ : L2.St) (H1 : Hp) (D : Addr) (vs : List Nat) (m : M) (H : Hp) : Prop where
  keep : Keep (Mu g e1 σ) H1 H
  own : ∀ a, own m.e (wipe σ vs) a → PV.own e1 σ a
  good : Good K g (plus O0 [D]) m.e m.s (wipe σ vs) H
theorem LcI.ow {D : Addr} (t : LcI K g O0 e1 σ H1 D vs m H) (nD : H1 D = none) : ∀ a, Ow (plus O0 [D]) m.e (wipe σ vs) a → Ow O0 e1 σ a ∨ H1 a = none := fun a z => by
  rcases z with (z | z) | z
  · exact .inl (.inl z)
  · rw [List.mem_singleton.mp z]; exact .inr nD
  · exact .inl (.inr (t.own a z))
theorem lc_src {J : L2.It} {ds : List PyData} {src : Src} (r : ItR K σ (Ow O0 e1 σ) H1 J ds src) (dk : ∀ a, DkS g a → O0 a) : ∃ P, ItOk K J ds P ∧ ∀ D m H, H1 D = none → LcI K g O0 e1 σ H1 D vs m H → srcOk m src → P (Ow (plus O0 [D]) m.e (wipe σ vs)) H := by
  cases src with
  | none =>
    obtain ⟨P, h1, h2, h3⟩ := r
    exact ⟨P, h1, fun D m H nD t _ => h3 (Mu g e1 σ) _ _ H1 H h2 t.keep (fun a z => z.elim .inr fun z => .inl (dk a z)) (t.ow nD)⟩
  | some q =>
    obtain ⟨i, d0⟩ := q
    obtain ⟨p, h1, h2⟩ := r
    refine ⟨_, h2, fun D m H nD t hs => ?_⟩
    obtain ⟨q, xs, a1, _, a3, a4, a5⟩ := t.good.rep.at' i _ (show m.e[i]? = some (.ol d0) from hs)
    have := (wipe_some a1).1
    rw [h1] at this; cases this
    exact ⟨p, xs, rfl, a3, a4, a5⟩
theorem upd_id {H : Hp} {a : Addr} {o : HO} (h : H a = some o) : upd H a o = H := by
  funext b
  unfold upd
  split
  · rename_i q; rw [q, h]
  · rfl
/-- the turns of a list comprehension -/
theorem lc_ok {J : L2.It} {tg : Tg} {gt : TG} {tt : TT} {te : TE} {fc : M → Res Bool} {fe : M → Res R} {ds : List PyData} {src : Src} {Q : VK} (G : Good K g O0 e1 s σ H1) (r : ItR K σ (Ow O0 e1 σ) H1 J ds src) (hn : vs.all (fun i => !isOwn e1[i]?) = true) (hl : ds.length ≤ LIM) (ht : tgIn vs tg = true)
    (hg : ∀ v σ H Q, tGa K (asgT tg) (fun e d => bind1 e tg d) v σ H Q → gt v σ H Q) (hc : ∀ σ H Q, tT xc K (fun _ _ _ _ => False) fc σ H Q → tt σ H Q) (he : ∀ σ H Q, tE xc K (fun _ _ _ _ => False) fe σ H Q → te σ H Q)
    (h : PostE xc K W g O0 e1 σ H1 Q (match lcL src vs (fun d m => match bind1 m.e tg d with
            | some e => fc ⟨e, m.s⟩
            | none => .bad) fe ds [] ⟨clear e1 vs, s⟩ with
        | .ok acc m2 => .ok (.fl acc) ⟨back m2.e e1 vs, m2.s⟩
        | _ => .bad)) (D : Addr) (nD : H1 D = none) :
    ∃ Wt : Nat → Nat → Hp → Prop, (∃ m, Wt 0 m (upd H1 D (.lst []))) ∧ ∀ i m H, Wt i m H →
      (J.stop i H ∧ Q (.ref D) H) ∨ (J.go i H ∧ ∃ Nx : Hp → Prop, (∀ H', Nx H' → ∃ m', m' < m ∧ Wt (i + 1) m' H') ∧ ∀ x H', J.yld i H x H' → gt x (wipe σ vs) H' fun σ2 H2 => wipe σ2 vs = wipe σ vs ∧ tt σ2 H2 fun b H3 =>
        if b = true then te σ2 H3 fun y H4 => ∃ acc, H4 D = some (.lst acc) ∧ acc.length < sizeLine ∧ Nx (upd H4 D (.lst (acc ++ [y]))) else Nx H3) := by
  let bd : PyData → M → Res Bool := fun d m => match bind1 m.e tg d with
            | some e => fc ⟨e, m.s⟩
            | none => .bad
  obtain ⟨P, hI, hP⟩ := lc_src (vs := vs) r G.dk0
  have D0 : ¬ O0 D := fun z => G.oe D z nD
  have Dk : ¬ DkS g D := fun z => D0 (G.dk0 D z)
  -- the invariant
  let Inv' : Nat → M → Hp → Prop := fun i m H => LcI K g O0 e1 σ H1 D vs m H ∧ m.e.length = e1.length ∧ (∃ xs acc, H D = some (.lst xs) ∧ xs.length ≤ i ∧ ShA K (Ow (plus O0 [D]) m.e (wipe σ vs)) H xs acc ∧
    PostE xc K W g O0 e1 σ H1 Q (match lcL src vs bd fe (ds.drop i) acc m with
        | .ok acc m2 => .ok (.fl acc) ⟨back m2.e e1 vs, m2.s⟩
        | _ => .bad))
  refine ⟨fun i n H => i + n = ds.length ∧ ∃ m, Inv' i m H, ⟨ds.length, by omega, ⟨clear e1 vs, s⟩, ⟨?_, ?_, ?_⟩, clear_len, [], [], upd_same, Nat.le_refl _, .nil, by rw [List.drop_zero]; exact h⟩, ?_⟩
  · exact Keep.new nD
  · exact (G.rep.clear vs).2
  · have k0 : Keep (fun _ => False) H1 (upd H1 D (.lst [])) := Keep.new nD
    refine ⟨fun a z => .inl (G.dk0 a z), fun a z => ?_, (G.rep.clear vs).1.go k0 (fun _ z => z.elim) fun a z => z.imp id fun z => by rw [List.mem_singleton.mp z]; exact nD, G.dk.keep k0 (fun _ z => z.elim), G.ob⟩
    rcases z with z | z
    · exact fun q => G.oe a z (k0.old a q)
    · rw [List.mem_singleton.mp z, upd_same]; simp
  rintro i n H ⟨hi, m, t, ml, xs, acc, hD, hx, hs, h⟩
  by_cases z : i < ds.length
  rotate_left
  · have : i = ds.length := by omega
    subst this
    rw [List.drop_length] at h
    unfold lcL at h
    by_cases hso : srcOk m src
    · rw [if_pos hso] at h
      refine .inl ⟨hI.stop _ _ (hP D m H nD t hso), ?_⟩
      obtain ⟨rb, ob⟩ := t.good.rep.back G.rep t.keep G.dk0 t.own hn (fun a z => z.imp id fun z => by rw [List.mem_singleton.mp z]; exact nD) ml
      have os : ∀ a, own (back m.e e1 vs) σ a → own e1 σ a := fun a z => t.own a (ob a z)
      refine h (.ref D) H [D] ⟨t.keep, os, fun p hp => ?_, rb, t.good.dk⟩ ⟨D, xs, rfl, rfl, hD, ?_, ?_⟩
      · rw [List.mem_singleton.mp hp]
        refine ⟨nD, D0, fun z => ?_, by rw [hD]; simp⟩
        obtain ⟨_, o, ho, _⟩ := G.rep.owned (os D z)
        rw [nD] at ho; cases ho
      · rw [← LIM_eq]; omega
      · exact ShA.weak (fun a z => z.imp id (ob a)) hs
    · rw [if_neg hso] at h; exact h.elim
  · have hd : ds.drop i = ds[i] :: ds.drop (i + 1) := List.drop_eq_getElem_cons z
    rw [hd] at h
    unfold lcL at h
    by_cases hso : srcOk m src
    rotate_left
    · rw [if_neg hso] at h; exact h.elim
    · rw [if_pos hso] at h
      have Pn := hP D m H nD t hso
      refine .inr ⟨hI.go _ _ _ Pn z, fun H2 => (i + 1) + (n - 1) = ds.length ∧ ∃ m, Inv' (i + 1) m H2, fun H2 hN => ⟨n - 1, by omega, hN⟩, fun x H2 hy => hg _ _ _ _ ?_⟩
      obtain ⟨k, d, hd1, hs1⟩ := hI.yld _ _ _ _ _ Pn z hy
      obtain rfl : ds[i] = d := by rw [List.getElem?_eq_getElem z] at hd1; exact Option.some.inj hd1
      have G1 := t.good
      have st2 : Stp K g (plus O0 [D]) m.e (wipe σ vs) H [] ⟨m.e, m.s⟩ H2 := G1.pure k nilF
      have G2 : Good K g (plus O0 [D]) m.e m.s (wipe σ vs) H2 := G1.step0 st2
      cases hbd : bind1 m.e tg ds[i] with
      | none =>
        have hbd' : bd ds[i] m = .bad := by show (match bind1 m.e tg ds[i] with | some e => fc ⟨e, m.s⟩ | none => .bad) = _; rw [hbd]
        simp only [hbd'] at h
        exact h.elim
      | some ea =>
        have hbd' : bd ds[i] m = fc ⟨ea, m.s⟩ := by show (match bind1 m.e tg ds[i] with | some e => fc ⟨e, m.s⟩ | none => .bad) = _; rw [hbd]
        rw [hbd'] at h
        refine ⟨g, plus O0 [D], m.e, m.s, ds[i], ea, G2, hs1, hbd, fun σ3 r3 o3 f3 => ?_⟩
        have hl3 : σ3.length = σ.length := by rw [← r3.len, bind1_len hbd, G1.rep.len, wipe_length]
        have hw : wipe σ3 vs = wipe σ vs := wipe_eq hl3 fun j hj => f3 j (by
          cases q : asgT tg j with
          | false => rfl
          | true => exact absurd (tgIn_mem ht q) hj)
        have G3 : Good K g (plus O0 [D]) ea m.s σ3 H2 := ⟨G2.dk0, G2.oe, r3, G2.dk, G2.ob⟩
        have k12 : Keep (Mu g e1 σ) H1 H2 := t.keep.trans k fun _ z => z.elim
        refine ⟨hw, hc _ _ _ ⟨g, plus O0 [D], ea, m.s, G3, ?_⟩⟩
        -- what stands at D goes on standing
        have stayD : ∀ {F m4 H4}, Stp K g (plus O0 [D]) ea σ3 H2 F m4 H4 → H4 D = some (.lst xs) := fun {F m4 H4} t4 => t4.keep.stay D _ (k.stay D _ hD (.inl fun z => z)) (.inl fun z => by
          rcases z with z | z
          · exact (G3.rep.owned z).1 (.inr (by simp))
          · exact Dk z)
        have keepA : ∀ {F m4 H4}, Stp K g (plus O0 [D]) ea σ3 H2 F m4 H4 → ShA K (Ow (plus O0 [D]) m4.e σ3) H4 xs acc := fun {F m4 H4} t4 => ShA.go (ShA.go hs k (fun _ z => z.elim) fun a z => .inl z) (M := Mu g ea σ3) t4.keep (fun a z => z.elim (fun z => .inr (o3 a z)) fun z => .inl (.inl (G.dk0 a z))) fun a z => .inl (z.imp id fun z => o3 a (t4.own a z))
        -- at the end of the turn
        have done : ∀ {F m4 H4}, Stp K g (plus O0 [D]) ea σ3 H2 F m4 H4 → ∀ {e5}, Rep K g (plus O0 [D]) e5 σ3 H4 → (∀ a, own e5 σ3 a → own m4.e σ3 a) → e5.length = e1.length → ∀ ys acc', ys.length ≤ i + 1 → ShA K (Ow (plus O0 [D]) e5 σ3) H4 ys acc' →
            PostE xc K W g O0 e1 σ H1 Q (match lcL src vs bd fe (ds.drop (i + 1)) acc' ⟨clear e5 vs, m4.s⟩ with
              | .ok acc m2 => .ok (.fl acc) ⟨back m2.e e1 vs, m2.s⟩
              | _ => .bad) → Inv' (i + 1) ⟨clear e5 vs, m4.s⟩ (upd H4 D (.lst ys)) := fun {F m4 H4} t4 {e5} r5 o5 l5 ys acc' hy ha h => by
          have hD4 := stayD t4
          have kw : Keep (fun a => a = D) H4 (upd H4 D (.lst ys)) := Keep.write hD4 rfl rfl
          have k14 : Keep (Mu g e1 σ) H1 H4 := k12.trans t4.keep fun a z => .inl (z.imp (fun z => t.own a (o3 a z)) id)
          have r6 : Rep K g (plus O0 [D]) (clear e5 vs) (wipe σ vs) H4 := by rw [← hw]; exact (r5.clear vs).1
          have o6 : ∀ a, own (clear e5 vs) (wipe σ vs) a → own e5 σ3 a := by rw [← hw]; exact (r5.clear vs).2
          refine ⟨⟨k14.trans kw fun a z => .inr (by rw [z]; exact nD), fun a z => t.own a (o3 a (t4.own a (o5 a (o6 a z)))), fun a z => .inl (G.dk0 a z), fun a z q => ?_, r6.go kw (fun a z => .inr (by simp [z])) fun a z => .inl z, t4.dk.keep kw (fun a z q => Dk (by rw [← z]; exact q)), G.ob⟩, by rw [clear_len]; exact l5, ys, acc', upd_same, hy, ?_, h⟩
          · exact G2.oe a z (t4.keep.old a (kw.old a q))
          · exact ShA.go (ShA.weak (fun a z => z.imp id (o6 a)) ha) (M := fun a => a = D) kw (fun a z => .inl (.inr (by simp [z]))) fun a z => .inl z
        show PostT xc K _ g (plus O0 [D]) ea σ3 H2 _ (fc ⟨ea, m.s⟩)
        cases hf : fc ⟨ea, m.s⟩ with
        | bad => simp only [hf] at h; exact h.elim
        | rz c x m4 => simp only [hf] at h; exact h.elim
        | ok b m4 =>
          intro H4 t4
          have e4l : m4.e.length = e1.length := by rw [t4.rep.len, ← r3.len, bind1_len hbd, ml]
          cases b with
          | false =>
            simp only [hf] at h
            rw [if_neg (by simp)]
            refine ⟨by omega, ⟨clear m4.e vs, m4.s⟩, ?_⟩
            have hD4 := stayD t4
            have := done t4 (e5 := m4.e) t4.repO (fun _ z => z) e4l xs acc (by omega) (keepA t4) h
            rwa [upd_id hD4] at this
          | true =>
            simp only [hf] at h
            rw [if_pos rfl]
            have G4 := G3.step0 t4
            refine he _ _ _ ⟨g, plus O0 [D], m4.e, m4.s, G4, ?_⟩
            show PostE xc K _ g (plus O0 [D]) m4.e σ3 H4 _ (fe m4)
            cases hf2 : fe m4 with
            | bad => simp only [hf2] at h; exact h.elim
            | rz c x m5 => simp only [hf2] at h; exact h.elim
            | ok y m5 =>
              simp only [hf2] at h
              intro v H5 F t5 rv
              cases hes : esc m5.e y with
              | none => simp only [hes] at h; exact h.elim
              | some q =>
                obtain ⟨yd, e6⟩ := q
                simp only [hes] at h
                obtain ⟨r6, o6, s6⟩ := esc_ok t5.repO rv (fun p hp => ⟨(t5.new p hp).2.1, (t5.new p hp).2.2.1⟩) hes
                have t45 := t4.trans0 t5
                have l6 : e6.length = e1.length := by rw [r6.len, hl3, ← G.rep.len]
                refine ⟨xs, stayD t45, by rw [← LIM_eq]; omega, by omega, _, done t45 r6 o6 l6 (xs ++ [v]) (acc ++ [yd]) (by simp; omega) ?_ h⟩
                exact Paired.app (ShA.weak (fun a z => z.imp id (o6 a)) (keepA t45)) (.cons s6 .nil)
end
section
variable {X : Cx} {xc : XC} {W : WX} {cl : Nat → List Arg → DS → FRes} {c e elt tg iter : Expr} {ifs : List Expr} {scope : Scope} {own : List (Str × Nat)} {ea : E} {t : Tg} {it : It} {tc : T} {pos spos py : Pos}
/-- the tests of a block -/
def DTs (X : Cx) (xc : XC) (W : WX) (cl : Nat → List Arg → DS → FRes) (ifs : List Expr) (a : T) : Prop := PTs X ifs (tT xc X.K W fun m => evT cl a m)
theorem PTsimp {X : Cx} {e : List Expr} {t t' : TT} (h : PTs X e t) (i : ∀ σ H Q, t' σ H Q → t σ H Q) : PTs X e t' := ⟨fun pins s σ H Q I z => h.run pins s σ H Q I (i σ H Q z)⟩
theorem dts_nil : DTs X xc W cl [] .yes := PTsimp pts_nil fun σ H Q h => tT.ret h
theorem dts_one (h : DT X xc W cl c tc) : DTs X xc W cl [c] tc := pts_one h
theorem PostE.step0 {K : PySem.W.Frag} {g : Gd} {O0 : AP} {e : Env} {σ : L2.St} {H H1 : Hp} {m1 : M} {Q : VK} {x : Res R} (t1 : Stp K g O0 e σ H [] m1 H1) (h : PostE xc K W g O0 e σ H Q x) : PostE xc K W g O0 m1.e σ H1 Q x := by
  cases x with
  | bad => exact h
  | rz c f m2 => exact rz_of0 t1 h
  | ok r m2 => exact fun v2 H2 F2 t2 r2 => h v2 H2 F2 (t1.trans0 t2) r2
theorem lcv_ok {K : PySem.W.Frag} {vs : List Nat} {σ : L2.St} {H : Hp} {Q : VK} (h : tE xc K W (fun m => ev cl (.lc t it tc ea vs) m) σ H Q) {Rr : L2.It → Hp → Prop}
    (hq : ∀ g O0 e s ds src J H1, Good K g O0 e s σ H1 → ItR K σ (Ow O0 e σ) H1 J ds src → vs.all (fun i => !isOwn e[i]?) = true → ds.length ≤ LIM → PostE xc K W g O0 e σ H1 Q (match lcL src vs (fun d m => match bind1 m.e t d with
            | some e => evT cl tc ⟨e, m.s⟩
            | none => .bad) (fun m => ev cl ea m) ds [] ⟨clear e vs, s⟩ with
        | .ok acc m2 => .ok (.fl acc) ⟨back m2.e e vs, m2.s⟩
        | _ => .bad) → Rr J H1) : tI xc K W (fun m => evI cl it m) σ H Rr := by
  obtain ⟨g, O0, e, s, G, h⟩ := h
  refine ⟨g, O0, e, s, G, ?_⟩
  show PostI xc K W g O0 e σ H Rr (evI cl it ⟨e, s⟩)
  have h : PostE xc K W g O0 e σ H Q (match evI cl it ⟨e, s⟩ with
    | .ok (ds, src) m1 => if vs.all (fun i => !isOwn m1.e[i]?) = true ∧ ds.length ≤ LIM then match lcL src vs (fun d m => match bind1 m.e t d with
            | some e => evT cl tc ⟨e, m.s⟩
            | none => .bad) (fun m => ev cl ea m) ds [] ⟨clear m1.e vs, m1.s⟩ with
        | .ok acc m2 => .ok (.fl acc) ⟨back m2.e m1.e vs, m2.s⟩
        | _ => .bad
        else .bad
    | .rz c f m1 => .rz c f m1
    | .bad => .bad) := h
  cases hf : evI cl it ⟨e, s⟩ with
  | rz c f m1 => simp only [hf] at h; exact h
  | bad => simp only [hf] at h; exact h
  | ok p m1 =>
    obtain ⟨ds, src⟩ := p
    simp only [hf] at h
    intro J H1 F t1 r
    by_cases z : vs.all (fun i => !isOwn m1.e[i]?) = true ∧ ds.length ≤ LIM
    · rw [if_pos z] at h
      refine hq g O0 m1.e m1.s ds src J H1 (G.step0 t1) r z.1 z.2 ?_
      exact PostE.step0 t1.forget h
    · rw [if_neg z] at h; exact h.elim
theorem de_lc (o : Ok X) (hi : DI X xc W cl tg iter it) (ok : BlkOk X.N X.env.scope scope own) (ht : tgIn (own.map (·.2)) t = true)
    (hg : ∀ (s : Shared) (H : Hp) (C : Addr) (cl : List (Str × Addr)) (fp : List Addr), Ok (X.blk s H scope (compEnvC scope cl C X.env) fp) → DG (X.blk s H scope (compEnvC scope cl C X.env) fp) tg t)
    (hc : ∀ (s : Shared) (H : Hp) (C : Addr) (cx : List (Str × Addr)) (fp : List Addr), Ok (X.blk s H scope (compEnvC scope cx C X.env) fp) → DTs (X.blk s H scope (compEnvC scope cx C X.env) fp) xc (fun _ _ _ _ => False) cl ifs tc)
    (he : ∀ (s : Shared) (H : Hp) (C : Addr) (cx : List (Str × Addr)) (fp : List Addr), Ok (X.blk s H scope (compEnvC scope cx C X.env) fp) → DE (X.blk s H scope (compEnvC scope cx C X.env) fp) xc (fun _ _ _ _ => False) cl elt ea)
    (hs : ∀ x, foldedSetIterable iter X.env x = pure x := by intro _; rfl) :
    DE X xc W cl (.ListComp elt [⟨tg, iter, ifs, 0⟩] scope pos) (.lc t it tc ea (own.map (·.2))) :=
  PEimp (pe_lc (g := tGa X.K (asgT t) fun e d => bind1 e t d) (tt := tT xc X.K (fun _ _ _ _ => False) fun m => evT cl tc m) (te := tE xc X.K (fun _ _ _ _ => False) fun m => ev cl ea m) o.calm o.nd hi ok (fun s H C cx fp => hg s H C cx fp ⟨o.calm, o.nd, o.un, o.gd⟩) (fun s H C cx fp => hc s H C cx fp ⟨o.calm, o.nd, o.un, o.gd⟩) (fun s H C cx fp => he s H C cx fp ⟨o.calm, o.nd, o.un, o.gd⟩) hs) fun σ H Q h =>
    lcv_ok h fun g O0 e s ds src J H1 G r hn hl h D nD => lc_ok G r hn hl ht (fun _ _ _ _ z => z) (fun _ _ _ z => z) (fun _ _ _ z => z) h D nD
end
end PV

/-! PV.19: a comprehension stored; methods that write -/
namespace PV
open PySem PySem.Spec L2

section
variable {X : Cx} {xc : XC} {W : WX} {cl : Nat → List Arg → DS → FRes} {a b c e elt tg iter : Expr} {ifs es : List Expr} {scope : Scope} {own : List (Str × Nat)} {ea : E} {as : Es} {t : Tg} {it : It} {tc : T} {pos spos py p apos cpos : Pos} {i : Nat} {y x : Str}
/-! methods that write one's own list -/
theorem tyV_of {K : PySem.W.Frag} {H : Hp} {p : Addr} {xs : List V} (h : H p = some (.lst xs)) : tyV K "list" (.ref p) H := .inl ⟨rfl, xs, SqL.of h⟩
/-- the slot's list, then the arguments, then the method -/
theorem mut_ok {K : PySem.W.Frag} {o : MOp} {Q : VK} {σ : L2.St} {H : Hp} (ho : o ≠ .upd) (h : tE xc K W (fun m => ev cl (.mut o i as) m) σ H Q) {r : V → List V → Hp → VK → Prop}
    (hr : ∀ g O0 e s H1 F vs rs m p, Good K g O0 e s σ H1 → σ[i]? = some (some (.ref p)) → RVs K g (Ow (plus O0 F) e σ) σ H1 vs F rs → (∀ q ∈ F, ¬ O0 q ∧ ¬ PV.own e σ q) → evs cl as m = .ok rs ⟨e, s⟩ → PostE xc K W g O0 e σ H1 Q (mutD o i rs ⟨e, s⟩) → r (.ref p) vs H1 Q) :
    ∃ v, σ[i]? = some (some v) ∧ tyV K "list" v H ∧ tEs xc K W (fun m => evs cl as m) σ H fun vs H1 => r v vs H1 Q := by
  obtain ⟨g, O0, e, s, G, h⟩ := h
  have h : PostE xc K W g O0 e σ H Q (if mutOk o e[i]? = true then match evs cl as ⟨e, s⟩ with
      | .ok rs m1 => mutD o i rs m1
      | .rz c f m1 => .rz c f m1
      | .bad => .bad
    else .bad) := h
  by_cases z : mutOk o e[i]? = true
  · rw [if_pos z] at h
    obtain ⟨ds, hi⟩ : ∃ ds, e[i]? = some (.ol ds) := by
      cases hs : e[i]? with
      | none => rw [hs] at z; cases o <;> simp_all [mutOk]
      | some sl => rw [hs] at z; cases sl <;> cases o <;> simp_all [mutOk]
    obtain ⟨p, xs, h1, h2, h3, h4, h5⟩ := G.rep.at' i _ hi
    refine ⟨_, h1, tyV_of h3, g, O0, e, s, G, ?_⟩
    show PostEs xc K W g O0 e σ H _ (evs cl as ⟨e, s⟩)
    cases hf : evs cl as ⟨e, s⟩ with
    | rz c f m1 => simp only [hf] at h; exact h
    | bad => simp only [hf] at h; exact h
    | ok rs m1 =>
      simp only [hf] at h
      exact fun vs H1 F t rv => hr g O0 m1.e m1.s H1 F vs rs ⟨e, s⟩ p (G.step0 t) h1 rv (fun q hq => ⟨(t.new q hq).2.1, (t.new q hq).2.2.1⟩) hf (PostE.step0 t.forget h)
  · rw [if_neg z] at h; exact h.elim
/-- the slot's list is written -/
theorem write_ok {K : PySem.W.Frag} {Q : VK} {g : Gd} {O0 : AP} {e : Env} {s : DS} {σ : L2.St} {H : Hp} {p : Addr} {xs ys : List V} {ds ds' : List PyData} {v : V} {d : PyData} (G : Good K g O0 e s σ H) (hi : e[i]? = some (.ol ds)) (hp : σ[i]? = some (some (.ref p))) (hx : H p = some (.lst xs))
    (hl : ys.length ≤ sizeLine) (hs : ShA K (Ow O0 e σ) H ys ds') (hv : Sh K (Ow O0 e σ) H v d) (h : PostE xc K W g O0 e σ H Q (.ok (.v d) ⟨e.set i (.ol ds'), s⟩)) : Q v (upd H p (.lst ys)) := by
  have op : PV.own e σ p := ⟨i, by rw [hi]; rfl, hp⟩
  have oe : ∀ a, PV.own (e.set i (.ol ds')) σ a ↔ PV.own e σ a := fun a => own_eq (s := .ol ds') hi rfl
  have kw : Keep (PV.own e σ) H (upd H p (.lst ys)) := Keep.write hx rfl op
  have go : ∀ {u w}, Sh K (Ow O0 e σ) H u w → Sh K (Ow O0 e σ) (upd H p (.lst ys)) u w := fun q => q.go kw (fun a z => .inr z) fun a z => .inl z
  obtain ⟨n0, _⟩ := G.rep.owned op
  have nk : ¬ DkS g p := fun z => n0 (G.dk0 p z)
  have rep : Rep K g O0 (e.set i (.ol ds')) σ (upd H p (.lst ys)) := G.rep.write hi rfl rfl hp fun _ => ⟨p, ys, hp, n0, upd_same, hl, Paired.imp hs fun _ _ q => go q⟩
  refine h v _ [] ⟨kw.mono fun a z => .inl z, fun a z => (oe a).mp z, (fun _ z => nomatch z), rep.weak fun a z => z.elim id (fun z => nomatch z), ?_⟩ ⟨rfl, (go hv).weak fun a z => ?_⟩
  · exact G.dk.keep kw fun a z q => (G.rep.owned z).1 (G.dk0 a q)
  · rcases z with (z | z) | z
    · exact .inl z
    · exact nomatch z
    · exact .inr ((oe a).mp z)
theorem de_app (hN : X.N[i]? = some x) (hv : Vis X.env.scope x) (ha : DE X xc W cl a ea) (hbase : attributeBase (.Name x p) "append" X.env (eval (.Name x p) X.env) = eval (.Name x p) X.env := by rfl)
    (hfew : ((backTo cpos (starEach [a] X.env)).all (fun x => !x.1) && (backToKw cpos (keywordEach [] X.env)).all (fun x => x.1.isSome)
      && decide (([a] : List Expr).length + ([] : List Keyword).length + (if ([] : List Keyword).isEmpty then 0 else 1) < 30)) = true := by rfl)
    (hline : (apos.endLine == cpos.line) = true := by rfl) (hs : starEach [a] X.env = (false, eval a X.env) :: starEach [] X.env := by rfl) (hplain : (backTo cpos (starEach [] X.env)).any (·.1) = false := by rfl)
    (hd : (x == ("__debug__" : Str)) = false := by decide) (hcd : (x == ("__classdict__" : Str)) = false := by decide) :
    DE X xc W cl (.Call (.Attribute (.Name x p) "append" apos) [a] [] cpos) (.mut .app i (.cons ea .nil)) :=
  PEimp (pe_bm PySem.F.plainAttrs_list PySem.F.slot_list_append PySem.F.type_list_append mt_append (pe_var hN hv hd hcd) (da_cons ha da_nil hs) hbase hfew hline hs hplain) fun σ H Q h =>
    mut_ok (o := .app) (fun z => nomatch z) h (r := rAppend) fun g O0 e s H1 F vs rs m p G hp rv hn hf h => by
      have hl := evs_len _ _ _ _ hf
      match rs, hl, rv, h with
      | [r], _, rv, h =>
        obtain ⟨v, rfl, q⟩ := rvs1 rv
        have h : PostE xc X.K W g O0 e σ H1 Q (match esc e r with
          | some (d, e) => match e[i]? with
            | some (.ol ds) => if ds.length < LIM then .ok (.v .none) ⟨e.set i (.ol (ds ++ [d])), s⟩ else .bad
            | _ => .bad
          | none => .bad) := h
        cases he : esc e r with
        | none => simp only [he] at h; exact h.elim
        | some q2 =>
          obtain ⟨d, e'⟩ := q2
          simp only [he] at h
          obtain ⟨r2, o2, s2⟩ := esc_ok G.rep q hn he
          cases hi : e'[i]? with
          | none => simp only [hi] at h; exact h.elim
          | some sl =>
            cases sl with
            | ol ds =>
              simp only [hi] at h
              by_cases z : ds.length < LIM
              · rw [if_pos z] at h
                obtain ⟨p', xs, h1, h2, h3, h4, h5⟩ := r2.at' i _ hi
                rw [hp] at h1; cases h1
                have G2 : Good X.K g O0 e' s σ H1 := ⟨G.dk0, G.oe, r2, G.dk, G.ob⟩
                have xl : xs.length < sizeLine := by rw [Paired.len h5, ← LIM_eq]; exact z
                refine ⟨p, xs, v, rfl, rfl, h3, xl, write_ok G2 hi hp h3 (by simp; omega) (Paired.app h5 (.cons s2 .nil)) (sh_none.mpr rfl) (PostE.step0 (stp_esc G r2 o2) h)⟩
              · rw [if_neg z] at h; exact h.elim
            | un => simp only [hi] at h; exact h.elim
            | ex a f => simp only [hi] at h; exact h.elim
            | sh d => simp only [hi] at h; exact h.elim
            | od t k => simp only [hi] at h; exact h.elim
            | dk => simp only [hi] at h; exact h.elim
end
end PV

/-! PV.20: t[::-1] -/
namespace PVR
open PySem PySem.Spec PyProof.Rows HT PySem.SeqAt PySem.MeetsSeq PySem.MeetsSeq2 PySem.MeetsSeq3
section
variable {prog : Program} {w : World} {A : Around} {E : Value → Shared → Prop} {s : Shared}
theorem places_back (n : Nat) : Builtin.Slice.slicePlaces ((n : Int) - 1) (-1) (-1) = n := by
  unfold Builtin.Slice.slicePlaces
  rw [if_neg (by decide)]
  by_cases h : ((n : Int) - 1) > -1
  · rw [if_pos h]
    have : ((n : Int) - 1 - -1 - 1) / (- -1) + 1 = n := by
      rw [show (- -1 : Int) = 1 by decide, Int.ediv_one]; omega
    rw [this]; rfl
  · rw [if_neg h]
    show (0 : Int).toNat = n
    have : (n : Int) = 0 := by omega
    simp; omega
theorem back_pick (xs : Array Value) : ((List.range xs.size).filterMap fun (k : Nat) => xs[((xs.size : Int) - 1 + (k : Int) * (-1)).toNat]?).toArray = xs.toList.reverse.toArray := by
  congr 1
  have e : (fun (k : Nat) => xs[((xs.size : Int) - 1 + (k : Int) * (-1)).toNat]?) = (fun k => xs[k]?) ∘ fun k => xs.size - 1 - k := by
    funext k
    have : ((xs.size : Int) - 1 + (k : Int) * (-1)).toNat = xs.size - 1 - k := by omega
    show _ = xs[xs.size - 1 - k]?
    rw [this]
  rw [e, ← List.filterMap_map, PySem.W.krv_range, List.filterMap_reverse]
  exact congrArg List.reverse (PySem.W.krv_all xs)
theorem applied_back {sl : Addr} {n : Nat} {vl vu vk : Value} {R : Int × Int × Nat → Shared → Prop} (hs : s.heap.IsSliceOf sl vl vu vk) (pl : IsPart vl none) (pu : IsPart vu none) (pk : IsPart vk (some (-1))) (hR : R ((n : Int) - 1, -1, n) s) :
    wpAny (model prog w) A (Builtin.Slice.sliceApplied (.ref sl) (pure (n : Int))) R E s := by
  obtain ⟨os, hos, hcs, hds⟩ := id hs
  unfold Builtin.Slice.sliceApplied Builtin.Slice.sliceFields
  refine wpAny_bind (wpAny_bind (wpAny_field hos hds (x := vl) rfl (wpAny_bind (wpAny_field hos hds (x := vu) rfl (wpAny_bind (wpAny_field hos hds (x := vk) rfl (wpAny_pure ?_)))))))
  refine wpAny_bind (slicePart_ pk ?_)
  show wpAny _ _ (if ((-1 : Int) == 0) = true then _ else _) _ _ s
  rw [if_neg (by decide)]
  refine wpAny_bind (slicePart_ pl (wpAny_bind (slicePart_ pu (wpAny_bind (wpAny_pure ?_)))))
  show wpAny _ _ (pure ((n : Int) - 1, (-1 : Int), Builtin.Slice.slicePlaces ((n : Int) - 1) (-1) (-1))) _ _ s
  rw [places_back]
  exact wpAny_pure hR
theorem item_back {t sl : Addr} {items : Array Value} {vl vu vk : Value} {Q : Value → Shared → Prop} (ht : IsTup s.heap t items) (hs : s.heap.IsSliceOf sl vl vu vk) (pl : IsPart vl none) (pu : IsPart vu none) (pk : IsPart vk (some (-1)))
    (h : Q (.ref s.heap.objs.size) { s with heap := s.heap.push { cls := .type "tuple", data := .seq items.toList.reverse.toArray } }) (hsz : items.size ≤ sizeLine) : wpAny (model prog w) A (getItem (.ref t) (.ref sl)) Q E s := by
  have hfit : sizeOk (.seq items.toList.reverse.toArray) := by
    show items.toList.reverse.toArray.size ≤ sizeLine
    simpa using hsz
  obtain ⟨os, hos, hcs, hds⟩ := id hs
  have hTs : s.TypeIs (.ref sl) "slice" := ⟨os, hos, hcs⟩
  unfold getItem
  try with_reducible refine wpAny_holding ?_
  first | refine wpAny_bind (wpAny_pure ?_) | skip
  refine wpAny_bind (wpAny_sequenceKey ht.typeIs (by decide) ?_)
  refine wpAny_bind (wpAny_callSpecial?_slot (name := Str.ofString "__getitem__") ht.typeIs PyProof.Rows.slot_tuple_getitem
    (wpAny_call_entry PyProof.Rows.slot_tuple_getitem ht.typeIs entry_tuple_getitem ?_ (args_tuple_getitem _ _)))
  show wpAny _ _ (Builtin.Tuple.tupleItemsOf (.ref t) >>= _) _ _ s
  refine wpAny_bind (tupleItemsOf_ ht (wpAny_bind (wpAny_typeOf hTs ?_)))
  rw [if_pos (by decide)]
  refine wpAny_bind (applied_back hs pl pu pk ?_)
  show wpAny _ _ (if ((((items.size : Int) - 1) == 0 && (-1 : Int) == 1) && items.size == items.size) = true then _ else _) _ _ s
  rw [if_neg (by simp), back_pick]
  first
    | exact wpAny_bind (m := Builtin.Tuple.tupleExact _) (wpAny_newObj_type (wpAny_pure ⟨_, rfl, wpAny_pure h⟩) hfit)
    | exact wpAny_bind (m := Builtin.Tuple.tupleExact _) (wpAny_newObj_type (wpAny_bind (wpAny_pure (wpAny_pure ⟨_, rfl, wpAny_pure h⟩))) hfit)
    | exact wpAny_bind (wpAny_bind (m := Builtin.Tuple.tupleExact _) (wpAny_newObj_type (wpAny_pure (wpAny_pure ⟨_, rfl, wpAny_pure h⟩)) hfit))
    | exact wpAny_bind (wpAny_bind (m := Builtin.Tuple.tupleExact _) (wpAny_newObj_type (wpAny_pure ⟨_, rfl, wpAny_pure h⟩) hfit))
end
end PVR
namespace PV
open PySem PySem.Spec PyProof.Rows L2
section
variable {X : Cx} {xc : XC} {W : WX} {cl : Nat → List Arg → DS → FRes}
def tRev (K : PySem.W.Frag) (te : TE) : TE := fun σ H Q => te σ H fun x H1 => ∃ a xs, x = .ref a ∧ ((SqL K H1 a xs ∧ ∀ p, H1 p = none → Q (.ref p) (upd H1 p (.lst xs.reverse))) ∨ (SqT K H1 a xs ∧ ∀ p, H1 p = none → Q (.ref p) (upd H1 p (.tup xs.reverse))))
theorem pe_rev {e : Expr} {te : TE} {k : Nat} {p1 p2 p3 pos : Pos} (he : PE X e te) : PE X (.Subscript e (.Slice none none (some (.UnaryOp .USub (.Constant (.int 1) k p1) p2)) p3) pos) (tRev X.K te) := by
  refine ⟨fun pins s σ H Q I h => Subscript_ (thn (he.run pins s σ H _ I h) fun v s1 ⟨x, H1, I1, r1, q1⟩ => ?_)⟩
  obtain ⟨a, xs, rfl, q⟩ := q1
  cases r1
  have hst : PO X (some (.UnaryOp .USub (.Constant (.int 1) k p1) p2)) (tPart (tUn (rU fun i => .int (-i)) (tC (.int 1)))) := po_some (pe_un un_neg pe_int)
  refine wpAny_Slice (thn (po_none.run pins s1 σ H1 (fun o H2 => o = none ∧ H2 = H1) I1 ⟨rfl, rfl⟩) fun vl s2 ⟨l, H2, I2, pl, el, e2⟩ => ?_)
  subst el e2
  refine thn (po_none.run pins s2 σ H2 (fun o H3 => o = none ∧ H3 = H2) I2 ⟨rfl, rfl⟩) fun vu s3 ⟨u, H3, I3, pu, eu, e3⟩ => ?_
  subst eu e3
  refine thn (hst.run pins s3 σ H3 (fun o H4 => o = some (-1) ∧ H4 = H3) I3 ⟨1, rfl, -1, rfl, rfl, rfl⟩) fun vs s4 ⟨o, H4, I4, ps, eo, e4⟩ => ?_
  subst eo e4
  have I5 : Inv X pins σ H4 { s4 with heap := s4.heap.push { cls := .type "slice", data := .fields #[vl, vu, vs] } } := I4.kept (t' := s4.toks) fun b ob q => Heap.get?_push_of_some _ q
  show wpAny (model X.prog X.w) X.A (subscriptTail e (.Slice none none (some (.UnaryOp .USub (.Constant (.int 1) k p1) p2)) p3) (.ref a) (.ref s4.heap.objs.size)) (EP X pins σ Q) X.xe { s4 with heap := s4.heap.push { cls := .type "slice", data := .fields #[vl, vu, vs] } }
  rcases q with ⟨hx, q⟩ | ⟨hx, q⟩
  · obtain ⟨its, r, ht, hz⟩ := I5.list hx
    have hlen := r.length
    refine tail_any (ops := [.ref a, .ref s4.heap.objs.size]) ht.isList.typeIs (PySem.slot_list_getitem.lookup) ?_ (by with_unfolding_all rfl)
    refine wpAny_getItem_list_slice ht.isList (Heap.IsSliceOf.new _ vl vu vs) pl pu ps (by decide) ?_ (by rw [List.size_toArray]; omega)
    rw [PySem.W.krv_pick]
    exact ⟨.ref _, _, I5.laid (t' := s4.toks) (o := .lst xs.reverse) (fun b ob q => Heap.get?_push_of_some _ q) (Nat.le_refl _) ⟨by rw [List.length_reverse]; exact hz, _, 0, r.reverse, Heap.get?_push_size _ rfl⟩, rfl, q _ (I5.hok.fresh (Nat.le_refl _))⟩
  · obtain ⟨its, r, ht, hz⟩ := I5.tuple hx
    have hlen := r.length
    refine tail_any (ops := [.ref a, .ref s4.heap.objs.size]) ht.typeIs PyProof.Rows.slot_tuple_getitem.lookup ?_ (by with_unfolding_all rfl)
    refine PVR.item_back ht (Heap.IsSliceOf.new _ vl vu vs) pl pu ps ?_ (by rw [List.size_toArray]; omega)
    exact ⟨.ref _, _, I5.laid (t' := s4.toks) (o := .tup xs.reverse) (fun b ob q => Heap.get?_push_of_some _ q) (Nat.le_refl _) ⟨by rw [List.length_reverse]; exact hz, _, r.reverse, IsTup.new _ _⟩, rfl, q _ (I5.hok.fresh (Nat.le_refl _))⟩
theorem v_rev {K : PySem.W.Frag} : OpV K (V1 fun x H1 Q => ∃ a xs, x = .ref a ∧ ((SqL K H1 a xs ∧ ∀ p, H1 p = none → Q (.ref p) (upd H1 p (.lst xs.reverse))) ∨ (SqT K H1 a xs ∧ ∀ p, H1 p = none → Q (.ref p) (upd H1 p (.tup xs.reverse))))) revD := by
  intro O H vs ds z Q hp hz hQ
  unfold revD at hz
  split at hz
  · obtain ⟨x, rfl, h1⟩ := p1 hp
    cases hz
    obtain ⟨a, xs, rfl, l, hl, q⟩ := t_list h1
    exact ⟨_, rfl, a, xs, rfl, .inl ⟨SqL.of l, fin_l hQ (by rw [List.length_reverse]; exact hl) (Paired.rv q)⟩⟩
  · obtain ⟨x, rfl, h1⟩ := p1 hp
    cases hz
    obtain ⟨a, xs, rfl, l, hl, q⟩ := t_tup h1
    exact ⟨_, rfl, a, xs, rfl, .inr ⟨l, fin_t hQ (by rw [List.length_reverse]; exact hl) (Paired.rv q)⟩⟩
  · cases hz
theorem de_rev {a : Expr} {ea : E} {k : Nat} {p1 p2 p3 pos : Pos} (ha : DE X xc W cl a ea) : DE X xc W cl (.Subscript a (.Slice none none (some (.UnaryOp .USub (.Constant (.int 1) k p1) p2)) p3) pos) (.op .rev (.cons ea .nil)) :=
  PEimp (pe_rev ha) fun σ H Q h => (one_ok ((OpE.of v_rev).use h)).mono fun x H1 h => by
    obtain ⟨x', e, h⟩ := h
    cases e; exact h
end
end PV

/-! PV.20r: shown data is read, dicts of plain keys too -/
namespace PV
open PySem PySem.Spec PyProof.Rows L2
/-- an address that is sysModules' one holds a list -/
def NSy (h : Heap) (as : List Addr) : Prop := ∀ a ∈ as, a = sysModules → ∃ o, h.get? a = some o ∧ o.cls = .type "list"
theorem NSy.app {h : Heap} {as bs : List Addr} (x : NSy h as) (y : NSy h bs) : NSy h (as ++ bs) := fun a m e => (List.mem_append.mp m).elim (fun m => x a m e) fun m => y a m e
theorem NSy.cons {h : Heap} {as : List Addr} {a : Addr} (x : a = sysModules → ∃ o, h.get? a = some o ∧ o.cls = .type "list") (y : NSy h as) : NSy h (a :: as) := fun b m e => by
  rcases List.mem_cons.mp m with rfl | m
  · exact x e
  · exact y b m e
theorem NSy.nil {h : Heap} : NSy h [] := fun _ m => nomatch m
theorem NSy.l {h : Heap} {as bs : List Addr} (x : NSy h (as ++ bs)) : NSy h as := fun a m => x a (List.mem_append_left _ m)
theorem NSy.r {h : Heap} {as bs : List Addr} (x : NSy h (as ++ bs)) : NSy h bs := fun a m => x a (List.mem_append_right _ m)
theorem reads_pairs {X : Cx} {h : Heap} : ∀ {es : List DictEntry} {vs : List (Key × Value)} {ks : List (Key × V)} {kvs : List (PyData × PyData)} (R : V → PyData → Prop),
    Pairs (mixKind X.prog X.w) es vs → KV ks vs → Paired (fun p q => q.1 = keyD p.1 ∧ R p.2 q.2) ks kvs → (∀ x d v, R x d → rok d = true → RelV x v → ∃ as, Reads h v d as ∧ NSy h as) → rokK kvs = true →
    ∃ as bs, ReadsAll h (es.map (·.key)) (kvs.map (·.1)) as ∧ ReadsAll h (es.map (·.val)) (kvs.map (·.2)) bs ∧ NSy h as ∧ NSy h bs := by
  intro es vs ks kvs R hp
  induction hp generalizing ks kvs with
  | nil =>
    intro hk hq hr ho
    cases hk
    cases hq
    exact ⟨[], [], .nil, .nil, .nil, .nil⟩
  | @cons e kv es vs h1 h2 _ ih =>
    intro hk hq hr ho
    cases hk with
    | cons r1 hk =>
      cases hq with
      | cons q1 hq =>
        rename_i p ks q kvs
        have ho' : (keyOk false q.1 = true ∧ rok q.2 = true) ∧ rokK kvs = true := by simpa [rokK] using ho
        obtain ⟨as, bs, c1, c2, c3, c4⟩ := ih hk hq hr ho'.2
        obtain ⟨a2, d1, d2⟩ := hr _ _ _ q1.2 ho'.1.2 r1.2
        have key : Reads h e.key q.1 [] := by
          rw [q1.1]
          have h1 : keyIs kv.1 e.key = true := h1
          rw [← r1.1] at h1
          rcases keyIs_shape h1 with ⟨i, t, e1, e2⟩ | ⟨x, t, e1, e2⟩
          · rw [e1, e2]; exact .int i t
          · rw [e1, e2]; exact .str x t
        refine ⟨[] ++ as, a2 ++ bs, .cons key c1, ?_, by simpa using c3, d2.app c4⟩
        refine .cons ?_ c2
        show Reads h e.val q.2 a2
        rw [h2]; exact d1
theorem reads_all {h : Heap} {R : V → PyData → Prop} : ∀ {xs : List V} {ds : List PyData} {its : List Value}, Paired R xs ds → Vals xs its → (∀ x d v, R x d → rok d = true → RelV x v → ∃ as, Reads h v d as ∧ NSy h as) → rokA ds = true →
    ∃ as, ReadsAll h its ds as ∧ NSy h as := by
  intro xs ds its hp
  induction hp generalizing its with
  | nil =>
    intro hv _ _
    cases hv
    exact ⟨[], .nil, .nil⟩
  | cons r _ ih =>
    intro hv hr ho
    cases hv with
    | cons r1 hv =>
      rename_i d ds _ _ _ _
      have ho' := ho
      simp only [rokA, Bool.and_eq_true] at ho'
      obtain ⟨as, c1, c2⟩ := ih hv hr ho'.2
      obtain ⟨a2, d1, d2⟩ := hr _ _ _ r ho'.1 r1
      exact ⟨a2 ++ as, .cons d1 c1, d2.app c2⟩
theorem reads_sh {X : Cx} {pins : List (Addr × Obj)} {σ : L2.St} {H : Hp} {s : Shared} {O : AP} (I : Inv X pins σ H s) : ∀ (n : Nat) (x : V) (d : PyData) (v : Value), ShN X.K O H n x d → rok d = true → RelV x v → ∃ as, Reads s.heap v d as ∧ NSy s.heap as
  | 0, _, _, _, h, _, _ => h.elim
  | n + 1, x, d, v, h, ho, r => by
    have ih := fun x d v => reads_sh (O := O) I n x d v
    cases d with
    | none => cases (show x = .non from h); cases r; exact ⟨[], .none, .nil⟩
    | bool b => cases (show x = .bl b from h); cases r; exact ⟨[], .bool b, .nil⟩
    | int i => cases (show x = .int i from h); obtain ⟨t, rfl⟩ := r; exact ⟨[], .int i t, .nil⟩
    | str i => cases (show x = .str i from h); obtain ⟨t, rfl⟩ := r; exact ⟨[], .str i t, .nil⟩
    | list ds =>
      obtain ⟨a, xs, rfl, l, z, p⟩ := h
      cases r
      obtain ⟨_, its, m, rv, e⟩ := (show ObjOk X.prog X.w H s.heap a (.lst xs) from I.hok a _ l.2)
      obtain ⟨as, c1, c2⟩ := reads_all p rv ih (by simpa [rok] using ho)
      exact ⟨a :: as, .list e rfl rfl (by simpa using c1), .cons (fun _ => ⟨_, e, rfl⟩) c2⟩
    | tuple ds =>
      obtain ⟨a, xs, rfl, l, z, p⟩ := h
      cases r
      obtain ⟨its, rv, ⟨o, e1, e2, m, e3⟩, _⟩ := I.tuple (SqT.of l)
      obtain ⟨as, c1, c2⟩ := reads_all p rv ih (by simpa [rok] using ho)
      exact ⟨as, .tuple e1 e2 e3 (by simpa using c1), c2⟩
    | dict kvs =>
      obtain ⟨a, rfl, _, h⟩ := h
      cases r
      rcases h with ⟨ks, e, p⟩ | ⟨ks, e, p⟩
      · obtain ⟨_, hs, vs, kv, o, es, ep, e1, e2, e3, _, e5, _⟩ := dk_of I.hok e
        obtain ⟨as, bs, c1, c2, c3, c4⟩ := reads_pairs (X := X) (h := s.heap) _ e5 kv p ih (by simpa [rok] using ho)
        refine ⟨a :: as ++ bs, .dict e1 e2.1 e3 c1 c2, NSy.app (.cons (fun q => ?_) c3) c4⟩
        rw [q] at hs; simp at hs
      · -- a key that is a tuple is not plain
        cases p with
        | nil =>
          obtain ⟨_, hs, vs, kv, o, es, ep, e1, e2, e3, e4, _⟩ := dt_of I.hok e
          cases kv
          refine ⟨a :: [] ++ [], .dict e1 e2.1 e3 (kvs := []) (by rw [e4]; exact .nil) (by rw [e4]; exact .nil), NSy.app (.cons (fun q => ?_) .nil) .nil⟩
          rw [q] at hs; simp at hs
        | cons q _ =>
          rename_i q' ks' kvs' _
          have ho' : (keyOk false q'.1 = true ∧ rok q'.2 = true) ∧ rokK kvs' = true := by simpa [rok, rokK] using ho
          have := ho'.1.1
          rw [q.1] at this
          simp [keyT, keyOk, toKey] at this

/-! from the reading to the text -/
section
variable {prog : Program} {w : World} {h : Heap}
theorem nsy_dict {a : Addr} {o : Obj} {as : List Addr} (n : NSy h (a :: as)) (e : h.get? a = some o) (c : o.cls = .type "dict") : (a == sysModules) = false := beq_eq_false_iff_ne.mpr fun q => by
  obtain ⟨o', e', c'⟩ := n a List.mem_cons_self q
  rw [e] at e'; cases e'
  rw [c] at c'; exact absurd c' (by decide)
theorem nsy_tl {a : Addr} {as : List Addr} (n : NSy h (a :: as)) : NSy h as := fun b m => n b (List.mem_cons_of_mem _ m)
mutual
theorem rk1 : ∀ {v : Value} {d : PyData} {as : List Addr}, Reads h v d as → d.showable = true → NSy h as → d.shown.length ≤ sizeLine → ∃ bs, ReadAtMost h d.depth bs ∧ ReprK prog w bs h d.depth v d.shown
  | _, _, _, .none, _, _, _ => by
    refine ⟨[], (fun _ m => nomatch m), ?_⟩
    simp only [PyData.shown]; exact .of_is ReprIs.none _ _ _
  | _, _, _, .bool b, _, _, _ => by
    refine ⟨[], (fun _ m => nomatch m), ?_⟩
    simp only [PyData.shown]; exact .of_is (ReprIs.bool b) _ _ _
  | _, _, _, .int i t, hs, _, _ => by
    refine ⟨[], (fun _ m => nomatch m), ?_⟩
    simp only [PyData.shown]; exact .of_is (ReprIs.int t (by simpa [PyData.showable] using hs)) _ _ _
  | _, _, _, .str x t, _, _, hz => by
    refine ⟨[], (fun _ m => nomatch m), ?_⟩
    simp only [PyData.shown]; exact .of_is (ReprIs.str x t (by simpa only [PyData.shown] using hz)) _ _ _
  | _, _, _, .list (a := a) (vs := vs) (xs := xs) e1 e2 e3 e4, hs, ns, hz => by
    have z : (listText (PyData.shownAll xs)).length ≤ sizeLine := by simpa only [PyData.shown] using hz
    obtain ⟨bs, m, k⟩ := rkA e4 (by simpa [PyData.showable] using hs) (nsy_tl ns) fun t ht => Nat.le_trans (listText_mem_le ht) z
    have rd : Reads h (.ref a) (.list xs) _ := .list e1 e2 e3 e4
    have na : a ∉ bs := not_mem_of_deeper rd (by simp only [PyData.depth]; omega) m
    refine ⟨a :: bs, .cons rd (by simp only [PyData.depth]; omega) m, ?_⟩
    simp only [PyData.depth, PyData.shown]
    obtain ⟨l⟩ := vs
    cases l with
    | nil =>
      have e4' : ReadsAll h [] xs _ := e4
      cases e4'
      simp only [PyData.shownAll, listText_nil]; exact .listEmpty e1 e2 e3
    | cons x l => exact .list e1 e2 e3 na (by simpa using k.length_eq) fun i y q => k.item i y (by simpa using q)
  | _, _, _, .tuple (a := a) (xs := xs) e1 e2 e3 e4, hs, ns, hz => by
    have z : (tupleText (PyData.shownAll xs)).length ≤ sizeLine := by simpa only [PyData.shown] using hz
    obtain ⟨bs, m, k⟩ := rkA e4 (by simpa [PyData.showable] using hs) ns fun t ht => Nat.le_trans (tupleText_mem_le ht) z
    have rd : Reads h (.ref a) (.tuple xs) _ := .tuple e1 e2 e3 e4
    refine ⟨a :: bs, .cons rd (by simp only [PyData.depth]; omega) m, ?_⟩
    simp only [PyData.depth, PyData.shown]
    exact .tuple e1 e2 e3 (not_mem_of_deeper rd (by simp only [PyData.depth]; omega) m) k
  | _, _, _, .dict (a := a) (es := es) (kvs := kvs) (as := p) (bs := q) e1 e2 e3 e4 e5, hs, ns, hz => by
    have z : (dictText (PyData.shownKv kvs)).length ≤ sizeLine := by simpa only [PyData.shown] using hz
    obtain ⟨s1, s2⟩ := PyData.showableKv_split kvs (by simpa [PyData.showable] using hs)
    obtain ⟨b1, m1, k1⟩ := rkA e4 s1 (nsy_tl ns).l fun t ht => by
      obtain ⟨u, hu, hl⟩ := PyData.shownKv_key_le kvs t ht
      exact Nat.le_trans hl (Nat.le_trans (dictText_mem_le hu) z)
    obtain ⟨b2, m2, k2⟩ := rkA e5 s2 (nsy_tl ns).r fun t ht => by
      obtain ⟨u, hu, hl⟩ := PyData.shownKv_val_le kvs t ht
      exact Nat.le_trans hl (Nat.le_trans (dictText_mem_le hu) z)
    have rd : Reads h (.ref a) (.dict kvs) _ := .dict e1 e2 e3 e4 e5
    have m : ReadAtMost h (PyData.depthKv kvs) (b1 ++ b2) := .append (m1.mono (PyData.depthAll_keys_le kvs)) (m2.mono (PyData.depthAll_vals_le kvs))
    refine ⟨a :: (b1 ++ b2), .cons rd (by simp only [PyData.depth]; omega) m, ?_⟩
    simp only [PyData.depth, PyData.shown, PyData.shownKv_eq]
    exact .dict e1 e2 e3 (nsy_dict ns e1 e2) (not_mem_of_deeper rd (by simp only [PyData.depth]; omega) m) (.of_two _ _ _ (k1.more_le (fun b => List.mem_append_left _) (PyData.depthAll_keys_le kvs)) (k2.more_le (fun b => List.mem_append_right _) (PyData.depthAll_vals_le kvs)))
theorem rkA : ∀ {vs : List Value} {ds : List PyData} {as : List Addr}, ReadsAll h vs ds as → PyData.showableAll ds = true → NSy h as → (∀ t ∈ PyData.shownAll ds, t.length ≤ sizeLine) → ∃ bs, ReadAtMost h (PyData.depthAll ds) bs ∧ ReprAllK prog w bs h (PyData.depthAll ds) vs (PyData.shownAll ds)
  | _, _, _, .nil, _, _, _ => by
    refine ⟨[], (fun _ m => nomatch m), ?_⟩
    simp only [PyData.shownAll]; exact .nil
  | _, _, _, .cons (d := d) (ds := ds) r rs, hs, ns, hz => by
    have s2 : d.showable = true ∧ PyData.showableAll ds = true := by simpa [PyData.showableAll] using hs
    obtain ⟨b1, m1, k1⟩ := rk1 r s2.1 ns.l (hz _ (by simp only [PyData.shownAll]; exact List.mem_cons_self))
    obtain ⟨b2, m2, k2⟩ := rkA rs s2.2 ns.r fun t ht => hz t (by simp only [PyData.shownAll]; exact List.mem_cons_of_mem _ ht)
    refine ⟨b1 ++ b2, ?_, ?_⟩
    · simp only [PyData.depthAll]
      exact .append (m1.mono (Nat.le_max_left _ _)) (m2.mono (Nat.le_max_right _ _))
    · simp only [PyData.depthAll, PyData.shownAll]
      exact .cons ((k1.more fun b => List.mem_append_left _).level_le (Nat.le_max_left _ _)) (k2.more_le (fun b => List.mem_append_right _) (Nat.le_max_right _ _))
end
variable {A : Around} {E : Value → Shared → Prop} {s : Shared} {Q : Value → Shared → Prop}
/-- repr of what is read -/
theorem repr_rd {a : Addr} {d : PyData} {as : List Addr} (r : Reads h (.ref a) d as) (hs : d.showable = true) (ns : NSy h as) (hg : A.guards = some []) (hu : A.units + (d.depth + 1) < cLine) (hk : ∀ b o, h.get? b = some o → s.heap.get? b = some o)
    (hQ : ∀ h' u tk, (∀ b o, s.heap.get? b = some o → h'.get? b = some o) → Q (.str d.shown u) { s with heap := h', toks := tk }) (hz : d.shown.length ≤ sizeLine) : wpAny (model prog w) A (call (.builtin "repr") [.ref a]) Q E s := by
  have un : A.in1.units = A.units + 1 := rfl
  have go : ∀ {T idr : String}, s.TypeIs (.ref a) T → SlotG T "__repr__" idr → wpAny (model prog w) A.in1 (call (.builtin idr) [.ref a]) (fun v s' => ∃ y u, v = .str y u ∧ Q v s') E s → wpAny (model prog w) A (call (.builtin "repr") [.ref a]) Q E s := fun ty sl c =>
    call_repr_slot (by omega) ty sl (wpAny_mono c (fun v s' ⟨y, u, e, q⟩ => ⟨y, u, e, e ▸ q⟩) fun _ _ x => x)
  cases r with
  | list e1 e2 e3 e4 =>
    rename_i o vs n xs bs
    have z : (listText (PyData.shownAll xs)).length ≤ sizeLine := by simpa only [PyData.shown] using hz
    obtain ⟨bs, m, k⟩ := rkA (prog := prog) (w := w) e4 (by simpa [PyData.showable] using hs) (nsy_tl ns) fun t ht => Nat.le_trans (listText_mem_le ht) z
    have na : a ∉ bs := not_mem_of_deeper (.list e1 e2 e3 e4) (by simp only [PyData.depth]; omega) m
    simp only [PyData.depth] at hu
    simp only [PyData.shown] at hQ
    refine go ⟨o, hk _ _ e1, e2⟩ F.slot_list_repr.toG ?_
    obtain ⟨l⟩ := vs
    cases l with
    | nil =>
      have e4' : ReadsAll h [] xs _ := e4
      cases e4'
      simp only [PyData.shownAll, listText_nil] at hQ
      exact call_list_repr_empty ⟨o, hk _ _ e1, e2⟩ (hk _ _ e1) e3 ⟨_, _, rfl, hQ s.heap _ _ fun _ _ q => q⟩
    | cons x l => exact call_list_reprK e1 e2 e3 na (by simpa using k.length_eq) (fun i y q => k.item i y (by simpa using q)) hg (fun b _ => Clear.nil b) (by omega) hk (fun h' u tk q => ⟨_, _, rfl, hQ h' u tk q⟩) z
  | tuple e1 e2 e3 e4 =>
    rename_i o vs n xs
    have z : (tupleText (PyData.shownAll xs)).length ≤ sizeLine := by simpa only [PyData.shown] using hz
    obtain ⟨bs, m, k⟩ := rkA (prog := prog) (w := w) e4 (by simpa [PyData.showable] using hs) ns fun t ht => Nat.le_trans (tupleText_mem_le ht) z
    have na : a ∉ bs := not_mem_of_deeper (.tuple e1 e2 e3 e4) (by simp only [PyData.depth]; omega) m
    simp only [PyData.depth] at hu
    simp only [PyData.shown] at hQ
    exact go ⟨o, hk _ _ e1, e2⟩ F.slot_tuple_repr (call_tuple_reprK e1 e2 e3 na k hg (fun b _ => Clear.nil b) (by omega) hk (fun h' u tk q => ⟨_, _, rfl, hQ h' u tk q⟩) z)
  | dict e1 e2 e3 e4 e5 =>
    rename_i o es n kvs p q
    have z : (dictText (PyData.shownKv kvs)).length ≤ sizeLine := by simpa only [PyData.shown] using hz
    obtain ⟨s1, s2⟩ := PyData.showableKv_split kvs (by simpa [PyData.showable] using hs)
    obtain ⟨b1, m1, k1⟩ := rkA (prog := prog) (w := w) e4 s1 (nsy_tl ns).l fun t ht => by
      obtain ⟨u, hu, hl⟩ := PyData.shownKv_key_le kvs t ht
      exact Nat.le_trans hl (Nat.le_trans (dictText_mem_le hu) z)
    obtain ⟨b2, m2, k2⟩ := rkA (prog := prog) (w := w) e5 s2 (nsy_tl ns).r fun t ht => by
      obtain ⟨u, hu, hl⟩ := PyData.shownKv_val_le kvs t ht
      exact Nat.le_trans hl (Nat.le_trans (dictText_mem_le hu) z)
    have m : ReadAtMost h (PyData.depthKv kvs) (b1 ++ b2) := .append (m1.mono (PyData.depthAll_keys_le kvs)) (m2.mono (PyData.depthAll_vals_le kvs))
    have na : a ∉ b1 ++ b2 := not_mem_of_deeper (.dict e1 e2 e3 e4 e5) (by simp only [PyData.depth]; omega) m
    simp only [PyData.depth] at hu
    simp only [PyData.shown, PyData.shownKv_eq] at hQ
    exact go ⟨o, hk _ _ e1, e2⟩ F.slot_dict_repr (call_dict_reprK e1 e2 e3 (nsy_dict ns e1 e2) na (.of_two _ _ _ (k1.more_le (fun b => List.mem_append_left _) (PyData.depthAll_keys_le kvs)) (k2.more_le (fun b => List.mem_append_right _) (PyData.depthAll_vals_le kvs)))
      hg (fun b _ => Clear.nil b) (by omega) hk (fun h' u tk q => ⟨_, _, rfl, hQ h' u tk q⟩) (by rw [← PyData.shownKv_eq]; exact z))
end
end PV

/-! PV.21: repr -/
namespace PV
open PySem PySem.Spec PyProof.Rows L2
mutual
theorem rok_nod : ∀ d : PyData, nod d = true → rok d = true
  | .none, _ => rfl
  | .bool _, _ => rfl
  | .int _, _ => rfl
  | .str _, _ => rfl
  | .list xs, h => by simpa [rok] using rok_nodA xs (by simpa [nod] using h)
  | .tuple xs, h => by simpa [rok] using rok_nodA xs (by simpa [nod] using h)
  | .dict _, h => by simp [nod] at h
theorem rok_nodA : ∀ ds : List PyData, nodA ds = true → rokA ds = true
  | [], _ => rfl
  | d :: ds, h => by
    have h : nod d = true ∧ nodA ds = true := by simpa [nodA] using h
    simp [rokA, rok_nod d h.1, rok_nodA ds h.2]
end
theorem ShT.any {K : PySem.W.Frag} {O : AP} {H : Hp} {v : V} {d : PyData} (h : ShT K O H v d) : Sh K (fun _ => False) H v d := by
  have w : ∀ {v : V} {d : PyData}, Sh K O H v d → Sh K (fun _ => False) H v d := fun h => h.weak fun _ z => z.elim
  cases d with
  | list ds => obtain ⟨a, xs, e, l, z, p⟩ := h; exact sh_list.mpr ⟨a, xs, e, ⟨fun z => z, l⟩, z, Paired.imp p fun _ _ q => w q⟩
  | dict kvs =>
    obtain ⟨a, o, e, ho, p⟩ := h
    refine sh_dict.mpr ⟨a, o, e, fun z => z, ho, ?_⟩
    rcases p with ⟨ks, e, q⟩ | ⟨ks, e, q⟩
    · exact .inl ⟨ks, e, Paired.imp q fun _ _ q => ⟨q.1, w q.2⟩⟩
    · exact .inr ⟨ks, e, Paired.imp q fun _ _ q => ⟨q.1, w q.2⟩⟩
  | none => exact w h
  | bool b => exact w h
  | int i => exact w h
  | str s => exact w h
  | tuple ds => exact w h
def rRepr (K : PySem.W.Frag) : List V → Hp → VK → Prop := fun xs H Q => ∃ x d O n, xs = [x] ∧ ShN K O H n x d ∧ d.showable = true ∧ rok d = true ∧ d.shown.length ≤ sizeLine ∧ d.depth ≤ 60 ∧ Q (.str d.shown) H
theorem call_repr {X : Cx} (un : X.A.units + 65 < cLine) (gd : X.A.guards = some []) : CallR X (.builtin "repr") (rRepr X.K) := by
  intro pins s σ H xs us Q I r h
  obtain ⟨x, d, O, n, rfl, hd, h1, h2, h3, h4, q⟩ := h
  obtain ⟨u, rfl, ru⟩ := vals1 r
  obtain ⟨as, rd, ns⟩ := reads_sh I n x d u hd h2 ru
  have ref : ∀ {a : Addr}, u = .ref a → wpAny (model X.prog X.w) X.A (call (.builtin "repr") [u]) (EP X pins σ Q) X.xe s := fun {a} e => by
    subst e
    exact repr_rd rd h1 ns gd (by omega) (fun b ob e => e) (fun h' u tk k => ⟨.str _, H, I.kept k, ⟨_, rfl⟩, q⟩) h3
  cases rd with
  | none => exact PySem.P.repr_of_none ⟨.str _, H, I.tok _, ⟨_, rfl⟩, q⟩
  | bool b => exact PySem.P.repr_of_bool ⟨.str _, H, I.tok _, ⟨_, rfl⟩, q⟩
  | int i t => exact PySem.P.repr_of_int (by simpa [PyData.showable] using h1) ⟨.str _, H, I.tok _, ⟨_, rfl⟩, q⟩
  | str y t => exact PySem.P.repr_of_str ⟨.str _, H, I.tok _, ⟨_, rfl⟩, q⟩ h3
  | list _ _ _ _ => exact ref rfl
  | tuple _ _ _ _ => exact ref rfl
  | dict _ _ _ _ _ => exact ref rfl
theorem v_repr {K : PySem.W.Frag} : OpV K (rRepr K) reprD := by
  intro O H vs ds z Q hp hz hQ
  unfold reprD at hz
  split at hz
  · obtain ⟨x, rfl, h1⟩ := p1 hp
    split at hz
    · rename_i h
      cases hz
      obtain ⟨n, h1⟩ := h1.any
      exact ⟨x, _, _, n, rfl, h1, h.1, h.2.1, by rw [← LIM_eq]; exact h.2.2.1, h.2.2.2, fin_v hQ (sh_str.mpr rfl)⟩
    · cases hz
  · cases hz
end PV

/-! PV.22: words for a printed walk -/
namespace PV
open PySem PySem.Spec L2

/-- a def of the table -/
structure FnT (P : Program) (w : World) (K : PySem.W.Frag) (mg : Str → Option Value) (base : Heap) (xc : XC) (cl : Nat → List Arg → DS → FRes) (k : Nat) (n : Str) (f np : Nat) : Prop where
  fn : ∃ (fa : Addr) (fd : FuncData) (ps : List Str), FnG P w K mg base (L2.CX P w) k fa fd ps (spF xc K np (cl f)) ∧ mg n = some (.ref fa) ∧ PySem.W.keepIn K (.ref fa) = true ∧ Binds K fd ps []
  ln : ∀ args s, cl f args s ≠ .bad → args.length = np
def WalkB (P : Program) (w : World) (K : PySem.W.Frag) (mg : Str → Option Value) (base : Heap) (N : List Str) (qual : Str) (st : Stmt) (xc : XC) (cl : Nat → List Arg → DS → FRes) (k : Nat) (ib : Ss) : Prop :=
  ∀ (f : Addr) (cdv : Value) (A : Around) (outer : List PySem.Env) (s : Shared) (H : Hp) (E : XK), Bd (CxD P w K mg base N qual st f cdv A outer s H E) (fun c d _ H => E c d H) k → DSs (CxD P w K mg base N qual st f cdv A outer s H E) xc (fun c d _ H => E c d H) cl (defBody st) ib
theorem FnT.walk {P : Program} {w : World} {K : PySem.W.Frag} {mg : Str → Option Value} {base : Heap} {xc : XC} {tb : Nat → Option FSem} {k : Nat} {n n0 qual : Str} {f : Nat} {st : Stmt} {fa : Addr} {fd : FuncData} {N ps : List Str} {ib : Ss}
    (F : Fun K n0 qual st fa fd) (hm : mg n = some (.ref fa)) (hb : Binds K fd ps []) (S : FnScope N ps (defScope st)) (ht : tb f = some (.df ⟨N.length, ps.length, ib⟩)) (w' : WalkB P w K mg base N qual st xc (run tb k) k ib) : FnT P w K mg base xc (run tb (k + 1)) (k + 1) n f ps.length := by
  have e : run tb (k + 1) f = runB (run tb k) ⟨N.length, ps.length, ib⟩ := by
    funext as s
    show (match tb f with
      | some (.prim g) => g as s
      | some (.df fd) => runB (run tb k) fd as s
      | none => .bad) = _
    rw [ht]
  refine ⟨⟨fa, fd, ps, ?_, hm, F.kp, hb⟩, fun as s h => ?_⟩
  · rw [e]; exact def_ok F S fun cdv A outer s H E b => w' fa cdv A outer s H E b
  · rw [e] at h; exact runB_len h
/-- at level 0 nothing is promised -/
theorem FnT.zero {P : Program} {w : World} {K : PySem.W.Frag} {mg : Str → Option Value} {base : Heap} {xc : XC} {tb : Nat → Option FSem} {n n0 qual : Str} {f : Nat} {st : Stmt} {fa : Addr} {fd : FuncData} {ps : List Str}
    (F : Fun K n0 qual st fa fd) (hm : mg n = some (.ref fa)) (hb : Binds K fd ps []) : FnT P w K mg base xc (run tb 0) 0 n f ps.length :=
  ⟨⟨fa, fd, ps, ⟨fun vs H Q E h => h.1, fun A outer s H args us vs Q E _ _ _ _ _ h => by
    obtain ⟨_, g, O, as, s, _, _, _, _, _, h⟩ := h
    exact h.elim⟩, hm, F.kp, hb⟩, fun as s h => absurd rfl h⟩

section
variable {X : Cx} {xc : XC} {W : WX} {cl : Nat → List Arg → DS → FRes} {k : Nat} {a b c e x y elt tg iter : Expr} {es ifs : List Expr} {ea eb ec el eh : E} {as : Es} {ta tb tc : T} {t : Tg} {ts : Tgs} {it : It} {ib ic : Ss} {pos p p2 p3 spos py px pt apos cpos : Pos} {n nm : Str} {i j f np : Nat} {body : List Stmt} {scope : Scope}
theorem un3 {X : Cx} (o : Ok X) : X.A.units + 64 < cLine := by have := o.un; omega
theorem Bd.blk {s : Shared} {H : Hp} {cenv : PySem.Env} {fp : List Addr} (d : Bd X W k) : Bd (X.blk s H scope cenv fp) (fun _ _ _ _ => False) k := ⟨⟨d.ok.calm, d.ok.nd, d.ok.un, d.ok.gd⟩, d.room, PassesOwn.never, takes0⟩
theorem d_v (i : Nat) (hN : X.N[i]? = some n := by rfl) (hv : Vis X.env.scope n := by first | exact Or.inl rfl | exact Or.inr (Or.inl rfl) | exact Or.inr (Or.inr rfl)) (hd : (n == ("__debug__" : Str)) = false := by decide) (hcd : (n == ("__classdict__" : Str)) = false := by decide) : DE X xc W cl (.Name n pos) (.x i) := de_var hN hv hd hcd
theorem d_add (ha : DE X xc W cl a ea) (hb : DE X xc W cl b eb) : DE X xc W cl (.BinOp a .Add b pos) (.op .add (.cons ea (.cons eb .nil))) := de_bin o_add (.of v_add) ha hb
theorem d_mul (ha : DE X xc W cl a ea) (hb : DE X xc W cl b eb) : DE X xc W cl (.BinOp a .Mult b pos) (.op .mul (.cons ea (.cons eb .nil))) := de_bin o_mul (.of v_mul) ha hb
theorem d_pow (ha : DE X xc W cl a ea) (hb : DE X xc W cl b eb) : DE X xc W cl (.BinOp a .Pow b pos) (.op .pow (.cons ea (.cons eb .nil))) := de_bin op_pow (.of v_pow) ha hb
section
variable (d : Bd X W k)
include d
theorem d_eq (ha : DE X xc W cl a ea) (hb : DE X xc W cl b eb) : DE X xc W cl (.Compare a [.Eq] [b] pos) (.op .eq (.cons ea (.cons eb .nil))) := de_cmp (o_eq (un3 d.ok)) (.of v_eq) ha hb
theorem d_in (ha : DE X xc W cl a ea) (hb : DE X xc W cl b eb) (hm : behindInMarks .In b = false := by with_unfolding_all rfl) : DE X xc W cl (.Compare a [.In] [b] pos) (.op .inn (.cons ea (.cons eb .nil))) := de_cmp (o_in d.ok.un) e_in ha hb hm
theorem t_eq (ha : DE X xc W cl a ea) (hb : DE X xc W cl b eb) : DT X xc W cl (.Compare a [.Eq] [b] pos) (.e (.op .eq (.cons ea (.cons eb .nil)))) := dt_cmp (o_eq (un3 d.ok)) (.of v_eq) b_eq ha hb
theorem t_ne (ha : DE X xc W cl a ea) (hb : DE X xc W cl b eb) : DT X xc W cl (.Compare a [.NotEq] [b] pos) (.e (.op .ne (.cons ea (.cons eb .nil)))) := dt_cmp (o_ne (un3 d.ok)) (.of v_ne) b_ne ha hb
theorem t_gt (ha : DE X xc W cl a ea) (hb : DE X xc W cl b eb) : DT X xc W cl (.Compare a [.Gt] [b] pos) (.e (.op .gt (.cons ea (.cons eb .nil)))) := dt_cmp op_gt (.of v_gt) b_gt ha hb
theorem t_in (ha : DE X xc W cl a ea) (hb : DE X xc W cl b eb) (hm : behindInMarks .In b = false := by with_unfolding_all rfl) : DT X xc W cl (.Compare a [.In] [b] pos) (.e (.op .inn (.cons ea (.cons eb .nil)))) := dt_cmp (o_in d.ok.un) e_in b_in ha hb hm
theorem t_notin (ha : DE X xc W cl a ea) (hb : DE X xc W cl b eb) (hm : behindInMarks .NotIn b = false := by with_unfolding_all rfl) : DT X xc W cl (.Compare a [.NotIn] [b] pos) (.e (.op .notin (.cons ea (.cons eb .nil)))) := dt_cmp (o_notin d.ok.un) e_notin b_notin ha hb hm
theorem d_ix (ha : DE X xc W cl a ea) (hb : DE X xc W cl b eb) (hs : PlainIx b := by intro _ _; rfl) : DE X xc W cl (.Subscript a b pos) (.op .idx (.cons ea (.cons eb .nil))) := de_ix d.ok ha hb hs
theorem d_call (F : FnT X.prog X.w X.K X.mg X.base xc cl k n f np) (ha : DA X xc W cl (e :: es) as) (hg : Gl X n := by rfl)
    (hdb : (n == ("__debug__" : Str)) = false := by decide) (he : starEach (e :: es) X.env = (false, eval e X.env) :: starEach es X.env := by rfl) (hpl : (backTo pos (starEach es X.env)).any (·.1) = false := by rfl) :
    DE X xc W cl (.Call (.Name n p) (e :: es) [] pos) (.call f as) := de_call d.ok d.room (CX := L2.CX X.prog X.w) ⟨F.fn, F.ln⟩ (fun σ => L2.passAt d.takes σ) hg ha hdb he hpl
theorem d_len (hm : X.mg "len" = none) (ha : DA X xc W cl [e] as) (hg : Gl X "len" := by rfl) (he : starEach [e] X.env = [(false, eval e X.env)] := by rfl) : DE X xc W cl (.Call (.Name "len" p) [e] [] pos) (.op .len as) := de_blt call_len (.of v_len) hg hm (by rfl) ha (he := he)
theorem d_repr (hm : X.mg "repr" = none) (ha : DA X xc W cl [e] as) (hg : Gl X "repr" := by rfl) (he : starEach [e] X.env = [(false, eval e X.env)] := by rfl) : DE X xc W cl (.Call (.Name "repr" p) [e] [] pos) (.op .repr as) := de_blt (call_repr d.ok.un d.ok.gd) (.of v_repr) hg hm (by rfl) ha (he := he)
theorem d_tuple (hm : X.mg "tuple" = none) (ha : DA X xc W cl [e] as) (hg : Gl X "tuple" := by rfl) (he : starEach [e] X.env = [(false, eval e X.env)] := by rfl) : DE X xc W cl (.Call (.Name "tuple" p) [e] [] pos) (.op .tuple as) := de_ty call_tuple_of (.of v_tuple) hg hm (by rfl) ha (he := he)
theorem d_all1 (hm : X.mg "all" = none) (ha : DA X xc W cl [e] as) (hg : Gl X "all" := by rfl) (he : starEach [e] X.env = [(false, eval e X.env)] := by rfl) : DE X xc W cl (.Call (.Name "all" p) [e] [] pos) (.op .all as) := de_blt (cr_all d.ok.calm) (.of v_all) hg hm (by rfl) ha (he := he)
theorem d_int1 (hm : X.mg "int" = none) (ha : DA X xc W cl [e] as) (hg : Gl X "int" := by rfl) (he : starEach [e] X.env = [(false, eval e X.env)] := by rfl) : DE X xc W cl (.Call (.Name "int" p) [e] [] pos) (.op .int as) := de_ty (call_int1) (.of v_int) hg hm (by rfl) ha (he := he)
theorem d_str1 (hm : X.mg "str" = none) (ha : DA X xc W cl [e] as) (hg : Gl X "str" := by rfl) (he : starEach [e] X.env = [(false, eval e X.env)] := by rfl) : DE X xc W cl (.Call (.Name "str" p) [e] [] pos) (.op .str as) := de_ty (call_str_int) (.of v_str) hg hm (by rfl) ha (he := he)
theorem i_rng1 (hm : X.mg "range" = none) (ha : DE X xc W cl a ea) (hg : Gl X "range" := by rfl) (hs : starEach [a] X.env = [(false, eval a X.env)] := by rfl) : DI X xc W cl tg (.Call (.Name "range" p) [a] [] pos) (.rng (.cons ea .nil)) := di_rng1 hg hm ha hs
theorem d_lc (own : List (Str × Nat)) (hi : DI X xc W cl tg iter it)
    (hg : ∀ {s : Shared} {H : Hp} {C : Addr} {cx : List (Str × Addr)} {fp : List Addr}, Bd (X.blk s H scope (compEnvC scope cx C X.env) fp) (fun _ _ _ _ => False) k → DG (X.blk s H scope (compEnvC scope cx C X.env) fp) tg t)
    (hc : ∀ {s : Shared} {H : Hp} {C : Addr} {cx : List (Str × Addr)} {fp : List Addr}, Bd (X.blk s H scope (compEnvC scope cx C X.env) fp) (fun _ _ _ _ => False) k → DTs (X.blk s H scope (compEnvC scope cx C X.env) fp) xc (fun _ _ _ _ => False) cl ifs tc)
    (he : ∀ {s : Shared} {H : Hp} {C : Addr} {cx : List (Str × Addr)} {fp : List Addr}, Bd (X.blk s H scope (compEnvC scope cx C X.env) fp) (fun _ _ _ _ => False) k → DE (X.blk s H scope (compEnvC scope cx C X.env) fp) xc (fun _ _ _ _ => False) cl elt ea)
    (ok : blkC X.N X.env.scope scope own = true := by with_unfolding_all rfl) (ht : tgIn (own.map (·.2)) t = true := by rfl) (hs : ∀ x, foldedSetIterable iter X.env x = pure x := by intro _; rfl) :
    DE X xc W cl (.ListComp elt [⟨tg, iter, ifs, 0⟩] scope pos) (.lc t it tc ea (own.map (·.2))) :=
  de_lc d.ok hi (blkOk_by ok) ht (fun s H C cx fp _ => hg d.blk) (fun s H C cx fp _ => hc d.blk) (fun s H C cx fp _ => he d.blk) hs
theorem g_nm (i : Nat) (hi : X.N[i]? = some n := by rfl) (hx : Loc X.env.scope n := by first | exact Or.inl rfl | exact Or.inr rfl) (hf : X.fn n = true ∨ X.env.scope.names.lookup n = some .local := by first | exact .inl rfl | exact .inr rfl) : DG X (.Name n pos) (.nm i) := dg_nm d.ok hi hx hf
theorem g_tp {k' : Nat} (h : DGs X es ts) (hn : (assignEach es X.env).length = lenTs ts := by rfl) (hst : (assignEach es X.env).findIdx? (·.1) = none := by rfl) : DG X (.Tuple es k' pos) (.tp ts) := dg_tp d.ok h hn hst
theorem s_set (i : Nat) (ha : DE X xc W cl a ea) (hi : X.N[i]? = some n := by rfl) (hx : Loc X.env.scope n := by first | exact Or.inl rfl | exact Or.inr rfl) (hs : swapsWith a (some (.Name n p)) pos.line X.env = pure false := by rfl) (hf : X.fn n = true ∨ X.env.scope.names.lookup n = some .local := by first | exact .inl rfl | exact .inr rfl) :
    DS' X xc W cl (.Assign [.Name n p] a pos) (.set (.nm i) ea) := ds_set d.ok.nd hi hx ha hs hf
theorem s_for (hi : DI X xc W cl tg iter it) (ht : DG X tg t) (hb : DSs X xc W cl body ib) (hs : ∀ x, foldedSetIterable iter X.env x = pure x := by intro _; rfl) : DS' X xc W cl (.For tg iter body [] pos) (.lop t it ib) := ds_for d.ok d.pass hi ht hb hs
theorem s_app (i : Nat) (ha : DE X xc W cl a ea) (hN : X.N[i]? = some n := by rfl) (hv : Vis X.env.scope n := by first | exact Or.inl rfl | exact Or.inr (Or.inl rfl) | exact Or.inr (Or.inr rfl)) (hbase : attributeBase (.Name n p) "append" X.env (eval (.Name n p) X.env) = eval (.Name n p) X.env := by rfl)
    (hfew : ((backTo cpos (starEach [a] X.env)).all (fun x => !x.1) && (backToKw cpos (keywordEach [] X.env)).all (fun x => x.1.isSome)
      && decide (([a] : List Expr).length + ([] : List Keyword).length + (if ([] : List Keyword).isEmpty then 0 else 1) < 30)) = true := by rfl)
    (hline : (apos.endLine == cpos.line) = true := by rfl) (hs : starEach [a] X.env = (false, eval a X.env) :: starEach [] X.env := by rfl) (hplain : (backTo cpos (starEach [] X.env)).any (·.1) = false := by rfl)
    (hd : (n == ("__debug__" : Str)) = false := by decide) (hcd : (n == ("__classdict__" : Str)) = false := by decide) (hsw : swapsWith (.Call (.Attribute (.Name n p) "append" apos) [a] [] cpos) none pos.line X.env = pure false := by rfl) :
    DS' X xc W cl (.Expr (.Call (.Attribute (.Name n p) "append" apos) [a] [] cpos) pos) (.ex (.mut .app i (.cons ea .nil))) := ds_ex (de_app hN hv ha hbase hfew hline hs hplain hd hcd) hsw
end
end
end PV

/-! PV.23: the deck and the draw (k00-k09, k77) -/
namespace PV
open PySem PySem.Spec L2

def cellA (s : DS) : Int := if 0 < s.cells.length then s.cells.getD ((s.cnt + 1) % s.cells.length).toNat 0 else 0
def drawA : List Arg → DS → FRes
  | [.dk 0, .sh (.int n)], s => if 0 < n ∧ n < 1073741824 ∧ 0 ≤ s.cnt ∧ s.cnt < 1099511627776 then
      if 1000000000000000000 ≤ cellA s then .ok (.v (.int (cellA s % n))) ⟨s.cells.set ((s.cnt + 1) % s.cells.length).toNat (cellA s / n), s.cnt + 1, s.rests, s.obs⟩
      else .ok (.v (.int ((cellA s % 2147483587 + 7919 * (s.cnt + 1) + 1) ^ 5 % 2147483647 / 7 % n))) ⟨s.cells, s.cnt + 1, s.rests, s.obs⟩
    else .bad
  | _, _ => .bad
theorem pair2 {α β : Type} {F : α → β → Prop} {vs : List α} {d e : β} (h : Paired F vs [d, e]) : ∃ x y, vs = [x, y] ∧ F x d ∧ F y e := by
  cases h with
  | cons r t => cases t with
    | cons q u => cases u; exact ⟨_, _, rfl, r, q⟩
def ix (K : PySem.W.Frag) (a b : TE) : TE := tOp (rIxL K) a b
def lenR (K : PySem.W.Frag) : List V → Hp → VK → Prop := fun xs H Q => ∃ x n, xs = [x] ∧ LenV K x H n ∧ Q (.int n) H
/-- the deck's top list: its counter, its cells -/
theorem dk_top {g : Gd} {s : DS} {H : Hp} (d : DkRep g s H) : ∃ xs, H g.1 = some (.lst xs) ∧ xs[0]? = some (.ref g.2.1) ∧ xs[1]? = some (.int s.cnt) ∧ 2 ≤ xs.length := by
  rcases d.top with ⟨_, t⟩ | ⟨_, _, t, _⟩
  · exact ⟨_, t, rfl, rfl, by simp⟩
  · exact ⟨_, t, rfl, rfl, by simp⟩
theorem dk_cnt {g : Gd} {s : DS} {H : Hp} (d : DkRep g s H) {xs : List V} (h : H g.1 = some (.lst xs)) (c : Int) : DkRep g ⟨s.cells, c, s.rests, s.obs⟩ (upd H g.1 (.lst (xs.set 1 (.int c)))) := by
  refine ⟨by rw [upd_ne d.ne.symm]; exact d.cells, d.ne, ?_, d.obsD h rfl (.inl rfl), d.st⟩
  rcases d.top with ⟨e, t⟩ | ⟨e1, e2, t, t2⟩
  · rw [h] at t; cases t; exact .inl ⟨e, upd_same⟩
  · rw [h] at t; cases t; exact .inr ⟨e1, e2, upd_same, by rw [upd_ne e1]; exact t2⟩
theorem dk_cells {g : Gd} {s : DS} {H : Hp} (d : DkRep g s H) (i : Nat) (c : Int) : DkRep g ⟨s.cells.set i c, s.cnt, s.rests, s.obs⟩ (upd H g.2.1 (.lst ((s.cells.map V.int).set i (.int c)))) := by
  refine ⟨by rw [upd_same, List.map_set], d.ne, ?_, d.obsD d.cells rfl (.inr (.inl rfl)), d.st⟩
  rcases d.top with ⟨e, t⟩ | ⟨e1, e2, t, t2⟩
  · exact .inl ⟨e, by rw [upd_ne d.ne]; exact t⟩
  · exact .inr ⟨e1, e2, by rw [upd_ne d.ne]; exact t, by rw [upd_ne e2]; exact t2⟩
theorem dk_keep {g : Gd} {H : Hp} {a : Addr} {xs ys : List V} (h : H a = some (.lst xs)) (d : DkS g a) : Keep (DkS g) H (upd H a (.lst ys)) := Keep.write h rfl d
theorem at0 {xs : List V} {v : V} (h : xs[0]? = some v) : atI xs 0 = some v := atI_nat (j := 0) h
theorem at1 {xs : List V} {v : V} (h : xs[1]? = some v) : atI xs 1 = some v := atI_nat (j := 1) h
theorem ixN_nat {n j : Nat} (h : j < n) : ixN n (j : Int) = some j := by
  unfold ixN
  simp [h]
/-- slots: the deck, the limit, the cell, the index -/
def tDrawA (K : PySem.W.Frag) : TS :=
  tSeq (tAsg (tOp (rI0 fun i j => .int (i + j)) (ix K (tVar 0) (tC (.int 1))) (tC (.int 1))) (gSub (tVar 0) (tC (.int 1)) rSetL))
  (tSeq (tAsg (tTup (tCons (tC (.int 0)) (tCons (tUn (rU fun i => .int (-i)) (tC (.int 1))) tNil))) (gTup K 2 (gCons (gName 2) (gCons (gName 3) gNil))))
  (tSeq (tIfS (tTest (tOp (rI0 fun i j => .bl (decide (j < i))) (tCB (lenR K) (tCons (ix K (tVar 0) (tC (.int 0))) tNil)) (tC (.int 0))))
      (tSeq (tAsg (tOp (rI (fun _ j => 0 < j) fun i j => .int (i % j)) (ix K (tVar 0) (tC (.int 1))) (tCB (lenR K) (tCons (ix K (tVar 0) (tC (.int 0))) tNil))) (gName 3)) (tAsg (ix K (ix K (tVar 0) (tC (.int 0))) (tVar 3)) (gName 2)))
      tNext)
  (tSeq (tIfS (tTest (tOp (rI0 fun i j => .bl (decide (j ≤ i))) (tVar 2) (tOp (rI CPow fun i j => .int (i ^ j.toNat)) (tC (.int 10)) (tC (.int 18)))))
      (tSeq (tAsg (tOp (rI CDiv fun i j => .int (i / j)) (tVar 2) (tVar 1)) (gSub (ix K (tVar 0) (tC (.int 0))) (tVar 3) rSetL)) (tRet (tOp (rI (fun _ j => 0 < j) fun i j => .int (i % j)) (tVar 2) (tVar 1))))
      tNext)
  (tRet (tOp (rI (fun _ j => 0 < j) fun i j => .int (i % j)) (tOp (rI CDiv fun i j => .int (i / j)) (tOp (rI (fun _ j => 0 < j) fun i j => .int (i % j)) (tOp (rI CPow fun i j => .int (i ^ j.toNat))
    (tOp (rI0 fun i j => .int (i + j)) (tOp (rI0 fun i j => .int (i + j)) (tOp (rI (fun _ j => 0 < j) fun i j => .int (i % j)) (tVar 2) (tC (.int 2147483587))) (tOp (rI CMul fun i j => .int (i * j)) (tC (.int 7919)) (ix K (tVar 0) (tC (.int 1))))) (tC (.int 1)))
    (tC (.int 5))) (tC (.int 2147483647))) (tC (.int 7))) (tVar 1))))))
end PV

/-! PV.24: the deck is made; the law's own def -/
namespace PV
open PySem PySem.Spec L2

def absI (i : Int) : Int := if i < 0 then -i else i
def spDeck (K : PySem.W.Frag) : Sp := fun vs H Q _ => ∃ (a : Addr) (ns : List Int), vs = [.ref a] ∧ SqL K H a (ns.map V.int) ∧ ns.length ≤ 63 ∧ ∀ H' d c, Keep (fun _ => False) H H' → H d = none → H c = none → d ≠ c → H' d = some (.lst [.ref c, .int 0]) → H' c = some (.lst ((ns.map absI).map V.int)) → Q (.ref d) H'
def absR : List V → Hp → VK → Prop := fun xs H Q => ∃ i, xs = [.int i] ∧ Q (.int (if i < 0 then -i else i)) H
/-- return [[abs(cell) for cell in script[:cut]], 0] -/
def tDeck (K : PySem.W.Frag) (cut : Int) : TS := tRet (tLst (tCons (tLc (iList K (tSl (rSlL K) (tVar 0) tNoPart (tPart (tC (.int cut))))) (gName 1) tYes (tCB absR (tCons (tVar 1) tNil)) [1]) (tCons (tC (.int 0)) tNil)))
theorem cutV_all {xs : List V} {n : Nat} (h : xs.length ≤ n) : cutV xs none (some (n : Int)) = xs := by
  unfold cutV
  rw [HT.sIx_none, HT.sIx_nat, List.drop_zero, Nat.sub_zero, Nat.min_eq_right h, List.take_length]
theorem deck_body {K : PySem.W.Frag} {H : Hp} {Q : VK} {E : XK} {vs : List V} {N : List Str} (hN : N.length = 2) (h : spDeck K vs H Q E) : tDeck K 63 { nx := fun _ H' => Q .non H', rt := Q } (L2.start N vs) H := by
  obtain ⟨a, ns, rfl, hs, hl, q⟩ := h
  have e0 : L2.start N [.ref a] = [some (.ref a), none] := by
    unfold L2.start; rw [hN]; rfl
  rw [e0]
  refine ⟨_, rfl, 63, rfl, a, _, rfl, hs, fun p np => ?_⟩
  have k1 : Keep (fun _ => False) H (upd H p (.lst (cutV (ns.map V.int) none (some 63)))) := Keep.new np
  rw [show cutV (ns.map V.int) none (some 63) = ns.map V.int from cutV_all (n := 63) (by simpa using hl)] at k1 ⊢
  refine ⟨p, rfl, ⟨_, .inl (.inl upd_same)⟩, fun D nD => ?_⟩
  generalize hH1 : upd H p (.lst (ns.map V.int)) = H1 at k1 nD ⊢
  have hp1 : H1 p = some (.lst (ns.map V.int)) := by rw [← hH1, upd_same]
  have nDp : p ≠ D := fun z => by rw [z, nD] at hp1; cases hp1
  have D0 : H D = none := k1.old D nD
  refine ⟨fun i m H2 => i + m = ns.length ∧ Keep (fun b => b = D) H1 H2 ∧ H2 D = some (.lst (((ns.map absI).map V.int).take i)), ⟨ns.length, by omega, Keep.new nD, by rw [upd_same]; rfl⟩, ?_⟩
  rintro i m H2 ⟨hi, k2, hD⟩
  have hp2 : H2 p = some (.lst (ns.map V.int)) := k2.stay p _ hp1 (.inl fun z => nDp z)
  by_cases z : i < ns.length
  rotate_left
  · refine .inl ⟨⟨_, .inl (.inl hp2), by simp; omega⟩, ?_⟩
    rw [List.take_of_length_le (by simp; omega)] at hD
    refine ⟨by simp [sizeLine_eq], fun d nd => ?_⟩
    have k02 : Keep (fun _ => False) H H2 := ⟨fun b o e _ => k2.stay b o (k1.stay b o e (.inl fun z => z)) (.inl fun z => by rw [z, D0] at e; cases e), fun b z => k1.old b (k2.old b z)⟩
    have nDd : D ≠ d := fun z => by rw [z, nd] at hD; cases hD
    exact q _ d D (k02.trans (M' := fun _ => False) (Keep.new nd) fun _ z => z.elim) (k02.old d nd) D0 nDd.symm upd_same (by rw [upd_ne nDd]; exact hD)
  · have g1 : (ns.map V.int)[i]? = some (.int ns[i]) := by rw [List.getElem?_map, List.getElem?_eq_getElem z]; rfl
    refine .inr ⟨⟨_, _, .inl (.inl hp2), g1⟩, fun H3 => (i + 1) + (m - 1) = ns.length ∧ Keep (fun b => b = D) H1 H3 ∧ H3 D = some (.lst (((ns.map absI).map V.int).take (i + 1))), fun H3 h3 => ⟨m - 1, by omega, h3⟩, fun x H3 hy => ?_⟩
    obtain ⟨rfl, hy⟩ := hy
    have := hy _ (.inl (.inl hp2))
    rw [g1] at this; cases this
    refine ⟨rfl, ?_⟩
    show tCB absR (tCons (tVar 1) tNil) _ H3 _
    refine ⟨_, rfl, _, rfl, _, hD, ?_, by omega, ?_, ?_⟩
    · rw [List.length_take]; simp [sizeLine_eq]; omega
    · exact ⟨fun b o e c => by
        have hb : b ≠ D := fun z => by rw [z, nD] at e; cases e
        rw [upd_ne hb]
        exact k2.stay b o e c, fun b z => by
        by_cases hb : b = D
        · rw [hb, upd_same] at z; cases z
        · rw [upd_ne hb] at z; exact k2.old b z⟩
    · rw [upd_same, List.take_add_one, List.getElem?_map, List.getElem?_map, List.getElem?_eq_getElem z]
      rfl
/-- the law: the deck, then the rest -/
def spLaw (K : PySem.W.Frag) (ok : List Int → Prop) : Sp := fun vs H Q _ => ∃ (a : Addr) (ns : List Int), vs = [.ref a] ∧ SqL K H a (ns.map V.int) ∧ ns.length ≤ 63 ∧ ok ns ∧ ∀ H', Q (.bl true) H'
theorem e_un {n i : Nat} {sl : Slot} {j : Nat} (h : ((List.replicate n Slot.un).set i (.dk 0))[j]? = some sl) : (j = i ∧ sl = .dk 0 ∧ i < n) ∨ sl = .un := by
  rcases get_set h with ⟨z, y, l⟩ | ⟨z, y⟩
  · exact .inl ⟨z, y, by simpa using l⟩
  · rw [List.getElem?_replicate] at y
    split at y
    · cases y; exact .inr rfl
    · cases y
theorem law_body {xc : XC} {K : PySem.W.Frag} {cl : Nat → List Arg → DS → FRes} {W : WX} {N : List Str} {i : Nat} {ib : Ss} {H : Hp} {Q : VK} {E : XK} {E' : L2.St → XK} {vs : List V} (hi : i < N.length) (h0 : 0 < N.length)
    (h : spLaw K (fun ns => ∃ m, exs cl ib ⟨(List.replicate N.length Slot.un).set i (.dk 0), ⟨ns.map absI, 0, [], []⟩⟩ = .ok (.rt (.v (.bool true))) m) vs H Q E) :
    tSeq (tAsg (tCallG (spDeck K) E' (tCons (tVar 0) tNil)) (gName i)) (tS xc K W (asgSs ib) fun m => exs cl ib m) { nx := fun _ H' => Q .non H', rt := Q } (L2.start N vs) H := by
  obtain ⟨a, ns, rfl, hs, hl, ⟨m, hm⟩, q⟩ := h
  have s0 : (L2.start N [.ref a])[0]? = some (some (.ref a)) := rfl
  refine ⟨_, s0, a, ns, rfl, hs, hl, fun H1 d c k nd nc ne hd hc => ?_⟩
  let g : Gd := ⟨d, (c, d), []⟩
  have dk : DkRep g ⟨ns.map absI, 0, [], []⟩ H1 := ⟨hc, ne, .inl ⟨⟨rfl, rfl⟩, hd⟩, .nil, OSt.nil⟩
  have no : ∀ {j : Nat}, isOwn ((List.replicate N.length Slot.un).set i (.dk 0))[j]? = false := fun {j} => by
    cases q : ((List.replicate N.length Slot.un).set i (.dk 0))[j]? with
    | none => rfl
    | some sl => rcases e_un q with ⟨_, rfl, _⟩ | rfl <;> rfl
  have sl : (L2.start N [.ref a]).length = N.length := by unfold L2.start; simp; omega
  refine ⟨g, DkS g, (List.replicate N.length Slot.un).set i (.dk 0), _, ⟨fun _ z => z, fun b z => ?_, ⟨by simp [sl], fun j s h => ?_, fun j k b z _ _ _ => by rw [no] at z; cases z⟩, dk, GOb.nil⟩, ?_⟩
  · rcases z with z | z | z | ⟨o, z, _⟩
    rotate_right
    · exact nomatch (show o ∈ ([] : List OA) from z)
    · rw [z]; show H1 d ≠ none; rw [hd]; simp
    · rw [z]; show H1 c ≠ none; rw [hc]; simp
    · rw [z]; show H1 d ≠ none; rw [hd]; simp
  · rcases e_un h with ⟨rfl, rfl, l⟩ | rfl
    · show ((L2.start N [.ref a]).set j (some (.ref d)))[j]? = _
      rw [List.getElem?_set_self (by rw [sl]; exact l)]; rfl
    · trivial
  · show PostS xc K W g _ _ _ H1 _ _ (exs cl ib ⟨(List.replicate N.length Slot.un).set i (.dk 0), ⟨ns.map absI, 0, [], []⟩⟩)
    rw [hm]
    intro v σ' H' F t
    have hv := t.rv.2
    rw [sh_bool.mp hv]
    exact q H'
theorem cx_false {P : Program} {w : World} {outer : List PySem.Env} {H : Hp} {s : Shared} {e : Value} {s' : Shared} (h : L2.CX P w outer H s (fun _ _ _ => False) e s') : False := by
  obtain ⟨_, _, _, _, _, _, _, _, _, _, _, _, z⟩ := h
  exact z
section
variable {P : Program} {w : World} {K : PySem.W.Frag} {mg : Str → Option Value} {base : Heap} {xc : XC} {cl : Nat → List Arg → DS → FRes}
theorem FnG.walk {x qual : Str} {st : Stmt} {f : Addr} {fd : FuncData} {N ps : List Str} {k : Nat} {sp : Sp} (F : Fun K x qual st f fd) (S : FnScope N ps (defScope st)) (len : ∀ vs H Q E, sp vs H Q E → vs.length = ps.length)
    (hb : ∀ (cdv : Value) (A : Around) (outer : List PySem.Env) (s : Shared) (H : Hp) (E : XK), Bd (CxD P w K mg base N qual st f cdv A outer s H E) (fun c d _ H => E c d H) k → ∃ t, PSs (CxD P w K mg base N qual st f cdv A outer s H E) (defBody st) t ∧
      ∀ vs Q, sp vs H Q E → t { nx := fun _ H' => Q .non H', rt := Q } (L2.start N vs) H) : FnG P w K mg base (L2.CX P w) (k + 1) f fd ps sp := by
  obtain ⟨oc, od, kV, doc, pm, an, cdv, ct, osl, rfl, lk, hcd⟩ := F.ex
  refine FnG.body lk hcd S len fun A outer s H vs Q E hg hr hf hsp => ?_
  have un := hr.un
  obtain ⟨t, h1, h2⟩ := hb cdv A outer s H E ⟨⟨rfl, S.nd, by show (A.deeper _).units + 65 < cLine; omega, deeper_gd hg⟩, hr, L2.passes_of rfl, L2.takes_of rfl rfl rfl rfl⟩
  exact ⟨t, h1, h2 vs Q hsp⟩
/-- a draw of the table -/
theorem FnT.prim {tb : Nat → Option FSem} {k : Nat} {n qual : Str} {f np : Nat} {st : Stmt} {fa : Addr} {fd : FuncData} {N ps : List Str} {gf : List Arg → DS → FRes}
    (F : Fun K n qual st fa fd) (hm : mg n = some (.ref fa)) (hb : Binds K fd ps []) (S : FnScope N ps (defScope st)) (ht : tb f = some (.prim gf)) (hp : ps.length = np) (hl : ∀ as s, gf as s ≠ .bad → as.length = np)
    (w' : ∀ (cdv : Value) (A : Around) (outer : List PySem.Env) (s : Shared) (H : Hp) (E : XK), Bd (CxD P w K mg base N qual st fa cdv A outer s H E) (fun c d _ H => E c d H) k → ∃ t, PSs (CxD P w K mg base N qual st fa cdv A outer s H E) (defBody st) t ∧
      ∀ vs Q, spF xc K np gf vs H Q E → t { nx := fun _ H' => Q .non H', rt := Q } (L2.start N vs) H) : FnT P w K mg base xc (run tb (k + 1)) (k + 1) n f np := by
  have e : run tb (k + 1) f = gf := by
    funext as s
    show (match tb f with
      | some (.prim g) => g as s
      | some (.df fd) => runB (run tb k) fd as s
      | none => .bad) = _
    rw [ht]
  refine ⟨⟨fa, fd, ps, ?_, hm, F.kp, hb⟩, fun as s h => ?_⟩
  · rw [e]
    exact FnG.walk F S (fun vs H Q E h => by rw [hp]; exact h.1) w'
  · rw [e] at h; exact hl as s h
end
end PV

/-! PV.25: more words: is None, isinstance, chains -/
namespace PV
open PySem PySem.Spec L2
def kN : Nat → String
  | 0 => "int" | 1 => "bool" | 2 => "str" | 3 => "tuple" | 4 => "list" | _ => "dict"
def tyD : PyData → String
  | .none => "NoneType" | .bool _ => "bool" | .int _ => "int" | .str _ => "str" | .list _ => "list" | .tuple _ => "tuple" | .dict _ => "dict"
theorem tyx_of {K : PySem.W.Frag} {O : AP} {H : Hp} {x : V} {d : PyData} (h : ShT K O H x d) : TyX K H x (.type (tyD d)) := by
  cases d with
  | none => rw [t_none h]; exact .base .non
  | bool b => rw [t_bool h]; exact .base (.bl b)
  | int i => rw [t_int h]; exact .base (.int i)
  | str s => rw [t_str h]; exact .base (.str s)
  | list ds => obtain ⟨a, xs, rfl, l, _⟩ := t_list h; exact .base (.lst l)
  | tuple ds => obtain ⟨a, xs, rfl, l, _⟩ := sh_tuple.mp h; exact .base (.tup l)
  | dict kvs =>
    obtain ⟨a, o, rfl, l, hd⟩ := t_dict h
    rcases hd with ⟨ks, rfl, _⟩ | ⟨ks, rfl, _⟩
    · exact .base (.dK l)
    · exact .base (.dT l)
theorem kitB_k : ∀ k, k < 6 → ∀ t ∈ (["NoneType", "bool", "int", "str", "list", "tuple", "dict"] : List String), kitB t (kN k) = some (match k, t with
    | 0, "int" => true | 0, "bool" => true | 1, "bool" => true | 2, "str" => true | 3, "tuple" => true | 4, "list" => true | 5, "dict" => true | _, _ => false) := by decide +kernel
theorem kit_d {K : PySem.W.Frag} {k : Nat} (hk : k < 6) (d : PyData) : PySem.W.kitOne K (.type (tyD d)) (.type (kN k)) = some (isKind k d) := by
  have q := kitB_k k hk (tyD d) (by cases d <;> simp [tyD])
  refine kit_ty (q.trans (congrArg some ?_))
  match k, hk with
  | 0, _ => cases d <;> rfl
  | 1, _ => cases d <;> rfl
  | 2, _ => cases d <;> rfl
  | 3, _ => cases d <;> rfl
  | 4, _ => cases d <;> rfl
  | 5, _ => cases d <;> rfl
def rIs1 (K : PySem.W.Frag) (k : Nat) : V → Hp → VK → Prop := fun x H Q => ∃ t b, TyX K H x t ∧ PySem.W.kitOne K t (.type (kN k)) = some b ∧ Q (.bl b) H
theorem v_isi {K : PySem.W.Frag} {k : Nat} (hk : k < 6) : OpV K (V1 (rIs1 K k)) (isiD k) := by
  intro O H vs ds z Q hp hz hQ
  unfold isiD at hz
  split at hz
  · obtain ⟨x, rfl, h1⟩ := p1 hp
    cases hz
    exact ⟨x, rfl, _, _, tyx_of h1, kit_d hk _, fin_v hQ (sh_bool.mpr rfl)⟩
  · cases hz
section
variable {X : Cx} {xc : XC} {W : WX} {cl : Nat → List Arg → DS → FRes} {k : Nat} {a b c e : Expr} {ea eb ec : E} {as : Es} {pos p p2 p3 : Pos} {n : Str} {j : Nat}
theorem d_isi' (i : Nat) (hi : i < 6) (hm : X.mg "isinstance" = none) (hm2 : X.mg n = none) (ha : DE X xc W cl a ea) (hv : bootBuiltins n = some (.type (kN i))) (hg2 : Gl X n := by rfl) (hg : Gl X "isinstance" := by rfl)
    (hn : n ≠ "__name__" := by decide) (hd : (n == ("__debug__" : Str)) = false := by decide)
    (he : starEach [a, .Name n p2] X.env = (false, eval a X.env) :: starEach [.Name n p2] X.env := by rfl) (he2 : starEach [.Name n p2] X.env = (false, eval (.Name n p2) X.env) :: starEach [] X.env := by rfl) (hpl : (backTo pos (starEach [.Name n p2] X.env)).any (·.1) = false := by rfl) :
    DE X xc W cl (.Call (.Name "isinstance" p) [a, .Name n p2] [] pos) (.op (.isi i) (.cons ea .nil)) :=
  PEimp (pe_callB call_isi hg hm (by rfl) (pa_cons ha (pa_cons (pe_bltn (v := .ty (kN i)) hg2 hm2 hv rfl hn hd) pa_nil he2) he) (by decide) (by decide) he hpl) fun σ H Q h =>
    (one_ok ((OpE.of (v_isi hi)).use h)).mono fun x H1 h => by
      obtain ⟨x', e, t, b, h1, h2, h3⟩ := h
      cases e
      exact ⟨x, .ty (kN i), t, _, b, rfl, .ty _, h1, h2, h3⟩
theorem d_isN (d : Bd X W k) (ha : DE X xc W cl a ea) : DE X xc W cl (.Compare a [.Is] [.Constant .none j p2] pos) (.op .isN (.cons ea .nil)) :=
  PEimp (pe_cmpR op_isN ha pe_non (nomark _)) fun σ H Q h => (one_ok ((OpE.of v_isN).use h)).mono fun x H1 h => by
    obtain ⟨x', e, h⟩ := h
    cases e; exact ⟨rfl, h⟩
theorem t_isN (d : Bd X W k) (ha : DE X xc W cl a ea) : DT X xc W cl (.Compare a [.Is] [.Constant .none j p2] pos) (.e (.op .isN (.cons ea .nil))) :=
  PTimp (pt_cmpR op_isN ha pe_non (nomark _)) fun σ H Q h => (one_ok ((OpE.of v_isN).use (bool_ok b_isN h))).mono fun x H1 h => by
    obtain ⟨x', e, h⟩ := h
    cases e; exact ⟨rfl, h⟩
end
end PV

/-! PV.26: a < b < c -/
namespace PV
open PySem PySem.Spec L2
section
variable {xc : XC} {K : PySem.W.Frag} {W : WX} {cl : Nat → List Arg → DS → FRes} {o1 o2 : Op} {a b c : E} {r r' : R2} {σ : L2.St} {H : Hp} {Q : VK}
theorem chn_ok (h1 : OpV K (V2 r) (opD o1)) (h2 : OpV K (V2 r') (opD o2)) (h : tE xc K W (fun m => ev cl (.chn o1 o2 a b c) m) σ H Q) :
    tEs xc K W (fun m => evs cl (.cons a (.cons b .nil)) m) σ H fun vs H2 => ∃ x y, vs = [x, y] ∧ r x y H2 fun z H3 => ∃ k, z = .bl k ∧ (if k = true then tE xc K W (fun m => ev cl c m) σ H3 fun w H4 => r' y w H4 Q else Q (.bl false) H3) := by
  obtain ⟨g, O0, e, s, G, h⟩ := h
  refine ⟨g, O0, e, s, G, ?_⟩
  show PostEs xc K W g O0 e σ H _ (evs cl (.cons a (.cons b .nil)) ⟨e, s⟩)
  have h : PostE xc K W g O0 e σ H Q (match ev cl a ⟨e, s⟩ with
    | .ok (.v da) m1 => match ev cl b m1 with
      | .ok (.v db) m2 => match opD o1 [da, db] with
        | some (.v (.bool true)) => match ev cl c m2 with
          | .ok (.v dc) m3 => match opD o2 [db, dc] with
            | some r => .ok r m3
            | none => .bad
          | .ok _ _ => .bad
          | .rz c f m3 => .rz c f m3
          | .bad => .bad
        | some (.v (.bool false)) => .ok (.v (.bool false)) m2
        | _ => .bad
      | .ok _ _ => .bad
      | .rz c f m2 => .rz c f m2
      | .bad => .bad
    | .ok _ _ => .bad
    | .rz c f m1 => .rz c f m1
    | .bad => .bad) := h
  have e1 : evs cl (.cons a (.cons b .nil)) ⟨e, s⟩ = (match ev cl a ⟨e, s⟩ with
      | .ok r m1 => match (match ev cl b m1 with
          | .ok r m2 => Res.ok [r] m2
          | .rz c f m2 => .rz c f m2
          | .bad => .bad) with
        | .ok rs m2 => Res.ok (r :: rs) m2
        | .rz c f m2 => .rz c f m2
        | .bad => .bad
      | .rz c f m1 => .rz c f m1
      | .bad => .bad) := rfl
  rw [e1]
  cases ha : ev cl a ⟨e, s⟩ with
  | rz c f m1 => simp only [ha] at h; exact h
  | bad => simp only [ha] at h; exact h
  | ok ra m1 =>
    cases ra with
    | fl ds => simp only [ha] at h; exact h.elim
    | fd t kvs => simp only [ha] at h; exact h.elim
    | pl i => simp only [ha] at h; exact h.elim
    | dk => simp only [ha] at h; exact h.elim
    | v da =>
      simp only [ha] at h
      simp only
      cases hb : ev cl b m1 with
      | rz c f m2 => simp only [hb] at h; exact h
      | bad => simp only [hb] at h; exact h
      | ok rb m2 =>
        cases rb with
        | fl ds => simp only [hb] at h; exact h.elim
        | fd t kvs => simp only [hb] at h; exact h.elim
        | pl i => simp only [hb] at h; exact h.elim
        | dk => simp only [hb] at h; exact h.elim
        | v db =>
          simp only [hb] at h
          intro vs H2 F t rvs
          have G2 := G.step0 t
          have hp := rvs.vals' t.rep (ds := [da, db]) rfl
          obtain ⟨x, y, F1, F2, rfl, q1, q2⟩ : ∃ x y F1 F2, vs = [x, y] ∧ RV1 K g (Ow (plus O0 F) m2.e σ) σ H2 x F1 (.v da) ∧ RV1 K g (Ow (plus O0 F) m2.e σ) σ H2 y F2 (.v db) := rvs2 rvs
          have sy : Sh K (Ow O0 m2.e σ) H2 y db := q2.2.weak fun a z => z.imp .inl id
          refine ⟨x, y, rfl, ?_⟩
          cases hz : opD o1 [da, db] with
          | none => simp only [hz] at h; exact h.elim
          | some z =>
            have use := h1 (Ow O0 m2.e σ) H2 [x, y] [da, db] z (fun z H3 => ∃ k, z = .bl k ∧ (if k = true then tE xc K W (fun m => ev cl c m) σ H3 fun w H4 => r' y w H4 Q else Q (.bl false) H3)) hp hz
            have fin : (∀ v H' F, Keep (fun _ => False) H2 H' → (∀ p ∈ F, H2 p = none ∧ H' p ≠ none) → RO K (plus (Ow O0 m2.e σ) F) H' v F z → ∃ k, v = .bl k ∧ (if k = true then tE xc K W (fun m => ev cl c m) σ H' fun w H4 => r' y w H4 Q else Q (.bl false) H')) := by
              intro v H' F' k hF ro
              cases z with
              | fl ds => simp only [hz] at h; exact h.elim
              | fd t kvs => simp only [hz] at h; exact h.elim
              | pl i => exact ro.elim
              | dk => exact ro.elim
              | v d => cases d with
                | none => simp only [hz] at h; exact h.elim
                | int i => simp only [hz] at h; exact h.elim
                | str i => simp only [hz] at h; exact h.elim
                | list i => simp only [hz] at h; exact h.elim
                | tuple i => simp only [hz] at h; exact h.elim
                | dict i => simp only [hz] at h; exact h.elim
                | bool bb =>
                  have hv := sh_bool.mp ro.2
                  refine ⟨bb, hv, ?_⟩
                  have t3 := G2.pure (F := []) k nilF
                  have G3 := G2.step0 t3
                  have t03 := t.forget.trans0 t3
                  cases bb with
                  | false =>
                    simp only [hz] at h
                    rw [if_neg (by simp)]
                    exact h (.bl false) H' [] t03 ⟨rfl, sh_bool.mpr rfl⟩
                  | true =>
                    simp only [hz] at h
                    rw [if_pos rfl]
                    have sy3 : Sh K (Ow O0 m2.e σ) H' y db := sy.go k (fun _ z => z.elim) fun a z => .inl z
                    refine ⟨g, O0, m2.e, m2.s, G3, ?_⟩
                    show PostE xc K W g O0 m2.e σ H' _ (ev cl c m2)
                    cases hc : ev cl c m2 with
                    | rz c f m3 => simp only [hc] at h; exact rz_of0 t03 h
                    | bad => simp only [hc] at h; exact h
                    | ok rc m3 =>
                      cases rc with
                      | fl ds => simp only [hc] at h; exact h.elim
                      | fd t kvs => simp only [hc] at h; exact h.elim
                      | pl i => simp only [hc] at h; exact h.elim
                      | dk => simp only [hc] at h; exact h.elim
                      | v dc =>
                        simp only [hc] at h
                        intro w H4 F4 t4 rv4
                        cases hz2 : opD o2 [db, dc] with
                        | none => simp only [hz2] at h; exact h.elim
                        | some z2 =>
                          simp only [hz2] at h
                          have sy4 : Sh K (Ow O0 m3.e σ) H4 y db := sy3.go t4.keep G3.mu fun a z => .inl (z.imp id (t4.own a))
                          have sw : Sh K (Ow O0 m3.e σ) H4 w dc := rv4.2.weak fun a z => z.imp .inl id
                          obtain ⟨y', w', e2, q⟩ := h2 (Ow O0 m3.e σ) H4 [y, w] [db, dc] z2 Q (.cons sy4.top (.cons sw.top .nil)) hz2 fun v H5 F5 k5 hF5 rv5 => post_op h G (t03.trans0 t4) k5 hF5 rv5.rv
                          cases e2; exact q
            obtain ⟨x', y', e2, q⟩ := use fin
            cases e2; exact q
end
section
variable {X : Cx} {xc : XC} {W : WX} {cl : Nat → List Arg → DS → FRes} {k : Nat} {a b c : Expr} {ea eb ec : E} {pos : Pos} {op op' : CmpOp} {o1 o2 : Op} {r r' : R2}
theorem t_chn (ho : OpR X (compareOp op) r) (hv : OpV X.K (V2 r) (opD o1)) (ho' : OpR X (compareOp op') r') (hv' : OpV X.K (V2 r') (opD o2)) (hbo : BoolE cl (.chn o1 o2 ea eb ec)) (ha : DE X xc W cl a ea) (hb : DE X xc W cl b eb) (hc : DE X xc W cl c ec) (hm : lastMarks [op, op'] [b, c] = false := by with_unfolding_all rfl) :
    DT X xc W cl (.Compare a [op, op'] [b, c] pos) (.e (.chn o1 o2 ea eb ec)) := PTimp (pt_chain ho ho' ha hb hc hm) fun σ H Q h => (two_ok (chn_ok hv hv' (bool_ok hbo h))).mono fun x H1 h => h.mono fun y H2 h => by
    obtain ⟨x', y', e, h⟩ := h
    cases e; exact h
end
end PV

/-! PV.27: pop, pop(i) -/
namespace PV
open PySem PySem.Spec L2
section
variable {X : Cx} {xc : XC} {W : WX} {cl : Nat → List Arg → DS → FRes} {a : Expr} {ea : E} {pos p apos cpos : Pos} {i : Nat} {x : Str}
end
end PV

/-! PV.28: words for a printed walk, 2 -/
namespace PV
open PySem PySem.Spec L2
section
variable {X : Cx} {xc : XC} {W : WX} {cl : Nat → List Arg → DS → FRes} {k : Nat} {a b c e : Expr} {ea eb ec : E} {as : Es} {pos p p2 p3 apos cpos : Pos} {n : Str} {j : Nat}
theorem bt_int : bootBuiltins "int" = some (.type "int") := by decide +kernel
theorem bt_bool : bootBuiltins "bool" = some (.type "bool") := by decide +kernel
theorem bt_str : bootBuiltins "str" = some (.type "str") := by decide +kernel
theorem bt_tuple : bootBuiltins "tuple" = some (.type "tuple") := by decide +kernel
theorem d_isi0 (hm : X.mg "isinstance" = none) (hm2 : X.mg "int" = none) (ha : DE X xc W cl a ea) (hg2 : Gl X "int" := by rfl) (hg : Gl X "isinstance" := by rfl) (he : starEach [a, .Name "int" p2] X.env = (false, eval a X.env) :: starEach [.Name "int" p2] X.env := by rfl) :
    DE X xc W cl (.Call (.Name "isinstance" p) [a, .Name "int" p2] [] pos) (.op (.isi 0) (.cons ea .nil)) := d_isi' 0 (by decide) hm hm2 ha bt_int hg2 hg (he := he)
theorem d_isi1 (hm : X.mg "isinstance" = none) (hm2 : X.mg "bool" = none) (ha : DE X xc W cl a ea) (hg2 : Gl X "bool" := by rfl) (hg : Gl X "isinstance" := by rfl) (he : starEach [a, .Name "bool" p2] X.env = (false, eval a X.env) :: starEach [.Name "bool" p2] X.env := by rfl) :
    DE X xc W cl (.Call (.Name "isinstance" p) [a, .Name "bool" p2] [] pos) (.op (.isi 1) (.cons ea .nil)) := d_isi' 1 (by decide) hm hm2 ha bt_bool hg2 hg (he := he)
theorem d_isi2 (hm : X.mg "isinstance" = none) (hm2 : X.mg "str" = none) (ha : DE X xc W cl a ea) (hg2 : Gl X "str" := by rfl) (hg : Gl X "isinstance" := by rfl) (he : starEach [a, .Name "str" p2] X.env = (false, eval a X.env) :: starEach [.Name "str" p2] X.env := by rfl) :
    DE X xc W cl (.Call (.Name "isinstance" p) [a, .Name "str" p2] [] pos) (.op (.isi 2) (.cons ea .nil)) := d_isi' 2 (by decide) hm hm2 ha bt_str hg2 hg (he := he)
theorem d_isi3 (hm : X.mg "isinstance" = none) (hm2 : X.mg "tuple" = none) (ha : DE X xc W cl a ea) (hg2 : Gl X "tuple" := by rfl) (hg : Gl X "isinstance" := by rfl) (he : starEach [a, .Name "tuple" p2] X.env = (false, eval a X.env) :: starEach [.Name "tuple" p2] X.env := by rfl) :
    DE X xc W cl (.Call (.Name "isinstance" p) [a, .Name "tuple" p2] [] pos) (.op (.isi 3) (.cons ea .nil)) := d_isi' 3 (by decide) hm hm2 ha bt_tuple hg2 hg (he := he)
end
end PV

/-! PV.29: sorted of a list of data -/
namespace PV
open PySem PySem.Spec PyProof.Rows L2
def rSortD (K : PySem.W.Frag) : List V → Hp → VK → Prop := fun xs H Q => ∃ (a : Addr) (bs : List (V × PyData)), xs = [.ref a] ∧ SqL K H a (bs.map Prod.fst) ∧ (∀ b ∈ bs, Dp K H b.1 b.2) ∧ PySem.W.AllAlike (bs.map Prod.snd) ∧ Srtb (bs.map Prod.snd) ∧ (∀ b ∈ bs, b.2.depth ≤ 20) ∧
  ∀ p, H p = none → Q (.ref p) (upd H p (.lst ((bs.mergeSort (PySem.W.dataLe false Prod.snd)).map Prod.fst)))
def rSortT (K : PySem.W.Frag) : List V → Hp → VK → Prop := fun xs H Q => ∃ (a : Addr) (bs : List (V × PyData)), xs = [.ref a] ∧ SqT K H a (bs.map Prod.fst) ∧ (∀ b ∈ bs, Dp K H b.1 b.2) ∧ PySem.W.AllAlike (bs.map Prod.snd) ∧ Srtb (bs.map Prod.snd) ∧ (∀ b ∈ bs, b.2.depth ≤ 20) ∧
  ∀ p, H p = none → Q (.ref p) (upd H p (.lst ((bs.mergeSort (PySem.W.dataLe false Prod.snd)).map Prod.fst)))
def rSortK (K : PySem.W.Frag) : List V → Hp → VK → Prop := fun xs H Q => ∃ (a : Addr) (kvs : List (Key × V)) (ks : List Int), xs = [.ref a] ∧ Rd H a (.dK kvs) ∧ kvs.map (·.1) = ks.map Sum.inl ∧ ks.length < 64 ∧
  ∀ p, H p = none → Q (.ref p) (upd H p (.lst ((ks.mergeSort fun a b => decide (a ≤ b)).map V.int)))
/-- the keys of a dict whose keys are tuples -/
def rSortKT (K : PySem.W.Frag) : List V → Hp → VK → Prop := fun xs H Q => ∃ (a : Addr) (kvs : List (List Key × V)), xs = [.ref a] ∧ H a = some (.dT kvs) ∧ PySem.W.AllAlike (kvs.map fun p => keyT p.1) ∧ Srtb (kvs.map fun p => keyT p.1) ∧ (∀ d ∈ kvs.map (fun p => keyT p.1), d.depth ≤ 20) ∧
  ∀ bs : List (V × PyData), bs.map Prod.snd = kvs.map (fun p => keyT p.1) → (∀ b ∈ bs, ∃ (c : Addr) (ks : List Key), b.1 = .ref c ∧ b.2 = keyT ks ∧ H c = some (.tup (ks.map kV)) ∧ ks.length ≤ sizeLine) → ∀ p, H p = none → Q (.ref p) (upd H p (.lst ((bs.mergeSort (PySem.W.dataLe false Prod.snd)).map Prod.fst)))
def rSortB (K : PySem.W.Frag) : List V → Hp → VK → Prop := fun xs H Q => ((rSortD K xs H Q ∨ rSortT K xs H Q) ∨ rSortK K xs H Q) ∨ rSortKT K xs H Q
end PV

/-! PV.30: zip of two -/
namespace PV
open PySem PySem.Spec L2 RZ
section
variable {K : PySem.W.Frag} {O : AP} {H H' : Hp} {a b : Addr} {xs ys : List PyData} {P : AP → Hp → Prop}
theorem zip_at {i : Nat} {dx dy : PyData} (h1 : xs[i]? = some dx) (h2 : ys[i]? = some dy) : (zipD [xs, ys])[i]? = some (.tuple [dx, dy]) := by
  show (List.zipWith _ xs ys)[i]? = _
  rw [List.getElem?_zipWith, h1, h2]
theorem zip_len : (zipD [xs, ys]).length = min xs.length ys.length := by
  show (List.zipWith _ xs ys).length = _
  simp
theorem pair_sh {T : Addr} {x y : V} {dx dy : PyData} (n : H T = none) (sx : Sh K O H x dx) (sy : Sh K O H y dy) : Sh K O (upd H T (.tup [x, y])) (.ref T) (.tuple [dx, dy]) :=
  sh_tuple.mpr ⟨T, _, rfl, upd_same, by simp [sizeLine_eq], .cons (sx.go (Keep.new (M := fun _ => False) n) (fun _ z => z.elim) fun a z => .inl z) (.cons (sy.go (Keep.new (M := fun _ => False) n) (fun _ z => z.elim) fun a z => .inl z) .nil)⟩
theorem itz_ok (h : ∀ O H, P O H → ShT K O H (.ref a) (.list xs) ∧ ShT K O H (.ref b) (.list ys)) : ItOk K (Itz K a b) (zipD [xs, ys]) P := by
  refine ⟨fun i O H p hi => ?_, fun O H p => ?_, fun i O H x H' p hi hy => ?_⟩
  all_goals
    obtain ⟨h1, h2⟩ := h _ _ p
    obtain ⟨a', us, e1, l1, _, q1⟩ := t_list h1
    obtain ⟨b', ws, e2, l2, _, q2⟩ := t_list h2
    cases e1; cases e2
    rw [zip_len] at *
  · obtain ⟨x, hx, _⟩ := Paired.get q1 (List.getElem?_eq_getElem (by omega : i < xs.length))
    obtain ⟨y, hy, _⟩ := Paired.get q2 (List.getElem?_eq_getElem (by omega : i < ys.length))
    exact ⟨us, ws, x, y, SqL.of l1, SqL.of l2, hx, hy⟩
  · refine ⟨us, ws, SqL.of l1, SqL.of l2, ?_⟩
    rw [Paired.len q1, Paired.len q2]; omega
  · obtain ⟨T, u, w, rfl, nT, rfl, f1, f2⟩ := hy
    obtain ⟨x, hx, sx⟩ := Paired.get q1 (List.getElem?_eq_getElem (by omega : i < xs.length))
    obtain ⟨y, hy, sy⟩ := Paired.get q2 (List.getElem?_eq_getElem (by omega : i < ys.length))
    have g1 := f1 _ (SqL.of l1)
    have g2 := f2 _ (SqL.of l2)
    rw [hx] at g1; cases g1
    rw [hy] at g2; cases g2
    exact ⟨Keep.new nT, _, zip_at (List.getElem?_eq_getElem _) (List.getElem?_eq_getElem _), pair_sh nT sx sy⟩
theorem itzT_ok (h : ∀ O H, P O H → ShT K O H (.ref a) (.tuple xs) ∧ ShT K O H (.ref b) (.tuple ys)) : ItOk K (ItzT K a b) (zipD [xs, ys]) P := by
  refine ⟨fun i O H p hi => ?_, fun O H p => ?_, fun i O H x H' p hi hy => ?_⟩
  all_goals
    obtain ⟨h1, h2⟩ := h _ _ p
    obtain ⟨a', us, e1, l1, _, q1⟩ := t_tup h1
    obtain ⟨b', ws, e2, l2, _, q2⟩ := t_tup h2
    cases e1; cases e2
    rw [zip_len] at *
  · obtain ⟨x, hx, _⟩ := Paired.get q1 (List.getElem?_eq_getElem (by omega : i < xs.length))
    obtain ⟨y, hy, _⟩ := Paired.get q2 (List.getElem?_eq_getElem (by omega : i < ys.length))
    exact ⟨us, ws, x, y, l1, l2, hx, hy⟩
  · refine ⟨us, ws, l1, l2, ?_⟩
    rw [Paired.len q1, Paired.len q2]; omega
  · obtain ⟨T, u, w, rfl, nT, rfl, f1, f2⟩ := hy
    obtain ⟨x, hx, sx⟩ := Paired.get q1 (List.getElem?_eq_getElem (by omega : i < xs.length))
    obtain ⟨y, hy, sy⟩ := Paired.get q2 (List.getElem?_eq_getElem (by omega : i < ys.length))
    have g1 := f1 _ l1
    have g2 := f2 _ l2
    rw [hx] at g1; cases g1
    rw [hy] at g2; cases g2
    exact ⟨Keep.new nT, _, zip_at (List.getElem?_eq_getElem _) (List.getElem?_eq_getElem _), pair_sh nT sx sy⟩
end
section
variable {X : Cx} {xc : XC} {W : WX} {cl : Nat → List Arg → DS → FRes} {K : PySem.W.Frag}
theorem stab {v : V} {d : PyData} {O O' M : AP} {H H' : Hp} (p : Sh K O H v d) (k : Keep M H H') (m : ∀ a, M a → O a) (n : ∀ a, O' a → O a ∨ H a = none) : Sh K O' H' v d := p.go k m n
theorem zip_ok {es : Es} {σ : L2.St} {H : Hp} {Rr : L2.It → Hp → Prop} (h : tI xc K W (fun m => evI cl (.zip es) m) σ H Rr) :
    tEs xc K W (fun m => evs cl es m) σ H fun vs H1 => ∃ a b xs ys, vs = [.ref a, .ref b] ∧ ((SqL K H1 a xs ∧ SqL K H1 b ys ∧ Rr (Itz K a b) H1) ∨ (SqT K H1 a xs ∧ SqT K H1 b ys ∧ Rr (ItzT K a b) H1)) := by
  obtain ⟨g, O0, e, s, G, h⟩ := h
  refine ⟨g, O0, e, s, G, ?_⟩
  show PostEs xc K W g O0 e σ H _ (evs cl es ⟨e, s⟩)
  have h : PostI xc K W g O0 e σ H Rr (match evs cl es ⟨e, s⟩ with
    | .ok [.v (.tuple xs), .v (.tuple ys)] m1 => .ok (zipD [xs, ys], none) m1
    | .ok [.v (.list xs), .v (.list ys)] m1 => .ok (zipD [xs, ys], none) m1
    | .ok [.fl xs, .fl ys] m1 => .ok (zipD [xs, ys], none) m1
    | .ok [.v (.list xs), .fl ys] m1 => .ok (zipD [xs, ys], none) m1
    | .ok [.fl xs, .v (.list ys)] m1 => .ok (zipD [xs, ys], none) m1
    | .ok _ _ => .bad
    | .rz c f m1 => .rz c f m1
    | .bad => .bad) := h
  generalize hf : evs cl es ⟨e, s⟩ = res at h ⊢
  have lists : ∀ {m1 : M} {r1 r2 : PV.R} {xs ys : List PyData}, PostI xc K W g O0 e σ H Rr (.ok (zipD [xs, ys], none) m1) → (∀ v H1 F F1, Stp K g O0 e σ H F m1 H1 → (∀ p ∈ F1, p ∈ F) → RV1 K g (Ow (plus O0 F) m1.e σ) σ H1 v F1 r1 → Sh K (Ow O0 m1.e σ) H1 v (.list xs)) → (∀ v H1 F F1, Stp K g O0 e σ H F m1 H1 → (∀ p ∈ F1, p ∈ F) → RV1 K g (Ow (plus O0 F) m1.e σ) σ H1 v F1 r2 → Sh K (Ow O0 m1.e σ) H1 v (.list ys)) →
      PostEs xc K W g O0 e σ H (fun vs H1 => ∃ a b xs ys, vs = [.ref a, .ref b] ∧ ((SqL K H1 a xs ∧ SqL K H1 b ys ∧ Rr (Itz K a b) H1) ∨ (SqT K H1 a xs ∧ SqT K H1 b ys ∧ Rr (ItzT K a b) H1))) (.ok [r1, r2] m1) := fun {m1 r1 r2 xs ys} h c1 c2 vs H1 F t rv => by
    obtain ⟨x, vs', F1, F2, rfl, rfl, q1, q2, _⟩ := RVs.uncons rv
    obtain ⟨y, rfl, q3⟩ := rvs1 q2
    have s1 := c1 x H1 _ F1 t (fun p hp => List.mem_append_left _ hp) q1
    have s2 := c2 y H1 _ F2 t (fun p hp => List.mem_append_right _ hp) q3
    obtain ⟨a, us, rfl, l1, _, _⟩ := sh_list.mp s1
    obtain ⟨b, ws, rfl, l2, _, _⟩ := sh_list.mp s2
    exact ⟨a, b, us, ws, rfl, .inl ⟨l1.sq, l2.sq, h _ H1 _ t ⟨fun O H => Sh K O H (.ref a) (.list xs) ∧ Sh K O H (.ref b) (.list ys), itz_ok fun O H z => ⟨z.1.top, z.2.top⟩, ⟨s1, s2⟩, fun M O O' H H' p k m n => ⟨stab p.1 k m n, stab p.2 k m n⟩⟩⟩⟩
  have cv : ∀ {m1 : M} {xs : List PyData} (v : V) (H1 : Hp) (F F1 : List Addr), Stp K g O0 e σ H F m1 H1 → (∀ p ∈ F1, p ∈ F) → RV1 K g (Ow (plus O0 F) m1.e σ) σ H1 v F1 (.v (.list xs)) → Sh K (Ow O0 m1.e σ) H1 v (.list xs) := fun v H1 F F1 t _ q => q.2.weak fun a z => z.imp .inl id
  have cf : ∀ {m1 : M} {xs : List PyData} (v : V) (H1 : Hp) (F F1 : List Addr), Stp K g O0 e σ H F m1 H1 → (∀ p ∈ F1, p ∈ F) → RV1 K g (Ow (plus O0 F) m1.e σ) σ H1 v F1 (.fl xs) → Sh K (Ow O0 m1.e σ) H1 v (.list xs) := fun v H1 F F1 t hs q => by
    obtain ⟨p, us, rfl, rfl, hp, z, w⟩ := q
    obtain ⟨_, n1, n2, _⟩ := t.new p (hs p (by simp))
    exact sh_list.mpr ⟨p, us, rfl, ⟨fun z => z.elim n1 n2, hp⟩, z, w.weak fun a z => z.imp .inl id⟩
  have tups : ∀ {m1 : M} {xs ys : List PyData}, PostI xc K W g O0 e σ H Rr (.ok (zipD [xs, ys], none) m1) → PostEs xc K W g O0 e σ H (fun vs H1 => ∃ a b xs ys, vs = [.ref a, .ref b] ∧ ((SqL K H1 a xs ∧ SqL K H1 b ys ∧ Rr (Itz K a b) H1) ∨ (SqT K H1 a xs ∧ SqT K H1 b ys ∧ Rr (ItzT K a b) H1))) (.ok [.v (.tuple xs), .v (.tuple ys)] m1) := fun {m1 xs ys} h vs H1 F t rv => by
    obtain ⟨x, vs', F1, F2, rfl, rfl, q1, q2, _⟩ := RVs.uncons rv
    obtain ⟨y, rfl, q3⟩ := rvs1 q2
    have s1 : Sh K (Ow O0 m1.e σ) H1 x (.tuple xs) := q1.2.weak fun a z => z.imp .inl id
    have s2 : Sh K (Ow O0 m1.e σ) H1 y (.tuple ys) := q3.2.weak fun a z => z.imp .inl id
    obtain ⟨a, us, rfl, l1, _, _⟩ := sh_tuple.mp s1
    obtain ⟨b, ws, rfl, l2, _, _⟩ := sh_tuple.mp s2
    exact ⟨a, b, us, ws, rfl, .inr ⟨l1.sq, l2.sq, h _ H1 _ t ⟨fun O H => Sh K O H (.ref a) (.tuple xs) ∧ Sh K O H (.ref b) (.tuple ys), itzT_ok fun O H z => ⟨z.1.top, z.2.top⟩, ⟨s1, s2⟩, fun M O O' H H' p k m n => ⟨stab p.1 k m n, stab p.2 k m n⟩⟩⟩⟩
  split at h
  · exact tups h
  · exact lists h cv cv
  · exact lists h cf cf
  · exact lists h cv cf
  · exact lists h cf cv
  · exact h.elim
  · exact h
  · exact h
theorem i_zip {e1 e2 : Expr} {a1 a2 : E} {p pos tpos : Pos} {elts : List Expr} {kk : Nat} (hm : X.mg "zip" = none) (h1 : DE X xc W cl e1 a1) (h2 : DE X xc W cl e2 a2) (hg : Gl X "zip" := by rfl) (hs : starEach [e1, e2] X.env = (false, eval e1 X.env) :: starEach [e2] X.env := by rfl) (hs2 : starEach [e2] X.env = (false, eval e2 X.env) :: starEach [] X.env := by rfl) (hpl : (backTo pos (starEach [e2] X.env)).any (·.1) = false := by rfl) :
    DI X xc W cl (.Tuple elts kk tpos) (.Call (.Name "zip" p) [e1, e2] [] pos) (.zip (.cons a1 (.cons a2 .nil))) := PIimp (pi_zipA hg hm (da_cons h1 (da_cons h2 da_nil hs2) hs) hs hpl) fun σ H R h => zip_ok h
end
end PV

/-! PV.31: list(range(n)), {} -/
namespace PV
open PySem PySem.Spec L2
section
variable {X : Cx} {xc : XC} {W : WX} {cl : Nat → List Arg → DS → FRes} {k : Nat} {a : Expr} {ea : E} {p p2 pos pos2 : Pos}
theorem emp_okK {K : PySem.W.Frag} {σ : L2.St} {H : Hp} {Q : VK} (h : tE xc K W (fun m => ev cl (.emp false) m) σ H Q) : tDNewK σ H Q := fun p np => by
  obtain ⟨g, O0, e, s, G, h⟩ := h
  exact post_op h G G.stp (F' := [p]) (Keep.new np) (newF np) ⟨p, _, rfl, rfl, upd_same, [], rfl, .nil⟩
theorem d_empK : DE X xc W cl (.Dict [] [] pos) (.emp false) := PEimp pe_dnewK fun σ H Q h => emp_okK h
end
end PV

/-! PV.32: x[i] = v -/
namespace PV
open PySem PySem.Spec L2
section
variable {xc : XC} {K : PySem.W.Frag} {W : WX} {cl : Nat → List Arg → DS → FRes} {g : Gd} {O0 : AP} {e : Env} {s : DS} {σ : L2.St} {H : Hp} {i : Nat}
end
end PV

/-! PV.33: x[k] = v, the word -/
namespace PV
open PySem PySem.Spec L2
section
variable {X : Cx} {xc : XC} {W : WX} {cl : Nat → List Arg → DS → FRes} {k : Nat} {a b : Expr} {ea eb : E} {p pos pos' : Pos} {n : Str}
end
end PV

/-! PV.34: a, b, c = x, y, z -/
namespace PV
open PySem PySem.Spec L2
section
variable {X : Cx} {xc : XC} {W : WX} {cl : Nat → List Arg → DS → FRes} {k : Nat} {a b c : Expr} {ea eb ec : E} {pos px py pz pt : Pos} {n1 n2 n3 : Str}
end
end PV

/-! PV.35: what no word speaks of promises nothing; is True -/
namespace PV
open PySem PySem.Spec L2
section
variable {X : Cx} {xc : XC} {W : WX} {cl : Nat → List Arg → DS → FRes} {k : Nat} {a e : Expr} {ea : E} {st : Stmt} {j : Nat} {pos p2 : Pos} {b : Bool}
def rIsB (neg : Bool) : R2 := fun x y H Q => ∃ b, y = .bl b ∧ Q (.bl (decide (x = .bl b) != neg)) H
def rIsB1 (b neg : Bool) : V → Hp → VK → Prop := fun x H Q => Q (.bl (decide (x = .bl b) != neg)) H
end
end PV

/-! PV.36: a chain gives a bool -/
namespace PV
open PySem PySem.Spec L2
section
variable {cl : Nat → List Arg → DS → FRes} {o1 o2 : Op} {a b c : E}
theorem b_chn (hb : ∀ ds r, opD o2 ds = some r → ∃ b, r = .v (.bool b)) : BoolE cl (.chn o1 o2 a b c) := by
  intro m r m1 h
  unfold ev at h
  cases ha : ev cl a m with
  | ok ra m2 =>
    rw [ha] at h
    cases ra with
    | v da =>
      simp only at h
      cases h2 : ev cl b m2 with
      | ok rb m3 =>
        rw [h2] at h
        cases rb with
        | v db =>
          simp only at h
          cases h3 : opD o1 [da, db] with
          | none => rw [h3] at h; cases h
          | some r1 =>
            rw [h3] at h
            cases r1 with
            | v d => cases d with
              | bool k => cases k with
                | true =>
                  simp only at h
                  cases h4 : ev cl c m3 with
                  | ok rc m4 =>
                    rw [h4] at h
                    cases rc with
                    | v dc =>
                      simp only at h
                      cases h5 : opD o2 [db, dc] with
                      | none => rw [h5] at h; cases h
                      | some z => rw [h5] at h; cases h; exact hb _ _ h5
                    | _ => cases h
                  | rz _ _ _ => rw [h4] at h; cases h
                  | bad => rw [h4] at h; cases h
                | false => cases h; exact ⟨_, rfl⟩
              | _ => cases h
            | _ => cases h
        | _ => cases h
      | rz _ _ _ => rw [h2] at h; cases h
      | bad => rw [h2] at h; cases h
    | _ => cases h
  | rz _ _ _ => rw [ha] at h; cases h
  | bad => rw [ha] at h; cases h
end
end PV

/-! PV.37: several at once by a tuple (names that comprehensions see) -/
namespace PV
open PySem PySem.Spec L2
def gNs : List Nat → TGs
  | [] => gNil
  | i :: is => gCons (gName i) (gNs is)
section
variable {xc : XC} {K : PySem.W.Frag} {g : Gd} {O0 : AP} {e e' : Env} {σ σ' : L2.St} {H H' H2 : Hp} {A : Nat → Bool} {F : List Addr} {m : M} {vs : List V} {rs : List R}
theorem StX.more (t : StX K g O0 e σ H A F m σ' H') (k : Keep (fun _ => False) H' H2) : StX K g O0 e σ H A F m σ' H2 :=
  ⟨t.keep.trans (M' := fun _ => False) k fun _ z => z.elim, t.own, fun p hp => ⟨(t.new p hp).1, (t.new p hp).2.1, (t.new p hp).2.2.1, fun z => (t.new p hp).2.2.2 (k.old p z)⟩,
    t.rep.go k (fun _ z => z.elim) (fun _ z => .inl z), t.dk.keep k (fun _ z => z.elim), t.fx⟩
end
section
variable {X : Cx} {xc : XC} {W : WX} {cl : Nat → List Arg → DS → FRes} {k : Nat} {ts es : List Expr} {pos pt pt2 : Pos} {as : Es}
end
end PV

/-! PV.38: enumerate of a tuple -/
namespace PV
open PySem PySem.Spec L2
theorem meets_enum1 {v : Value} {o : Obj} {H : Heap → Prop} (B : Begins v o H) :
    Meets (Builtin.«enumerate.__new__» ⟨[.type "enumerate", v], []⟩) (fun _ R s => H s.heap ∧
      R (.ok (.ret (.ref (s.heap.push o).objs.size))) { s with heap := (s.heap.push o).push { cls := .type "enumerate", data := .fields #[.none, .bool false, .ref s.heap.objs.size, rawInt 0, .none, .none] } }) :=
  .of_wp fun prog w A R s h => by
    obtain ⟨hp, g, d, tk, os⟩ := s; obtain ⟨h1, h⟩ := h
    have hsub := sub_enumerate
    have q1 : ∀ {A' : Around} {E : Value → Shared → Prop} {Q : Value → Shared → Prop}, Q (.ref hp.objs.size) ⟨hp.push o, g, d, tk, os⟩ → wpAny (model prog w) A' (pyIter v) Q E ⟨hp, g, d, tk, os⟩ :=
      fun q => B.iter prog w _ _ ⟨hp, g, d, tk, os⟩ _ h1 q
    wp_walk using q1
    refine wpAny_stack_any fun st => wpAny_pure ?_
    split
    · rename_i c _ _ _ _ _
      cases (c == Value.type "enumerate")
      · wp_walk using q1
        exact ⟨_, rfl, h⟩
      · wp_walk using q1
        exact ⟨_, rfl, h⟩
    · wp_walk using q1
      exact ⟨_, rfl, h⟩
theorem enum_begins1 {prog : Program} {w : World} {A : Around} {E : Value → Shared → Prop} {s : Shared} {v : Value} {o : Obj} {H : Heap → Prop} {Q : Value → Shared → Prop} (B : Begins v o H) (h1 : H s.heap)
    (h : ∀ h', IsEnum h' (s.heap.objs.size + 1) s.heap.objs.size 0 .none → h'.get? s.heap.objs.size = some o → h'.objs.size = s.heap.objs.size + 2 →
      (∀ b o, s.heap.get? b = some o → h'.get? b = some o) → Q (.ref (s.heap.objs.size + 1)) { s with heap := h' }) :
    wpAny (model prog w) A (call (.type "enumerate") [v]) Q E s := by
  refine callType_new F.called_enumerate (by decide) (F.typeCall_enumerate_1 _) (F.newCall_enumerate_1 _) (fun obj => F.args_object_init_2 obj _) F.entry_enumerate_new
    (meets_enum1 B) ⟨h1, ?_⟩
  have hz : (s.heap.push o).objs.size = s.heap.objs.size + 1 := Heap.size_push ..
  show _ ∧ _
  rw [hz]
  have he : IsEnum ((s.heap.push o).push { cls := .type "enumerate", data := .fields #[.none, .bool false, .ref s.heap.objs.size, rawInt 0, .none, .none] }) (s.heap.objs.size + 1) s.heap.objs.size 0 .none := by
    have := Heap.get?_push_size (s.heap.push o) (o := { cls := .type "enumerate", data := .fields #[.none, .bool false, .ref s.heap.objs.size, rawInt 0, .none, .none] }) rfl
    rw [hz] at this; exact this
  refine ⟨⟨_, he, rfl⟩, h _ he (Heap.get?_push_of_some _ (Heap.get?_push_size _ B.free)) (by rw [Heap.size_push, hz]) fun b o x => Heap.get?_push_of_some _ (Heap.get?_push_of_some _ x)⟩
def IteT (K : PySem.W.Frag) (a : Addr) : L2.It :=
  ⟨fun i H => ∃ (xs : List V) (x : V), SqT K H a xs ∧ xs[i]? = some x, fun i H v H' => ∃ T x, v = .ref T ∧ H T = none ∧ H' = upd H T (.tup [.int (i : Nat), x]) ∧ ∀ xs, SqT K H a xs → xs[i]? = some x, fun i H => ∃ xs : List V, SqT K H a xs ∧ xs.length = i⟩
theorem turn_enumT {P : Program} {w : World} {K : PySem.W.Frag} {elts : List Expr} {kk : Nat} {tpos : Pos} (a e it : Addr) :
    Turn P w K (.Tuple elts kk tpos) (IteT K a) [e, it] e (fun i h => (∃ old, IsEnum h e it ((i : Nat) : Int) old) ∧ h.IsTupleIter it a i ∧ e ≠ it) where
  mem := by simp
  obj := fun i h st b hb => by
    obtain ⟨⟨old, he⟩, ⟨o, ho, hc, hd⟩, _⟩ := st
    have e' : b = e ∨ b = it := by simpa using hb
    rcases e' with z | z
    · rw [z]; exact ⟨_, he, fun v q => nomatch q⟩
    · rw [z]; exact ⟨o, ho, fun v q => by rw [hd] at q; cases q⟩
  keep := fun i h h' st k => let ⟨⟨old, he⟩, hi, hne⟩ := st; ⟨⟨old, k e (by simp) _ he⟩, hi.at fun o q => k it (by simp) o q, hne⟩
  item := by
    intro X hP hw hK hc i pins s σ H E I hf st hg
    subst hP hw hK
    obtain ⟨⟨old, he⟩, hit, hne⟩ := st
    obtain ⟨xs, x, hq, hx⟩ := hg
    obtain ⟨its, rv, p, hz⟩ := I.tuple hq
    obtain ⟨u, hu, ru⟩ := rv.get hx
    have hel : e < s.heap.objs.size := Heap.lt_size he
    have hil : it < s.heap.objs.size := by obtain ⟨_, q, _⟩ := hit; exact Heap.lt_size q
    have hti : a ≠ it := fun z => by
      subst z
      obtain ⟨o, ho, hc1, _⟩ := hit
      obtain ⟨o2, ho2, hc2, _⟩ := p
      rw [ho] at ho2; cases ho2
      rw [hc1] at hc2
      have hc2 : Value.type "tuple_iterator" = Value.type "tuple" := hc2
      exact absurd hc2 (by decide)
    have hte : e ≠ a := fun z => by
      subst z
      obtain ⟨o2, ho2, hc2, _⟩ := p
      have he2 : s.heap.get? e = some _ := he
      rw [he2] at ho2; cases ho2
      have hc2 : Value.type "enumerate" = Value.type "tuple" := hc2
      exact absurd hc2 (by decide)
    have hlt : i < its.toArray.size := by
      rw [List.size_toArray]; exact (List.getElem?_eq_some_iff.mp hu).1
    refine wpAny_pyNext_enum_itemD (Draws.tuple (A := X.A.in1) (show X.A.in1.handled = none from I.ok.hd hc) it a hti its.toArray) he ⟨hit, p⟩ hlt hne (by simp [hne, hte]) fun y h' tk hy ho hit' hT hsz hk => ?_
    have hyu : y = u := by
      have : its.toArray[i]? = some u := by simpa using hu
      rw [this] at hy; cases hy; rfl
    subst hyu
    refine ⟨_, rfl, wpAny_letOwnedTupleGo_enum (s := { s with heap := h', toks := tk + 1 }) ho fun h'' he' sb => ?_⟩
    have hT2 : h''.get? s.heap.objs.size = some { cls := .type "tuple", data := .seq #[.int i tk, y] } := (sb.2 _ (Nat.ne_of_gt hel)).trans hT
    have new : ObjOk X.prog X.w (upd H s.heap.objs.size (.tup [.int (i : Nat), x])) h'' s.heap.objs.size (.tup [.int (i : Nat), x]) :=
      ⟨by show 2 ≤ sizeLine; decide, [.int i tk, y], .cons ⟨_, rfl⟩ (.cons ru .nil), ⟨_, hT2, rfl, _, rfl⟩⟩
    have I1 : Inv X pins σ (upd H s.heap.objs.size (.tup [.int (i : Nat), x])) { s with heap := h'', toks := tk + 1 } :=
      I.turnedNew (ch := [e, it]) (fun b ob hb q => (sb.2 b (fun z => hb (by simp [z]))).trans (hk b ob (fun z => hb (by simp [z])) (fun z => hb (by simp [z])) q)) hf (Nat.le_refl _) new
    refine ⟨.ref s.heap.objs.size, _, I1, rfl, ⟨_, x, rfl, I.hok.fresh (Nat.le_refl _), rfl, fun ys hy => by rw [I.tuple_inj hy hq]; exact hx⟩, ⟨⟨y, ?_⟩, hit'.1.at fun o q => (sb.2 it (Ne.symm hne)).trans q, hne⟩, fun b hb => ?_⟩
    · have e1 : ((i + 1 : Nat) : Int) = (i : Int) + 1 := by omega
      rw [e1]; exact he'
    · have hb' : b < s.heap.objs.size := by
        have e' : b = e ∨ b = it := by simpa using hb
        rcases e' with z | z
        · rw [z]; exact hel
        · rw [z]; exact hil
      rw [upd_ne (Nat.ne_of_lt hb')]
      exact (hf b hb).1
  done := by
    intro X hP hw hK hc i pins s σ H E I hf st hg
    subst hP hw hK
    obtain ⟨⟨old, he⟩, hit, hne⟩ := st
    obtain ⟨xs, hq, hx⟩ := hg
    obtain ⟨its, rv, p, hz⟩ := I.tuple hq
    obtain ⟨f0, f1, f2, f3, f4, f5⟩ := hf it (by simp)
    have hl := rv.length
    have hti : a ≠ it := fun z => by
      subst z
      obtain ⟨o, ho, hc1, _⟩ := hit
      obtain ⟨o2, ho2, hc2, _⟩ := p
      rw [ho] at ho2; cases ho2
      rw [hc1] at hc2
      have hc2 : Value.type "tuple_iterator" = Value.type "tuple" := hc2
      exact absurd hc2 (by decide)
    have hi : i = its.toArray.size := by rw [List.size_toArray, ← hl]; exact hx.symm
    subst hi
    exact wpAny_pyNext_enum_endD (Draws.tuple (A := X.A.in1) (show X.A.in1.handled = none from I.ok.hd hc) it a hti its.toArray) he ⟨hit, p⟩ fun h' eb => ⟨rfl, I.turned (t' := s.toks) (fun b o hb q => eb b o hb q) f0 f1 f3 f4 f5⟩
  self := fun A i s Q E st h => let ⟨⟨_, he⟩, _⟩ := st; wpAny_pyIter_enum he h
def iEnumT (K : PySem.W.Frag) (ta : TA) : TI := fun σ H R => ta σ H fun vs H1 => ∃ a xs, vs = [.ref a] ∧ SqT K H1 a xs ∧ R (IteT K a) H1
theorem pi_enumT {X : Cx} {e : Expr} {ta : TA} {p pos tpos : Pos} {elts : List Expr} {kk : Nat} (hg : Gl X "enumerate") (hm : X.mg "enumerate" = none) (ha : PA X [e] ta) (hs : starEach [e] X.env = [(false, eval e X.env)] := by rfl) :
    PI X (.Tuple elts kk tpos) (.Call (.Name "enumerate" p) [e] [] pos) (iEnumT X.K ta) := by
  refine ⟨fun pins s σ H R I h => ?_⟩
  refine PyProof.Rows.Call_ (ld_blt I hg hm PyProof.Rows.boot_enumerate (PyProof.Rows.callWith_type1 (thn (ha.run pos pins s σ H _ I h) fun us s1 ⟨vs, H1, I1, r1, q1⟩ => ?_) hs rfl))
  obtain ⟨a, xs, ex, hq, q⟩ := q1
  subst ex
  cases r1 with
  | cons r rr =>
    cases rr
    cases r
    obtain ⟨its, rv, p', hz⟩ := I1.tuple hq
    refine enum_begins1 (begins_tuple a its.toArray) p' fun h' he hit hsz hk => wpAny_pyIter_enum he ?_
    have I2 : Inv X pins σ H1 { s1 with heap := h' } := I1.kept (t' := s1.toks) hk
    refine ⟨s1.heap.objs.size + 1, [s1.heap.objs.size + 1, s1.heap.objs.size], _, _, H1, rfl, I2, turn_enumT a (s1.heap.objs.size + 1) s1.heap.objs.size, ⟨⟨.none, he⟩, ⟨_, hit, rfl, rfl⟩, Nat.succ_ne_self _⟩, fun b hb => ?_, q⟩
    have e' : b = s1.heap.objs.size + 1 ∨ b = s1.heap.objs.size := by simpa using hb
    have hle : s1.heap.objs.size ≤ b := by
      rcases e' with z | z
      · rw [z]; exact Nat.le_add_right _ _
      · rw [z]; exact Nat.le_refl _
    exact I1.fpOk hle (I1.hok.fresh hle)
section
variable {K : PySem.W.Frag} {a : Addr} {ds : List PyData} {P : AP → Hp → Prop}
theorem enum_at {k : Int} {i : Nat} {d : PyData} (h : ds[i]? = some d) : (enumD k ds)[i]? = some (.tuple [.int (k + (i : Int)), d]) := by
  unfold enumD
  rw [List.getElem?_map, List.getElem?_zipIdx, h]
  simp
theorem enum_len {k : Int} : (enumD k ds).length = ds.length := by simp [enumD]
theorem ite_ok (h : ∀ O H, P O H → ShT K O H (.ref a) (.list ds)) : ItOk K (Ite K a) (enumD 0 ds) P := by
  refine ⟨fun i O H p hi => ?_, fun O H p => ?_, fun i O H x H' p hi hy => ?_⟩
  all_goals
    obtain ⟨b, xs, e, l, _, q⟩ := t_list (h _ _ p)
    cases e
    rw [enum_len] at *
  · obtain ⟨x, hx, _⟩ := Paired.get q (List.getElem?_eq_getElem hi)
    exact ⟨xs, x, SqL.of l, hx⟩
  · exact ⟨xs, SqL.of l, Nat.le_of_eq (Paired.len q)⟩
  · obtain ⟨T, u, rfl, nT, rfl, f1⟩ := hy
    obtain ⟨x, hx, sx⟩ := Paired.get q (List.getElem?_eq_getElem hi)
    have g1 := f1 _ (SqL.of l)
    rw [hx] at g1; cases g1
    refine ⟨Keep.new nT, _, enum_at (List.getElem?_eq_getElem hi), ?_⟩
    rw [Int.zero_add]
    exact pair_sh nT (sh_int.mpr rfl) sx
theorem itet_ok (h : ∀ O H, P O H → ShT K O H (.ref a) (.tuple ds)) : ItOk K (IteT K a) (enumD 0 ds) P := by
  refine ⟨fun i O H p hi => ?_, fun O H p => ?_, fun i O H x H' p hi hy => ?_⟩
  all_goals
    obtain ⟨b, xs, e, l, _, q⟩ := t_tup (h _ _ p)
    cases e
    rw [enum_len] at *
  · obtain ⟨x, hx, _⟩ := Paired.get q (List.getElem?_eq_getElem hi)
    exact ⟨xs, x, l, hx⟩
  · exact ⟨xs, l, Paired.len q⟩
  · obtain ⟨T, u, rfl, nT, rfl, f1⟩ := hy
    obtain ⟨x, hx, sx⟩ := Paired.get q (List.getElem?_eq_getElem hi)
    have g1 := f1 _ l
    rw [hx] at g1; cases g1
    refine ⟨Keep.new nT, _, enum_at (List.getElem?_eq_getElem hi), ?_⟩
    rw [Int.zero_add]
    exact pair_sh nT (sh_int.mpr rfl) sx
end
section
variable {X : Cx} {xc : XC} {W : WX} {cl : Nat → List Arg → DS → FRes} {K : PySem.W.Frag} {g : Gd} {O O0 : AP} {e : Env} {s : DS} {σ : L2.St} {H H1 H' : Hp} {F : List Addr} {m : M}
theorem one_es {a : E} {Q : VK} (h : tE xc K W (fun m => ev cl a m) σ H Q) : tEs xc K W (fun m => evs cl (.cons a .nil) m) σ H fun vs H1 => ∃ v, vs = [v] ∧ Q v H1 := by
  obtain ⟨g, O0, e, s, G, h⟩ := h
  refine ⟨g, O0, e, s, G, ?_⟩
  have h : PostE xc K W g O0 e σ H Q (ev cl a ⟨e, s⟩) := h
  have e1 : evs cl (.cons a .nil) ⟨e, s⟩ = match ev cl a ⟨e, s⟩ with
      | .ok r m1 => Res.ok [r] m1
      | .rz c f m1 => .rz c f m1
      | .bad => .bad := by
    show (match ev cl a ⟨e, s⟩ with
      | .ok r m1 => match Res.ok ([] : List R) m1 with
        | .ok rs m2 => Res.ok (r :: rs) m2
        | .rz c f m2 => .rz c f m2
        | .bad => .bad
      | .rz c f m1 => .rz c f m1
      | .bad => .bad) = _
    cases ev cl a ⟨e, s⟩ <;> rfl
  show PostEs xc K W g O0 e σ H _ (evs cl (.cons a .nil) ⟨e, s⟩)
  rw [e1]
  cases hf : ev cl a ⟨e, s⟩ with
  | bad => rw [hf] at h; exact h
  | rz c f m1 => rw [hf] at h; exact h
  | ok r m1 =>
    rw [hf] at h
    intro vs H1 F t rv
    obtain ⟨v, rfl, q⟩ := rvs1 rv
    exact ⟨v, rfl, h v H1 F t q⟩
theorem en_l {a : E} {R : L2.It → Hp → Prop} (h : tE xc K W (fun m => ev cl a m) σ H fun x H1 => ∃ a xs, x = .ref a ∧ SqL K H1 a xs ∧ R (Ite K a) H1) : iEnum K (tEs xc K W fun m => evs cl (.cons a .nil) m) σ H R :=
  (one_es h).mono fun vs H1 ⟨v, e, a, xs, e2, q⟩ => ⟨a, xs, by rw [e, e2], q⟩
theorem en_t {a : E} {R : L2.It → Hp → Prop} (h : tE xc K W (fun m => ev cl a m) σ H fun x H1 => ∃ a xs, x = .ref a ∧ SqT K H1 a xs ∧ R (IteT K a) H1) : iEnumT K (tEs xc K W fun m => evs cl (.cons a .nil) m) σ H R :=
  (one_es h).mono fun vs H1 ⟨v, e, a, xs, e2, q⟩ => ⟨a, xs, by rw [e, e2], q⟩
theorem i_enm {a : Expr} {ea : E} {elts : List Expr} {kk : Nat} {tpos p pos : Pos} (hm : X.mg "enumerate" = none) (ha : DE X xc W cl a ea) (hg : Gl X "enumerate" := by rfl) (hs : starEach [a] X.env = (false, eval a X.env) :: starEach [] X.env := by rfl) (hs1 : starEach [a] X.env = [(false, eval a X.env)] := by rfl) : DI X xc W cl (.Tuple elts kk tpos) (.Call (.Name "enumerate" p) [a] [] pos) (.enm ea 0) :=
  PIimp (PIor (pi_enum hg hm (da_cons ha da_nil hs) hs1) (pi_enumT hg hm (da_cons ha da_nil hs) hs1)) fun σ H R h => by
    obtain ⟨g, O0, e, s, G, h⟩ := h
    have h : PostI xc X.K W g O0 e σ H R (match ev cl ea ⟨e, s⟩ with
      | .ok r m1 => match items m1.e r with
        | some (ds, src) => .ok (enumD 0 ds, src) m1
        | none => .bad
      | .rz c f m1 => .rz c f m1
      | .bad => .bad) := h
    cases hf : ev cl ea ⟨e, s⟩ with
    | bad => simp only [hf] at h; exact h.elim
    | rz c f m1 => exact .inl (en_l ⟨g, O0, e, s, G, by show PostE xc X.K W g O0 e σ H _ (ev cl ea ⟨e, s⟩); rw [hf]; simp only [hf] at h; exact h⟩)
    | ok r m1 =>
      simp only [hf] at h
      have list : ∀ ds, (∀ v H1 F, Stp X.K g O0 e σ H F m1 H1 → RV1 X.K g (Ow (plus O0 F) m1.e σ) σ H1 v F r → Sh X.K (Ow O0 m1.e σ) H1 v (.list ds)) → items m1.e r = some (ds, none) → ∃ g O0 e s, Good X.K g O0 e s σ H ∧ PostE xc X.K W g O0 e σ H (fun x H1 => ∃ a xs, x = .ref a ∧ SqL X.K H1 a xs ∧ R (Ite X.K a) H1) (ev cl ea ⟨e, s⟩) := fun ds hv hi => by
        simp only [hi] at h
        refine ⟨g, O0, e, s, G, ?_⟩
        rw [hf]
        intro v H1 F t1 rv
        have hs := hv v H1 F t1 rv
        obtain ⟨a, xs, rfl, l, _, q⟩ := sh_list.mp hs
        exact ⟨a, xs, rfl, l.sq, h _ H1 F t1 ⟨fun O H => Sh X.K O H (.ref a) (.list ds), ite_ok fun O H z => z.top, hs, fun M O O' H H' p k m n => p.go k m n⟩⟩
      cases r with
      | dk => simp only [items] at h; exact h.elim
      | fd t kvs => simp only [items] at h; exact h.elim
      | fl ds =>
        refine .inl (en_l (list ds (fun v H1 F t1 rv => ?_) rfl))
        obtain ⟨p, xs, rfl, rfl, hp, z, q⟩ := rv
        obtain ⟨_, n1, n2, _⟩ := t1.new p (by simp)
        exact sh_list.mpr ⟨p, xs, rfl, ⟨fun z => z.elim n1 n2, hp⟩, z, q.weak fun a z => z.imp .inl id⟩
      | v d =>
        cases d with
        | list ds => exact .inl (en_l (list ds (fun v H1 F t1 rv => rv.2.weak fun a z => z.imp .inl id) rfl))
        | tuple ds =>
          simp only [items] at h
          refine .inr (en_t ⟨g, O0, e, s, G, ?_⟩)
          show PostE xc X.K W g O0 e σ H _ (ev cl ea ⟨e, s⟩)
          rw [hf]
          intro v H1 F t1 rv
          have hs : Sh X.K (Ow O0 m1.e σ) H1 v (.tuple ds) := rv.2.weak fun a z => z.imp .inl id
          obtain ⟨a, xs, rfl, l, _, q⟩ := sh_tuple.mp hs
          exact ⟨a, xs, rfl, l.sq, h _ H1 F t1 ⟨fun O H => Sh X.K O H (.ref a) (.tuple ds), itet_ok fun O H z => z.top, hs, fun M O O' H H' p k m n => p.go k m n⟩⟩
        | none => simp only [items] at h; exact h.elim
        | bool b => simp only [items] at h; exact h.elim
        | int b => simp only [items] at h; exact h.elim
        | str b => simp only [items] at h; exact h.elim
        | dict b => simp only [items] at h; exact h.elim
      | pl i =>
        cases hs : m1.e[i]? with
        | none => simp only [items, hs] at h; exact h.elim
        | some sl =>
          cases sl with
          | un => simp only [items, hs] at h; exact h.elim
          | ex a f => simp only [items, hs] at h; exact h.elim
          | dk => simp only [items, hs] at h; exact h.elim
          | od t kvs => simp only [items, hs] at h; exact h.elim
          | sh d =>
            cases d with
            | list ds =>
              refine .inl (en_l (list ds (fun v H1 F t1 rv => ?_) (by simp only [items, hs])))
              obtain ⟨v', h1, h2⟩ := t1.repO.at' i _ hs
              rw [rv.2] at h1; cases h1
              exact h2
            | tuple ds => simp only [items, hs] at h; exact h.elim
            | none => simp only [items, hs] at h; exact h.elim
            | bool b => simp only [items, hs] at h; exact h.elim
            | int b => simp only [items, hs] at h; exact h.elim
            | str b => simp only [items, hs] at h; exact h.elim
            | dict b => simp only [items, hs] at h; exact h.elim
          | ol ds =>
            simp only [items, hs] at h
            refine .inl (en_l ⟨g, O0, e, s, G, ?_⟩)
            show PostE xc X.K W g O0 e σ H _ (ev cl ea ⟨e, s⟩)
            rw [hf]
            intro v H1 F t1 rv
            obtain ⟨p, xs, h1, _, h3, h4, h5⟩ := t1.repO.at' i _ hs
            have hi := rv.2
            rw [hi] at h1; cases h1
            exact ⟨p, xs, rfl, SqL.of h3, h _ H1 F t1 ⟨p, hi, ite_ok fun O H z => z⟩⟩
end
end PV

/-! PV.39: draws with rests (families of _law_draws, _law_next) -/
namespace PV
open PySem PySem.Spec L2
/-! family D: _law_draws, _law_next -/
def cellsD (ns : List Int) : List Int := ns.map absI ++ (List.replicate (if decide (ns.length = 0) = true then 1 else 0) [0]).flatten
def bigD (c : Int) : Int := c * (if decide ((1000000000000000000 : Int) ≤ c) = true then 1 else 0)
def spDraws (K : PySem.W.Frag) (cs : List Int → List Int) : Sp := fun vs H Q _ => ∃ (a : Addr) (ns : List Int), vs = [.ref a] ∧ SqL K H a (ns.map V.int) ∧ ns.length ≤ 63 ∧ ∀ H' d c r, Keep (fun _ => False) H H' → H d = none → H c = none → H r = none → d ≠ c → r ≠ d → r ≠ c → H' d = some (.lst [.ref c, .int 0, .ref r]) → H' c = some (.lst ((cs ns).map V.int)) → H' r = some (.lst (((cs ns).map bigD).map V.int)) → Q (.ref d) H'
def tIntB : List V → Hp → VK → Prop := fun xs H Q => (∃ i, xs = [.int i] ∧ Q (.int i) H) ∨ ∃ k, xs = [.bl k] ∧ Q (.int (if k then 1 else 0)) H
/-- [0] * int(len(script) == 0) -/
def tPad (K : PySem.W.Frag) : TE := tOp rRep (tLst (tCons (tC (.int 0)) tNil)) (tCB tIntB (tCons (tOp (rI0 fun i j => .bl (decide (i = j))) (tCB (lenR K) (tCons (tVar 0) tNil)) (tC (.int 0))) tNil))
def teBig : TE := tOp (rI CMul fun i j => .int (i * j)) (tVar 2) (tCB tIntB (tCons (tOp (rI0 fun i j => .bl (decide (j ≤ i))) (tVar 2) (tOp (rI CPow fun i j => .int (i ^ j.toNat)) (tC (.int 10)) (tC (.int 18)))) tNil))
/-- return [cells, 0, [c * int(c >= 10 ** 18) for c in cells]] -/
def tDrRet (K : PySem.W.Frag) : TS := tRet (tLst (tCons (tVar 1) (tCons (tC (.int 0)) (tCons (tLc (iList K (tVar 1)) (gName 2) tYes teBig [2]) tNil))))
def tDrawsD (K : PySem.W.Frag) : TS :=
  tSeq (tAsg (tOp rCat (tLc (iList K (tSl (rSlL K) (tVar 0) tNoPart (tPart (tC (.int 63))))) (gName 2) tYes (tCB absR (tCons (tVar 2) tNil)) [2]) (tPad K)) (gName 1)) (tDrRet K)
end PV

/-! PV.40: a draw with rests (k32 .. k47, k76) -/
namespace PV
open PySem PySem.Spec L2
def ixD (s : DS) : Nat := (s.cnt % s.cells.length).toNat
def restD (s : DS) : Int := s.rests.getD (ixD s) 0
def cellD (s : DS) : Int := s.cells.getD (ixD s) 0
def okD (n : Int) (s : DS) : Prop := (0 < n ∧ n < 1073741824) ∧ (0 ≤ s.cnt ∧ s.cnt < 1048576) ∧ 0 < s.cells.length ∧ s.rests.length = s.cells.length
instance (n : Int) (s : DS) : Decidable (okD n s) := by unfold okD; infer_instance
def mixD1 (s : DS) : Int := (cellD s % 2147483629 + 40031 * s.cnt + 8011) ^ 3 % 2147483587
def mixD2 (s : DS) : Int := (mixD1 s + 5021 * s.cnt * s.cnt + 41) ^ 3 % 2147483563
/-- a draw of this form, by what it makes where no digit is left -/
def drawR (fin : Int → DS → Int) : List Arg → DS → FRes
  | [.dk 0, .sh (.int n)], s => if okD n s then
      if 0 < restD s then .ok (.v (.int (restD s % n))) ⟨s.cells, s.cnt + 1, s.rests.set (ixD s) (restD s / n), s.obs⟩
      else .ok (.v (.int (fin n s % n))) ⟨s.cells, s.cnt + 1, s.rests, s.obs⟩
    else .bad
  | _, _ => .bad
def drawD : List Arg → DS → FRes := drawR fun _ s => mixD2 s * 65537 % 2305843009213693951 / 8
abbrev tMod : TE → TE → TE := tOp (rI (fun _ j => 0 < j) fun i j => .int (i % j))
abbrev tDiv : TE → TE → TE := tOp (rI CDiv fun i j => .int (i / j))
abbrev tMul : TE → TE → TE := tOp (rI CMul fun i j => .int (i * j))
abbrev tAdd : TE → TE → TE := tOp (rI0 fun i j => .int (i + j))
abbrev tPow : TE → TE → TE := tOp (rI CPow fun i j => .int (i ^ j.toNat))
/-- state, many, index at 2, cells, count, rests at a, b, c, the digit at d; then what follows -/
def tDrawR (K : PySem.W.Frag) (a b c d : Nat) (rest : TS) : TS :=
  tSeq (tAsg (tVar 0) (gLst K 3 (gCons (gName a) (gCons (gName b) (gCons (gName c) gNil)))))
  (tSeq (tAsg (tMod (tVar b) (tCB (lenR K) (tCons (tVar a) tNil))) (gName 2))
  (tSeq (tAsg (tAdd (tVar b) (tC (.int 1))) (gSub (tVar 0) (tC (.int 1)) rSetL))
  (tSeq (tIfS (tTest (tOp (rI0 fun i j => .bl (decide (j < i))) (ix K (tVar c) (tVar 2)) (tC (.int 0))))
      (tSeq (tAsg (tMod (ix K (tVar c) (tVar 2)) (tVar 1)) (gName d))
      (tSeq (tAsg (tDiv (ix K (tVar c) (tVar 2)) (tVar 1)) (gSub (tVar c) (tVar 2) rSetL))
      (tRet (tVar d)))) tNext)
  rest)))
def tDrawD (K : PySem.W.Frag) : TS := tDrawR K 4 5 6 7
  (tSeq (tAsg (tMod (tPow (tAdd (tAdd (tMod (ix K (tVar 4) (tVar 2)) (tC (.int 2147483629))) (tMul (tC (.int 40031)) (tVar 5))) (tC (.int 8011))) (tC (.int 3))) (tC (.int 2147483587))) (gName 3))
  (tSeq (tAsg (tMod (tPow (tAdd (tAdd (tVar 3) (tMul (tMul (tC (.int 5021)) (tVar 5)) (tVar 5))) (tC (.int 41))) (tC (.int 3))) (tC (.int 2147483563))) (gName 3))
  (tRet (tMod (tDiv (tMod (tMul (tVar 3) (tC (.int 65537))) (tC (.int 2305843009213693951))) (tC (.int 8))) (tVar 1)))))
end PV

/-! PV.41: the law whose state has rests -/
namespace PV
open PySem PySem.Spec L2
def stR (cs : List Int → List Int) (ns : List Int) : DS := ⟨cs ns, 0, (cs ns).map bigD, []⟩
end PV

/-! PV.42: .extend, .remove -/
namespace PV
open PySem PySem.Spec L2
section
variable {X : Cx} {xc : XC} {W : WX} {cl : Nat → List Arg → DS → FRes} {a : Expr} {ea : E} {pos p apos cpos : Pos} {i : Nat} {x : Str}
end
end PV

/-! PV.43: tuple(range(n)), constants of the text -/
namespace PV
open PySem PySem.Spec L2
section
variable {X : Cx} {xc : XC} {W : WX} {cl : Nat → List Arg → DS → FRes} {k : Nat} {a : Expr} {ea : E} {p p2 pos pos2 : Pos} {x : Str}
theorem d_cint {i : Int} (hm : ∃ t, X.mg x = some (.int i t)) (hg : Gl X x := by rfl) (hd : (x == ("__debug__" : Str)) = false := by decide) : DE X xc W cl (.Name x pos) (.c (.int i)) := by
  obtain ⟨t, hm⟩ := hm
  exact de_cint hg hm hd
theorem d_cstr {i : Str} (hm : ∃ t, X.mg x = some (.str i t)) (hg : Gl X x := by rfl) (hd : (x == ("__debug__" : Str)) = false := by decide) : DE X xc W cl (.Name x pos) (.c (.str i)) := by
  obtain ⟨t, hm⟩ := hm
  exact PEimp (pe_glob hg hm (v := .str i) ⟨t, rfl⟩ hd) fun σ H Q h => h.const fun _ => sh_str.mpr rfl
def rTrng : V → Hp → VK → Prop := fun x H Q => ∃ n : Int, x = .int n ∧ (0 ≤ n ∧ n ≤ 16777216) ∧ ∀ q, H q = none → Q (.ref q) (upd H q (.tup (rgV 0 n)))
end
end PV

/-! PV.44: the deck cut at 60, the draw of k10 .. k20 -/
namespace PV
open PySem PySem.Spec L2
def spDeck60 (K : PySem.W.Frag) : Sp := fun vs H Q _ => ∃ (a : Addr) (ns : List Int), vs = [.ref a] ∧ SqL K H a (ns.map V.int) ∧ ns.length ≤ 63 ∧ ∀ H' d c, Keep (fun _ => False) H H' → H d = none → H c = none → d ≠ c → H' d = some (.lst [.ref c, .int 0]) → H' c = some (.lst (((ns.take 60).map absI).map V.int)) → Q (.ref d) H'
/-! the draw -/
def drawB : List Arg → DS → FRes
  | [.dk 0, .sh (.int n)], s => if 0 < n ∧ n < 1073741824 ∧ 0 ≤ s.cnt ∧ s.cnt < 1099511627776 ∧ s.cells.length ≤ 1000 then
      if 1000000000000000000 ≤ cellA s then .ok (.v (.int (cellA s % n))) ⟨s.cells.set ((s.cnt + 1) % s.cells.length).toNat (cellA s / n), s.cnt + 1, s.rests, s.obs⟩
      else .ok (.v (.int ((((cellA s % 2147483563 + 104729 * (s.cnt + 1) + 7) ^ 4 % 2147483629) / 8 + 31 * (s.cnt + 1)) % n))) ⟨s.cells, s.cnt + 1, s.rests, s.obs⟩
    else .bad
  | _, _ => .bad
def max2R : List V → Hp → VK → Prop := fun xs H Q => ∃ i j, xs = [.int i, .int j] ∧ Q (.int (if j > i then j else i)) H
/-- slots: the deck, the bound, the place, the cell, the mixed number -/
def tDrawB (K : PySem.W.Frag) : TS :=
  tSeq (tAsg (tAdd (ix K (tVar 0) (tC (.int 1))) (tC (.int 1))) (gSub (tVar 0) (tC (.int 1)) rSetL))
  (tSeq (tAsg (tMod (ix K (tVar 0) (tC (.int 1))) (tCB max2R (tCons (tC (.int 1)) (tCons (tCB (lenR K) (tCons (ix K (tVar 0) (tC (.int 0))) tNil)) tNil)))) (gName 2))
  (tSeq (tAsg (ix K (tOp rCat (ix K (tVar 0) (tC (.int 0))) (tLst (tCons (tC (.int 0)) tNil))) (tVar 2)) (gName 3))
  (tSeq (tIfS (tTest (tOp (rI0 fun i j => .bl (decide (j ≤ i))) (tVar 3) (tPow (tC (.int 10)) (tC (.int 18)))))
      (tSeq (tAsg (tDiv (tVar 3) (tVar 1)) (gSub (ix K (tVar 0) (tC (.int 0))) (tVar 2) rSetL)) (tRet (tMod (tVar 3) (tVar 1))))
      tNext)
  (tSeq (tAsg (tMod (tPow (tAdd (tAdd (tMod (tVar 3) (tC (.int 2147483563))) (tMul (tC (.int 104729)) (ix K (tVar 0) (tC (.int 1))))) (tC (.int 7))) (tC (.int 4))) (tC (.int 2147483629))) (gName 4))
  (tRet (tMod (tAdd (tDiv (tVar 4) (tC (.int 8))) (tMul (tC (.int 31)) (ix K (tVar 0) (tC (.int 1))))) (tVar 1)))))))
end PV

/-! PV.45: sorted(set(t)), len(set(t)) of whole numbers -/
namespace PV
open PySem PySem.Spec PyProof.Rows L2
def rSetTI (K : PySem.W.Frag) (w : World) : List V → Hp → VK → Prop := fun xs H Q => ∃ (a : Addr) (ns : List Int), xs = [.ref a] ∧ SqT K H a (ns.map V.int) ∧ ns.length < 64 ∧ ∀ p c, c ≤ ns.length → H p = none → Q (.ref p) (upd H p (SetO w p (fun j => decide (j ∈ ns)) c))
/-- both calls -/
def rSS (K : PySem.W.Frag) (w : World) : V → Hp → VK → Prop := fun x H Q => ∃ (a : Addr) (ns : List Int), x = .ref a ∧ SqT K H a (ns.map V.int) ∧ ns.length < 64 ∧ ∀ p c q, H p = none → upd H p (SetO w p (fun j => decide (j ∈ ns)) c) q = none → Q (.ref q) (upd (upd H p (SetO w p (fun j => decide (j ∈ ns)) c)) q (.lst ((isd ns).map V.int)))
end PV

/-! PV.46: family C (k21 .. k31): the deck without abs, its draw -/
namespace PV
open PySem PySem.Spec L2
def cellsC (ns : List Int) : List Int := ns ++ (List.replicate (if decide (ns.length = 0) = true then 1 else 0) [0]).flatten
def rListL (K : PySem.W.Frag) : List V → Hp → VK → Prop := fun xs H Q => ∃ p ys, xs = [.ref p] ∧ (SqL K H p ys ∨ SqT K H p ys) ∧ ∀ l, H l = none → Q (.ref l) (upd H l (.lst ys))
def tDrawsC (K : PySem.W.Frag) : TS :=
  tSeq (tAsg (tOp rCat (tCB (rListL K) (tCons (tSl (rSlL K) (tVar 0) tNoPart (tPart (tC (.int 63)))) tNil)) (tPad K)) (gName 1)) (tDrRet K)
/-! the draw -/
def mixC (s : DS) : Int := (cellD s % 2147483647 + 69621 * s.cnt + 30269) ^ 3 % 2147483629
def moreC (s : DS) : Int := (mixC s + 6007 * s.cnt * s.cnt + 17) ^ 3 % 2147483587
def drawC : List Arg → DS → FRes := drawR fun _ s => (moreC s * 2147483423 + mixC s) % 4611686018427387847
def tDrawC (K : PySem.W.Frag) : TS := tDrawR K 5 6 7 8
  (tSeq (tAsg (tMod (tPow (tAdd (tAdd (tMod (ix K (tVar 5) (tVar 2)) (tC (.int 2147483647))) (tMul (tC (.int 69621)) (tVar 6))) (tC (.int 30269))) (tC (.int 3))) (tC (.int 2147483629))) (gName 3))
  (tSeq (tAsg (tMod (tPow (tAdd (tAdd (tVar 3) (tMul (tMul (tC (.int 6007)) (tVar 6)) (tVar 6))) (tC (.int 17))) (tC (.int 3))) (tC (.int 2147483587))) (gName 4))
  (tRet (tMod (tMod (tAdd (tMul (tVar 4) (tC (.int 2147483423))) (tVar 3)) (tC (.int 4611686018427387847))) (tVar 1)))))
end PV

/-! PV.47: {k: v}, a plain key -/
namespace PV
open PySem PySem.Spec L2
section
variable {xc : XC} {K : PySem.W.Frag} {W : WX} {cl : Nat → List Arg → DS → FRes} {σ : L2.St} {H : Hp} {Q : VK} {k v : E}
end
section
variable {X : Cx} {xc : XC} {W : WX} {cl : Nat → List Arg → DS → FRes} {a b : Expr} {ea eb : E} {pos : Pos}
end
end PV

/-! PV.48: {k: v}, k a tuple; d.get(x) -/
namespace PV
open PySem PySem.Spec PyProof.Rows L2
/-- {k: v}, k a tuple of numbers and texts; the new dict stands empty meanwhile -/
def tDispT (tk tv : TE) : TE := fun σ H Q => ∀ p, H p = none → tk σ (upd H p (.dT [])) fun x H1 => tv σ H1 fun y H2 => H2 p = some (.dT []) ∧ ∃ (b : Addr) (k : List Key), x = .ref b ∧ H2 b = some (.tup (k.map kV)) ∧ Q (.ref p) (upd H2 p (.dT [(k, y)]))
def dispQ (p : Addr) (Q : VK) : List (V × V) → Hp → Prop
  | [(x, y)], H2 => H2 p = some (.dT []) ∧ ∃ (b : Addr) (k : List Key), x = .ref b ∧ H2 b = some (.tup (k.map kV)) ∧ Q (.ref p) (upd H2 p (.dT [(k, y)]))
  | _, _ => False
section
variable {xc : XC} {K : PySem.W.Frag} {W : WX} {cl : Nat → List Arg → DS → FRes} {σ : L2.St} {H : Hp} {Q : VK} {k v : E}
end
section
variable {X : Cx} {xc : XC} {W : WX} {cl : Nat → List Arg → DS → FRes} {a b : Expr} {ea eb : E} {pos : Pos}
end
/-! d.get(x) -/
section
variable {K : PySem.W.Frag}
def rGet : R2 := fun x y H Q => ∃ a o, x = .ref a ∧ DGet H a y o ∧ Q (o.getD .non) H
end
section
variable {xc : XC} {K : PySem.W.Frag} {W : WX} {cl : Nat → List Arg → DS → FRes} {σ : L2.St} {H : Hp} {Q : VK} {i : Nat} {o : E}
theorem var_ok (h : tE xc K W (fun m => ev cl (.x i) m) σ H Q) : ∃ v, σ[i]? = some (some v) ∧ Q v H := by
  obtain ⟨g, O0, e, s, G, h⟩ := h
  have h : PostE xc K W g O0 e σ H Q (match e[i]? with
    | some (.sh d) => .ok (.v d) ⟨e, s⟩
    | some (.ol _) => .ok (.pl i) ⟨e, s⟩
    | some (.od _ _) => .ok (.pl i) ⟨e, s⟩
    | some (.dk k) => .ok (.dk k) ⟨e, s⟩
    | _ => .bad) := h
  cases hi : e[i]? with
  | none => simp only [hi] at h; exact h.elim
  | some sl =>
    have q := G.rep.at' i sl hi
    cases sl with
    | un => simp only [hi] at h; exact h.elim
    | ex a f => simp only [hi] at h; exact h.elim
    | sh d =>
      simp only [hi] at h
      obtain ⟨v, h1, h2⟩ := q
      exact ⟨v, h1, h v H [] G.stp ⟨rfl, h2.weak fun a z => z.imp (fun z => z.elim id (fun z => nomatch z)) id⟩⟩
    | ol ds =>
      simp only [hi] at h
      obtain ⟨p, xs, h1, _⟩ := q
      exact ⟨_, h1, h _ H [] G.stp ⟨rfl, h1⟩⟩
    | od t kvs =>
      simp only [hi] at h
      obtain ⟨p, o, h1, _⟩ := q
      exact ⟨_, h1, h _ H [] G.stp ⟨rfl, h1⟩⟩
    | dk =>
      simp only [hi] at h
      exact ⟨_, q, h _ H [] G.stp ⟨rfl, rfl⟩⟩
end
section
variable {X : Cx} {xc : XC} {W : WX} {cl : Nat → List Arg → DS → FRes} {a : Expr} {ea : E} {p apos cpos : Pos} {i : Nat} {x : Str}
end
end PV

/-! PV.49: {k: v for x in xs}, plain keys; d.update(d2) -/
namespace PV
open PySem PySem.Spec L2
abbrev PrD (K : PySem.W.Frag) (O : AP) (H : Hp) : List (Key × V) → List (PyData × PyData) → Prop := Paired fun p q => q.1 = keyD p.1 ∧ Sh K O H p.2 q.2
theorem PrD.go {K : PySem.W.Frag} {O O' M : AP} {H H' : Hp} {ks : List (Key × V)} {acc : List (PyData × PyData)} (h : PrD K O H ks acc) (k : Keep M H H') (m : ∀ a, M a → O a) (n : ∀ a, O' a → O a ∨ H a = none) : PrD K O' H' ks acc :=
  Paired.imp h fun _ _ q => ⟨q.1, q.2.go k m n⟩
theorem PrD.weak {K : PySem.W.Frag} {O O' : AP} {H : Hp} {ks : List (Key × V)} {acc : List (PyData × PyData)} (n : ∀ a, O' a → O a) (h : PrD K O H ks acc) : PrD K O' H ks acc :=
  h.go (M := fun _ => False) Keep.refl (fun _ z => z.elim) fun a z => .inl (n a z)
section
variable {xc : XC} {K : PySem.W.Frag} {W : WX} {g : Gd} {O0 : AP} {e1 : Env} {s : DS} {σ : L2.St} {H1 : Hp} {vs : List Nat}
end
section
variable {X : Cx} {xc : XC} {W : WX} {cl : Nat → List Arg → DS → FRes} {kx vx tg iter : Expr} {ifs : List Expr} {scope : Scope} {own : List (Str × Nat)} {ek ev' : E} {t : Tg} {it : It} {tc : T} {pos spos py : Pos}
end
/-! d.update(d2) -/
def rUpd : V → List V → Hp → VK → Prop := fun x vs H Q => ∃ (a b : Addr) (ks ls : List (Key × V)), x = .ref a ∧ vs = [.ref b] ∧ a ≠ b ∧ H a = some (.dK ks) ∧ H b = some (.dK ls) ∧ ks.length + ls.length ≤ sizeLine ∧ Q .non (upd H a (.dK (mergeK ks ls)))
section
variable {xc : XC} {K : PySem.W.Frag} {W : WX} {cl : Nat → List Arg → DS → FRes} {σ : L2.St} {H : Hp} {Q : VK} {i : Nat} {ea : E}
end
section
variable {X : Cx} {xc : XC} {W : WX} {cl : Nat → List Arg → DS → FRes} {a : Expr} {ea : E} {pos p apos cpos : Pos} {x : Str}
end
end PV

/-! PV.50: zip of two lists with one name as its target: the tuple given out may be held or gone -/
namespace PV
open PySem PySem.Spec L2 RZ
abbrev ZipF (h : Heap) (z TI TO : Addr) (f0 : Value) (f1 : Bool) : Prop :=
  h.get? z = some ⟨.type "zip", none, .fields #[f0, .bool f1, .bool false, .ref TI, .ref TO], #[]⟩
section
variable {prog : Program} {w : World} {A : Around} {E : Value → Shared → Prop} {s : Shared} {z TI TO T i1 i2 l1 l2 : Addr} {f : Bool} {k1 k2 : Nat} {xs ys : Array Value} {x y a b : Value}
end
abbrev ZipAny (h : Heap) (z TI TO : Addr) : Prop := ∃ f0 f1, ZipF h z TI TO f0 f1 ∧ ((f0 = .none ∧ f1 = false) ∨ ∃ T : Addr, f0 = rawInt T)
def iZipN (K : PySem.W.Frag) (ta : TA) : TI := fun σ H R => ta σ H fun vs H1 => ∃ a b xs ys, vs = [.ref a, .ref b] ∧ ((SqL K H1 a xs ∧ SqL K H1 b ys ∧ R (Itz K a b) H1) ∨ (SqT K H1 a xs ∧ SqT K H1 b ys ∧ R (ItzT K a b) H1))
end PV

/-! PV.51: raise and try -/
namespace PV
open PySem PySem.Spec PyProof.Rows L2
/-- the own __init__ of an exception class: one field -/
def spIni (K : PySem.W.Frag) (n : Str) : Sp := fun vs H Q E => ∃ a C y, vs = [.ref a, y] ∧ OexC K C ∧ PySem.W.findIn K (.ref C) n = some none ∧ H a = some (exo a C none) ∧
  ∀ dx, H dx = none → dx ≠ a → Q .non (upd (upd H dx (exd dx [(n, y)])) a (exo a C (some dx)))
/-- the class x of the program, at C: its instances have the one field n -/
structure ExI (P : Program) (w : World) (K : PySem.W.Frag) (mg : Str → Option Value) (base : Heap) (x n : Str) (C : Addr) : Prop where
  ex : ∃ (fI : Addr) (fd : FuncData) (ps : List Str), OexC K C ∧ PySem.W.findIn K (.ref C) "__init__" = some (some (.ref fI)) ∧ PySem.W.typeIn K (.ref fI) = some (.type "function") ∧ FnOk P w K mg base CX0 1 fI fd ps (spIni K n) ∧ Binds K fd ps []
  mgC : mg x = some (.ref C)
  no : PySem.W.findIn K (.ref C) n = some none
section
variable {X : Cx} {xc : XC} {W : WX} {cl : Nat → List Arg → DS → FRes} {k c : Nat} {a : Expr} {ea : E} {x n : Str} {C : Addr} {p pos pos' : Pos}
theorem d_raise (d : Bd X W k) (hk : 2 ≤ k) (T : ExI X.prog X.w X.K X.mg X.base x n C) (hxc : xc c = some (.ref C, some n)) (ha : DE X xc W cl a ea) (hg : Gl X x := by rfl) (hdb : (x == ("__debug__" : Str)) = false := by decide)
    (he : starEach [a] X.env = (false, eval a X.env) :: starEach [] X.env := by rfl) (hpl : (backTo pos (starEach [] X.env)).any (·.1) = false := by rfl) :
    DS' X xc W cl (.Raise (some (.Call (.Name x p) [a] [] pos)) none pos') (.raise c (.cons ea .nil)) := by
  obtain ⟨fI, fd, ps, O, iC, tI, F, hb⟩ := T.ex
  refine PSimp (ps_raise d.ok.calm d.takes (pmk_oex O iC tI F (d.room.mono hk) hb .nil pass0 hg T.mgC (da_cons ha da_nil he) hdb he hpl)) fun D σ H h => ?_
  obtain ⟨g, O0, e, s, G, h⟩ := h
  refine ⟨g, O0, e, s, G, ?_⟩
  have h : PostS xc X.K W g O0 e σ H (asgS (.raise c (.cons ea .nil))) D (match evs cl (.cons ea .nil) ⟨e, s⟩ with
    | .ok rs m1 => rzR c m1 rs
    | .rz c f m1 => .rz c f m1
    | .bad => .bad) := h
  show PostEs xc X.K W g O0 e σ H _ (evs cl (.cons ea .nil) ⟨e, s⟩)
  cases hf : evs cl (.cons ea .nil) ⟨e, s⟩ with
  | bad => simp only [hf] at h; exact h.elim
  | rz c f m1 => simp only [hf] at h; exact fun cls dd H' t x => h cls dd σ H' (t.ss G) x
  | ok rs m1 =>
    simp only [hf] at h
    intro vs H1 F1 t rv
    have hlen : rs.length = 1 := by
      have e2 : evs cl (.cons ea .nil) ⟨e, s⟩ = match ev cl ea ⟨e, s⟩ with
        | .ok r m1 => .ok [r] m1
        | .rz c f m1 => .rz c f m1
        | .bad => .bad := rfl
      rw [e2] at hf
      split at hf <;> cases hf
      rfl
    obtain ⟨r, rfl⟩ := List.length_eq_one_iff.mp hlen
    obtain ⟨y, rfl, q⟩ := rvs1 rv
    cases hr : esc m1.e r with
    | none => simp only [rzR, hr] at h; exact h.elim
    | some de =>
      obtain ⟨dd, e1⟩ := de
      simp only [rzR, hr] at h
      obtain ⟨r2, o2, s2⟩ := esc_ok t.repO q (fun p hp => ⟨(t.new p hp).2.1, (t.new p hp).2.2.1⟩) hr
      refine ⟨by simp, fun a na => ⟨a, C, y, rfl, O, T.no, upd_same, fun dx n1 ne => ⟨rfl, dx, [(n, y)], upd_same, ?_, ?_, ?_⟩⟩⟩
      · rw [upd_ne ne, upd_same]
      · rw [upd_ne ne] at n1; exact n1
      · rw [upd_ne ne] at n1
        have eH : upd (del (upd (upd (upd H1 a (exo a C none)) dx (exd dx [(n, y)])) a (exo a C (some dx))) a) dx (.xd [(n, y)]) = upd H1 dx (.xd [(n, y)]) := by
          funext b
          by_cases hb1 : b = dx
          · rw [hb1, upd_same, upd_same]
          · rw [upd_ne hb1, upd_ne hb1]
            by_cases hb2 : b = a
            · rw [hb2, del_same, na]
            · rw [del_ne hb2, upd_ne hb2, upd_ne hb1, upd_ne hb2]
        rw [eH]
        have kn : Keep (fun _ => False) H1 (upd H1 dx (.xd [(n, y)])) := Keep.new n1
        refine h (.ref C) (some dx) σ _ ⟨t.keep.trans kn fun _ z => z.elim, fun a z => .inl (t.own a (o2 a z)), r2.go kn (fun _ z => z.elim) fun a z => .inl z, t.dk.keep kn fun _ z => z.elim, fun _ _ => rfl⟩ ⟨some n, hxc, dx, y, rfl, upd_same, s2.go kn (fun _ z => z.elim) fun a z => .inl z⟩
end
/-! try: what the body raises, the suite answers -/
theorem PSimpL {X : Cx} {st : Stmt} {t t' : TS} (h : PS X st t) (i : ∀ D σ H, σ.length = X.N.length → t' D σ H → t D σ H) : PS X st t' := ⟨fun pins s σ H D I z => h.run pins s σ H D I (i D σ H I.len z)⟩
section
variable {xc : XC} {K : PySem.W.Frag} {W : WX} {cl : Nat → List Arg → DS → FRes} {g : Gd} {O0 : AP} {e : Env} {σ σ' σ2 : L2.St} {H H' H2 : Hp} {A A2 A' : Nat → Bool} {m1 m2 : M} {i : Nat} {sl : Slot} {x : Option V} {v : V} {F : List Addr} {r : R}
theorem StS.out (t : StS K g O0 e σ H A m1 σ' H') (u : StS K g O0 (m1.e.set i sl) (σ'.set i x) H' A2 m2 σ2 H2) (ns : isOwn (some sl) = false) (hA : ∀ j, A' j = false → A j = false ∧ A2 j = false ∧ j ≠ i) : StS K g O0 e σ H A' ⟨m2.e.set i .un, m2.s⟩ (σ2.set i none) H2 := by
  refine ⟨t.keep.trans u.keep fun a z => z.elim (fun z => (t.own a (own_set ns z)).imp .inl id) fun z => .inl (.inr z), fun a z => ?_, u.rep.setN rfl fun _ => trivial, u.dk, fun j z => ?_⟩
  · exact (u.own a (own_set rfl z)).elim (fun z => t.own a (own_set ns z)) fun z => .inr (t.keep.old a z)
  · obtain ⟨a1, a2, a3⟩ := hA j z
    rw [List.getElem?_set_ne (Ne.symm a3), u.fx j a2, List.getElem?_set_ne (Ne.symm a3), t.fx j a1]
theorem StR.out (t : StS K g O0 e σ H A m1 σ' H') (u : StR K g O0 (m1.e.set i sl) (σ'.set i x) H' m2 σ2 H2 v F r) (ns : isOwn (some sl) = false) (hr : ∀ j, r ≠ .pl j) : StR K g O0 e σ H ⟨m2.e.set i .un, m2.s⟩ (σ2.set i none) H2 v F r := by
  have wk : ∀ a, Ow (plus O0 F) (m2.e.set i .un) (σ2.set i none) a → Ow (plus O0 F) m2.e σ2 a := fun a z => z.imp id fun z => own_set rfl z
  refine ⟨t.keep.trans u.keep fun a z => z.elim (fun z => (t.own a (own_set ns z)).imp .inl id) fun z => .inl (.inr z), fun a z => ?_, fun p hp => ⟨t.keep.old p (u.new p hp).1, (u.new p hp).2⟩, u.rep.setN rfl fun _ => trivial, u.dk, ?_⟩
  · exact (u.own a (own_set rfl z)).elim (fun z => t.own a (own_set ns z)) fun z => .inr (t.keep.old a z)
  · have rv := u.rv
    cases r with
    | pl j => exact absurd rfl (hr j)
    | v d => exact ⟨rv.1, rv.2.weak wk⟩
    | dk => exact rv
    | fl ds => obtain ⟨p, xs, e1, e2, e3, e4, e5⟩ := rv; exact ⟨p, xs, e1, e2, e3, e4, e5.weak wk⟩
    | fd tt kvs => obtain ⟨p, o, e1, e2, e3, e5⟩ := rv; exact ⟨p, o, e1, e2, e3, e5.weak wk⟩
/-- the suite in the place of the exception -/
def tsu (xc : XC) (K : PySem.W.Frag) (cl : Nat → List Arg → DS → FRes) (hc : Nat → Bool) (fn : Nat → Option Str) (su : Nat → Addr → Addr → Ss) : Addr → Value → Option Addr → TS := fun a cls dd D σ H =>
  ∃ c bb, xc c = some (cls, fn c) ∧ hc c = true ∧ (fn c = none → dd = none) ∧ (∀ n, fn c = some n → dd = some bb) ∧ tS xc K (fun _ _ _ _ => False) (asgSs (su c a bb)) (fun m => exs cl (su c a bb) m) D σ H
variable {b : Ss} {ws : List Nat} {hc : Nat → Bool} {fn : Nat → Option Str} {su : Nat → Addr → Addr → Ss} {cv : Value} {D : Ends} {n : Nat}
theorem trF_ok {F : Addr → Addr → Res Flow} (h : trF i F ≠ .bad) : ∀ a b, unE i (F a b) = trF i F := by
  unfold trF at h ⊢
  split
  next q => exact q
  next q => rw [if_neg q] at h; exact absurd rfl h
theorem exSlot_ok {a bb : Addr} {f : Option PyData} {cls : Value} {dd : Option Addr} {O : AP} {c : Nat} (x : XcR xc K O H c f cls dd) (hf : ∀ n, xc c = some (cls, n) → fn c = n) (hd : ∀ n, fn c = some n → dd = some bb) :
    ∃ sl, exSlot a bb (fn c) f = some sl ∧ isOwn (some sl) = false ∧ ∀ (g : Gd) (O0 : AP) (σ : L2.St), σ[i]? = some (some (.ref a)) → SlotR K g O0 O σ H i sl := by
  obtain ⟨n, e1, e2⟩ := x
  have e3 := hf n e1
  rw [e3] at hd ⊢
  cases n with
  | none =>
    cases f with
    | none => exact ⟨_, rfl, rfl, fun g O0 σ q => ⟨q, fun _ _ _ z => by cases z⟩⟩
    | some d => exact e2.elim
  | some n =>
    cases f with
    | none => exact e2.elim
    | some d =>
      obtain ⟨b', v, h1, h2, h3⟩ := e2
      have := hd n rfl
      rw [h1] at this; cases this
      exact ⟨_, rfl, rfl, fun g O0 σ q => ⟨q, fun _ _ _ z => by cases z; exact ⟨v, h2, h3⟩⟩⟩
/-- with a name -/
theorem tr_ok (hi : i < 1000) (hx : ∀ c cls m, xc c = some (cls, m) → PySem.W.exmOne K cls cv = some (hc c) ∧ fn c = m) (hw : ∀ c a b j, asgSs (su c a b) j = true → ws.contains j = true)
    (h : tS xc K W (asgS (.tr b i ws hc fn su)) (fun m => ex cl (.tr b i ws hc fn su) m) D σ H) : tS xc K (wAs K cv i (tsu xc K cl hc fn su) W D) (asgSs b) (fun m => exs cl b m) D σ H := by
  obtain ⟨g, O0, e, s, G, h⟩ := h
  refine ⟨g, O0, e, s, G, ?_⟩
  have h : PostS xc K W g O0 e σ H (asgS (.tr b i ws hc fn su)) D (match exs cl b ⟨e, s⟩ with
    | .rz c f m1 => if hc c = true then trG i m1.e.length fun a b' => match exSlot a b' (fn c) f with
        | some sl => exs cl (su c a b') ⟨m1.e.set i sl, m1.s⟩
        | none => .bad
      else .rz c f m1
    | r => r) := h
  have hA : ∀ {c a b'} j, asgS (.tr b i ws hc fn su) j = false → asgSs b j = false ∧ asgSs (su c a b') j = false ∧ j ≠ i := fun {c a b'} j z => by
    have z : (asgSs b j || i == j || ws.contains j) = false := z
    simp only [Bool.or_eq_false_iff] at z
    refine ⟨z.1.1, ?_, fun q => ?_⟩
    · cases q : asgSs (su c a b') j with
      | false => rfl
      | true => have := hw c a b' j q; rw [z.2] at this; cases this
    · rw [q] at z; simp at z
  show PostS xc K (wAs K cv i (tsu xc K cl hc fn su) W D) g O0 e σ H (asgSs b) D (exs cl b ⟨e, s⟩)
  cases hf : exs cl b ⟨e, s⟩ with
  | bad => simp only [hf] at h; exact h
  | ok fl m =>
    simp only [hf] at h
    cases fl with
    | nx => exact fun σ' H' t => h σ' H' (t.mono fun j z => (hA (c := 0) (a := 0) (b' := 0) j z).1)
    | brk => exact fun σ' H' t => h σ' H' (t.mono fun j z => (hA (c := 0) (a := 0) (b' := 0) j z).1)
    | ct => exact fun σ' H' t => h σ' H' (t.mono fun j z => (hA (c := 0) (a := 0) (b' := 0) j z).1)
    | rt r => exact h
  | rz c f m1 =>
    simp only [hf] at h
    cases hcc : hc c with
    | false =>
      simp only [hcc, Bool.false_eq_true, if_false] at h
      intro cls dd σ' H' t x
      obtain ⟨n', e1, e2⟩ := id x
      exact ⟨false, by rw [(hx c cls n' e1).1, hcc], (fun q => nomatch q), fun _ => h cls dd σ' H' (t.mono fun j z => (hA (c := 0) (a := 0) (b' := 0) j z).1) x⟩
    | true =>
      simp only [hcc, if_true] at h
      generalize hF : (fun a b' => match exSlot a b' (fn c) f with
        | some sl => exs cl (su c a b') ⟨m1.e.set i sl, m1.s⟩
        | none => .bad) = Fn at h
      rw [show trG i m1.e.length Fn = trF i Fn from if_neg fun z => by omega] at h
      have hu := trF_ok (i := i) (F := Fn) fun q => by rw [q] at h; exact h
      intro cls dd σ' H' t x
      obtain ⟨n', e1, e2⟩ := id x
      obtain ⟨em, en⟩ := hx c cls n' e1
      refine ⟨true, by rw [em, hcc], fun _ a na => ?_, fun q => nomatch q⟩
      obtain ⟨bb, hbb⟩ : ∃ bb, ∀ n, fn c = some n → dd = some bb := by
        cases dd with
        | some bb => exact ⟨bb, fun _ _ => rfl⟩
        | none =>
          refine ⟨0, fun n q => ?_⟩
          rw [en] at q; subst q
          cases f with
          | none => exact e2.elim
          | some d => obtain ⟨_, _, z, _⟩ := e2; cases z
      obtain ⟨sl, hsl, ns, hS⟩ := exSlot_ok (i := i) (a := a) x (fun m q => (hx c cls m q).2) hbb
      have Gm := G.ss t
      have rep := Gm.rep.setN (i := i) (s := sl) (x := some (.ref a)) ns fun il => hS _ _ _ (List.getElem?_set_self (by rw [← Gm.rep.len]; exact il))
      refine ⟨c, bb, by rw [en]; exact e1, hcc, fun q => ?_, hbb, g, O0, m1.e.set i sl, m1.s, ⟨Gm.dk0, Gm.oe, rep, Gm.dk, Gm.ob⟩, ?_⟩
      · rw [en] at q; subst q
        cases f with
        | none => exact e2
        | some d => exact e2.elim
      · have hab := hu a bb
        have eF : Fn a bb = exs cl (su c a bb) ⟨m1.e.set i sl, m1.s⟩ := by rw [← hF]; simp only [hsl]
        rw [eF] at hab
        rw [← hab] at h
        show PostS _ _ _ _ _ _ _ _ _ _ (exs cl (su c a bb) ⟨m1.e.set i sl, m1.s⟩)
        have dkx : ∀ (q : Res Flow), PostS xc K W g O0 e σ H (asgS (.tr b i ws hc fn su)) D (unE i q) → PostS xc K (fun _ _ _ _ => False) g O0 (m1.e.set i sl) (σ'.set i (some (.ref a))) H' (asgSs (su c a bb)) { nx := fun σ' H' => D.nx (σ'.set i none) H', rt := D.rt, bk := fun σ' H' => D.bk (σ'.set i none) H', ct := fun σ' H' => D.ct (σ'.set i none) H' } q := fun q h => by
          cases q with
          | bad => exact h
          | rz c f m => exact h.elim
          | ok fl m2 =>
            cases fl with
            | nx => exact fun σ2 H2 u => h _ H2 (t.out u ns fun j z => hA j z)
            | brk => exact fun σ2 H2 u => h _ H2 (t.out u ns fun j z => hA j z)
            | ct => exact fun σ2 H2 u => h _ H2 (t.out u ns fun j z => hA j z)
            | rt r =>
              cases r with
              | pl j => exact h.elim
              | v d => exact fun v σ2 H2 F u => h v _ H2 F (StR.out t u ns fun j z => nomatch z)
              | fl d => exact fun v σ2 H2 F u => h v _ H2 F (StR.out t u ns fun j z => nomatch z)
              | fd k d => exact fun v σ2 H2 F u => h v _ H2 F (StR.out t u ns fun j z => nomatch z)
              | dk => exact fun v σ2 H2 F u => h v _ H2 F (StR.out t u ns fun j z => nomatch z)
        exact dkx _ h
end
end PV

/-! PV.52: words in an except suite; try -/
namespace PV
open PySem PySem.Spec PyProof.Rows L2
/-- what the class at C must say of its instances -/
structure Xcl (K : PySem.W.Frag) (C : Addr) : Prop where
  cl : (PySem.W.clsIn K C).isSome = true
  ga : PySem.W.findIn K (.ref C) "__getattribute__" = some (some (.builtin "BaseException.__getattribute__"))
  gg : PySem.W.findIn K (.ref C) "__getattr__" = some none
  sb : PySem.W.subIn K (.ref C) (.type "BaseException") = some true
  ha : PySem.W.findIn K (.ref C) "__class__" = some (some (.builtin "object.__class__"))
  hn : PySem.W.specialIn K (.builtin "object.__class__") "__get__" = some (some (.builtin "getset_descriptor.__get__"))
  ht : PySem.W.takesIn K (.builtin "object.__class__") = some true
  hm : PySem.W.mroIn K C (.type "object") = some true
  hd : PySem.W.hasDictIn K C = true
/-- what a suite's walk may use -/
structure Bs (X : Cx) : Prop where
  nd : X.N.Nodup
  un : X.A.units + 65 < cLine
  gd : X.A.guards = some []
theorem Bd.s {X : Cx} {W : WX} {k : Nat} (d : Bd X W k) {a : Addr} {pn : List (Addr × Obj)} : Bs (X.suite a pn) := ⟨d.ok.nd, d.ok.un, d.ok.gd⟩
theorem Bd.t {X : Cx} {W W' : WX} {k : Nat} (d : Bd X W k) {pn : List (Addr × Obj)} {xe : Value → Shared → Prop} (tk : Takes (X.tr pn xe) W') (ps : PassesOwn (model X.prog X.w) X.A X.env xe) : Bd (X.tr pn xe) W' k := ⟨⟨d.ok.calm, d.ok.nd, d.ok.un, d.ok.gd⟩, d.room, ps, tk⟩
structure PC (X : Cx) (e : Expr) (c : V) (u : Value) : Prop where
  pe : PE X e (tC c)
  v : ClsV c u
structure PCs (X : Cx) (es : List Expr) (cs : List V) (us : List Value) : Prop where
  pa : PA X es fun _ H Q => Q cs H
  v : Paired ClsV cs us
section
variable {X : Cx} {e : Expr} {es : List Expr} {c : V} {u : Value} {cs : List V} {us : List Value} {x : Str} {C : Addr} {pos : Pos} {T : String}
theorem pc_own (hm : X.mg x = some (.ref C)) (hg : Gl X x := by rfl) (hd : (x == ("__debug__" : Str)) = false := by decide) : PC X (.Name x pos) (.ref C) (.ref C) := ⟨pe_glob hg hm rfl hd, .own C⟩
theorem pc_blt (hm : X.mg x = none) (hv : bootBuiltins x = some (.type T)) (hg : Gl X x := by rfl) (hn : x ≠ "__name__" := by decide) (hd : (x == ("__debug__" : Str)) = false := by decide) : PC X (.Name x pos) (.ty T) (.type T) := ⟨pe_bltn hg hm hv rfl hn hd, .ty T⟩
theorem pcs_nil : PCs X [] [] [] := ⟨PAimp pa_nil fun _ _ _ h => h, .nil⟩
theorem pcs_cons (h : PC X e c u) (t : PCs X es cs us) (hs : starEach (e :: es) X.env = (false, eval e X.env) :: starEach es X.env := by rfl) : PCs X (e :: es) (c :: cs) (u :: us) := ⟨PAimp (pa_cons h.pe t.pa hs) fun _ _ _ h => h, .cons h.v t.v⟩
end
def rIsX (K : PySem.W.Frag) (a C : Addr) (dd : Option Addr) : List V → Hp → VK → Prop := fun xs H Q => ∃ c u b, xs = [.ref a, c] ∧ ClsV c u ∧ PySem.W.kitOne K (.ref C) u = some b ∧ (∀ d, dd = some d → ∃ fs, H d = some (.xd fs)) ∧ Q (.bl b) H
def rIsXT (K : PySem.W.Frag) (a C : Addr) (dd : Option Addr) : List V → Hp → VK → Prop := fun xs H Q => ∃ tp cs us b, xs = [.ref a, .ref tp] ∧ H tp = some (.tup cs) ∧ Paired ClsV cs us ∧ PySem.W.kitAny K (.ref C) us = some b ∧ (∀ d, dd = some d → ∃ fs, H d = some (.xd fs)) ∧ Q (.bl b) H
section
variable {X : Cx} {a C : Addr} {oe : Obj} {pn : List (Addr × Obj)} {dd : Option Addr}
theorem inst_x {pins : List (Addr × Obj)} {σ : L2.St} {H : Hp} {s : Shared} (I : Inv (X.suite a ((a, oe) :: pn)) pins σ H s) (hz : Zc (.ref C) dd oe) (hf : ∃ vs, oe.data = .fields vs) (h : ∀ d, dd = some d → ∃ fs, H d = some (.xd fs)) : ∃ od, PySem.W.InstAt s.heap a oe C od := by
  obtain ⟨ha, _⟩ := I.pin (a, oe) (List.mem_append_left _ List.mem_cons_self)
  obtain ⟨vs, hd⟩ := hf
  have hnc : PySem.W.notCls oe := by unfold PySem.W.notCls; rw [hd] <;> rfl
  cases dd with
  | none => exact ⟨none, ha, hz.1, hnc, by rw [hz.2]; trivial⟩
  | some d =>
    obtain ⟨fs, e⟩ := h d rfl
    have hx : ObjOk X.prog X.w H s.heap d (.xd fs) := I.hok d _ e
    obtain ⟨mA, hns, hr⟩ := hx
    obtain ⟨od, ho, hl⟩ := lookIn_ns hns
    exact ⟨some od, ha, hz.1, hnc, by rw [hz.2]; exact ho⟩
theorem call_isX (T : Xcl X.K C) (hz : Zc (.ref C) dd oe) (hf : ∃ vs, oe.data = .fields vs) : CallR (X.suite a ((a, oe) :: pn)) (.builtin "isinstance") (rIsX X.K a C dd) := by
  intro pins s σ H xs us Q I r h
  obtain ⟨c, u, b, rfl, k, e, hd, q⟩ := h
  obtain ⟨u1, u2, rfl, r1, r2⟩ := vals2 r
  cases (show u1 = Value.ref a from r1)
  have e2 := k.eq r2
  subst e2
  obtain ⟨od, J⟩ := inst_x I hz hf hd
  exact PySem.W.kia_one (PySem.W.kitx_exc T.cl T.ga T.gg T.sb T.ha T.hn T.ht T.hm) I.kIn J e (fun z => nomatch z) fun tk => ⟨.bl b, H, I.tok tk, rfl, q⟩
theorem call_isXT (T : Xcl X.K C) (hz : Zc (.ref C) dd oe) (hf : ∃ vs, oe.data = .fields vs) : CallR (X.suite a ((a, oe) :: pn)) (.builtin "isinstance") (rIsXT X.K a C dd) := by
  intro pins s σ H xs us Q I r h
  obtain ⟨tp, cs, ws, b, rfl, hT, k, e, hd, q⟩ := h
  obtain ⟨u1, u2, rfl, r1, r2⟩ := vals2 r
  cases (show u1 = Value.ref a from r1)
  cases (show u2 = Value.ref tp from r2)
  obtain ⟨od, J⟩ := inst_x I hz hf hd
  obtain ⟨_, its, rv, o, h1, h2, n, h3⟩ := (show ObjOk X.prog X.w H s.heap tp (.tup cs) from I.hok tp _ hT)
  have e3 := ClsV.all k rv
  subst e3
  obtain ⟨oc, od', dt, sl⟩ := o
  simp only at h2 h3
  subst h2 h3
  exact PySem.W.kia_tup (PySem.W.kitx_exc T.cl T.ga T.gg T.sb T.ha T.hn T.ht T.hm) I.kIn J h1 e (fun z => nomatch z) fun tk => ⟨.bl b, H, I.tok tk, rfl, q⟩
end
/-- the suite's exception: at a, of the class at C, its dict dd -/
structure Exh (X : Cx) (a C bb : Addr) (dd : Option Addr) (oe : Obj) : Prop where
  cl : Xcl X.K C
  zc : Zc (.ref C) dd oe
  fl : ∃ vs, oe.data = .fields vs
  db : dd = some bb
section
variable {X : Cx} {xc : XC} {W : WX} {cl : Nat → List Arg → DS → FRes} {a C bb : Addr} {dd : Option Addr} {oe : Obj} {pn : List (Addr × Obj)} {n f : Str} {e c : Expr} {cs : List Expr} {cv : V} {cvs : List V} {u : Value} {us : List Value} {v : Bool} {p p1 p2 p3 pos : Pos} {k : Nat} {i : Nat}
/-- isinstance(e, ..): the answer, if e is that exception -/
abbrev xiE (i : Nat) (a b : Addr) (n : Str) (v : Bool) : E := .op .idx (.cons (.tup (.cons (.c (.bool v)) (.cons (.xf i a b n) .nil))) (.cons (.c (.int 0)) .nil))
theorem ev_xf {m : M} {a b : Addr} {n : Str} {r : R} {m1 : M} (h : ev cl (.xf i a b n) m = .ok r m1) : ∃ d, m.e[i]? = some (.ex a (some (b, n, d))) ∧ r = .v d ∧ m1 = m := by
  have h : xfR a b n m m.e[i]? = .ok r m1 := h
  cases q : m.e[i]? with
  | none => rw [q] at h; cases h
  | some sl =>
    rw [q] at h
    cases sl with
    | ex a' fo =>
      cases fo with
      | none => cases h
      | some fo =>
        obtain ⟨b', n', d⟩ := fo
        have h9 : (if a' = a ∧ b' = b ∧ n' = n then .ok (.v d) m else .bad : Res R) = .ok r m1 := h
        clear h
        by_cases w : a' = a ∧ b' = b ∧ n' = n
        · rw [if_pos w] at h9
          obtain ⟨rfl, rfl, rfl⟩ := w
          cases h9; exact ⟨d, rfl, rfl, rfl⟩
        · rw [if_neg w] at h9; cases h9
    | _ => cases h
theorem ev_xf' {m : M} {a b : Addr} {n : Str} : (∃ d, m.e[i]? = some (.ex a (some (b, n, d))) ∧ ev cl (.xf i a b n) m = .ok (.v d) m) ∨ ev cl (.xf i a b n) m = .bad := by
  cases h : ev cl (.xf i a b n) m with
  | ok r m1 => obtain ⟨d, h1, rfl, rfl⟩ := ev_xf h; exact .inl ⟨d, h1, rfl⟩
  | bad => exact .inr rfl
  | rz c f m1 =>
    have h : xfR a b n m m.e[i]? = .rz c f m1 := h
    unfold xfR at h
    split at h
    · rename_i a' b' n' d q
      by_cases w : a' = a ∧ b' = b ∧ n' = n
      · rw [if_pos w] at h; cases h
      · rw [if_neg w] at h; cases h
    · cases h
theorem ev_xi {m : M} {a b : Addr} {n : Str} {v : Bool} : (∃ d, m.e[i]? = some (.ex a (some (b, n, d))) ∧ ev cl (xiE i a b n v) m = .ok (.v (.bool v)) m) ∨ ev cl (xiE i a b n v) m = .bad := by
  have e1 : evs cl (.cons (.c (.bool v)) (.cons (.xf i a b n) .nil)) m = match ev cl (.xf i a b n) m with
    | .ok r m1 => .ok [.v (.bool v), r] m1
    | .rz c f m1 => .rz c f m1
    | .bad => .bad := by
    show (match (match ev cl (.xf i a b n) m with
      | .ok r m1 => .ok [r] m1
      | .rz c f m1 => .rz c f m1
      | .bad => .bad : Res (List R)) with
      | .ok rs m2 => Res.ok (R.v (.bool v) :: rs) m2
      | .rz c f m2 => .rz c f m2
      | .bad => .bad) = _
    cases ev cl (.xf i a b n) m <;> rfl
  have e2 : ev cl (.tup (.cons (.c (.bool v)) (.cons (.xf i a b n) .nil))) m = match evs cl (.cons (.c (.bool v)) (.cons (.xf i a b n) .nil)) m with
    | .ok rs m1 => match escs m1.e rs with
      | some (ds, e) => if ds.length ≤ LIM then .ok (.v (.tuple ds)) ⟨e, m1.s⟩ else .bad
      | none => .bad
    | .rz c f m1 => .rz c f m1
    | .bad => .bad := rfl
  have e3 : ev cl (xiE i a b n v) m = match (match ev cl (.tup (.cons (.c (.bool v)) (.cons (.xf i a b n) .nil))) m with
      | .ok r m1 => .ok [r, .v (.int 0)] m1
      | .rz c f m1 => .rz c f m1
      | .bad => .bad : Res (List R)) with
    | .ok rs m1 => match opE m1.e .idx rs with
      | some r => .ok r m1
      | none => .bad
    | .rz c f m1 => .rz c f m1
    | .bad => .bad := rfl
  rcases ev_xf' (cl := cl) (i := i) (m := m) (a := a) (b := b) (n := n) with ⟨d, h1, h2⟩ | h2
  · refine .inl ⟨d, h1, ?_⟩
    rw [e3, e2, e1, h2]
    have : ([PyData.bool v, d]).length ≤ LIM := by simp [LIM]
    simp only [escs, esc, this, if_true]
    rfl
  · refine .inr ?_
    rw [e3, e2, e1, h2]
theorem xi_ok {K : PySem.W.Frag} {g : Gd} {O0 : AP} {e : Env} {s : DS} {σ : L2.St} {H : Hp} {Q : VK} {xc : XC} {W : WX} (G : Good K g O0 e s σ H) (h : PostE xc K W g O0 e σ H Q (ev cl (xiE i a bb n v) ⟨e, s⟩)) :
    σ[i]? = some (some (.ref a)) ∧ (∃ fs, H bb = some (.xd fs)) ∧ ∀ H', Keep (fun _ => False) H H' → Q (.bl v) H' := by
  rcases ev_xi (cl := cl) (i := i) (m := ⟨e, s⟩) (a := a) (b := bb) (n := n) (v := v) with ⟨d, h1, h2⟩ | h2
  · rw [h2] at h
    have S := G.rep.at' i _ h1
    obtain ⟨x, q, _⟩ := S.2 _ _ _ rfl
    exact ⟨S.1, ⟨_, q⟩, fun H' kk => h _ H' [] (G.pure kk fun _ z => nomatch z) ⟨rfl, sh_bool.mpr rfl⟩⟩
  · rw [h2] at h; exact h.elim
/-- isinstance(e, c) -/
theorem z_is (i : Nat) (T : Exh X a C bb dd oe) (hm : X.mg "isinstance" = none) (hc : PC (X.suite a ((a, oe) :: pn)) c cv u) (hk : PySem.W.kitOne X.K (.ref C) u = some v) (hN : X.N[i]? = some n := by rfl) (hv : Vis X.env.scope n := by first | exact Or.inl rfl | exact Or.inr (Or.inl rfl) | exact Or.inr (Or.inr rfl)) (hg : Gl X "isinstance" := by rfl)
    (hd : (n == ("__debug__" : Str)) = false := by decide) (hcd : (n == ("__classdict__" : Str)) = false := by decide)
    (he : starEach [.Name n p1, c] X.env = (false, eval (.Name n p1) X.env) :: starEach [c] X.env := by rfl) (he2 : starEach [c] X.env = (false, eval c X.env) :: starEach [] X.env := by rfl) (hpl : (backTo pos (starEach [c] X.env)).any (·.1) = false := by rfl) :
    DE (X.suite a ((a, oe) :: pn)) xc W cl (.Call (.Name "isinstance" p) [.Name n p1, c] [] pos) (xiE i a bb f v) :=
  PEimp (pe_callB (call_isX T.cl T.zc T.fl) hg hm (by rfl) (pa_cons (pe_var hN hv hd hcd) (pa_cons hc.pe pa_nil he2) he) (by decide) (by decide) he hpl) fun σ H Q h => by
    obtain ⟨g, O0, e, s, G, h⟩ := h
    obtain ⟨h1, h2, h3⟩ := xi_ok G h
    exact ⟨_, h1, cv, u, v, rfl, hc.v, hk, fun d z => by rw [T.db] at z; cases z; exact h2, h3 H Keep.refl⟩
/-- isinstance(e, (c, ..)) -/
theorem z_isT (i : Nat) (T : Exh X a C bb dd oe) (hm : X.mg "isinstance" = none) (hc : PCs (X.suite a ((a, oe) :: pn)) cs cvs us) (hk : PySem.W.kitAny X.K (.ref C) us = some v) (hN : X.N[i]? = some n := by rfl) (hv : Vis X.env.scope n := by first | exact Or.inl rfl | exact Or.inr (Or.inl rfl) | exact Or.inr (Or.inr rfl)) (hg : Gl X "isinstance" := by rfl)
    (hl : us.length ≤ 1000 := by simp) (hd : (n == ("__debug__" : Str)) = false := by decide) (hcd : (n == ("__classdict__" : Str)) = false := by decide)
    (he : starEach [.Name n p1, .Tuple cs k p2] X.env = (false, eval (.Name n p1) X.env) :: starEach [.Tuple cs k p2] X.env := by rfl) (he2 : starEach [.Tuple cs k p2] X.env = (false, eval (.Tuple cs k p2) X.env) :: starEach [] X.env := by rfl) (hpl : (backTo pos (starEach [.Tuple cs k p2] X.env)).any (·.1) = false := by rfl) :
    DE (X.suite a ((a, oe) :: pn)) xc W cl (.Call (.Name "isinstance" p) [.Name n p1, .Tuple cs k p2] [] pos) (xiE i a bb f v) :=
  PEimp (pe_callB (call_isXT T.cl T.zc T.fl) hg hm (by rfl) (pa_cons (pe_var hN hv hd hcd) (pa_cons (pe_tup hc.pa) pa_nil he2) he) (by decide) (by decide) he hpl) fun σ H Q h => by
    obtain ⟨g, O0, e, s, G, h⟩ := h
    obtain ⟨h1, ⟨fs, h2⟩, h3⟩ := xi_ok G h
    refine ⟨_, h1, by rw [Paired.len hc.v]; exact Nat.le_trans hl (by decide), fun t n1 => ⟨t, cvs, us, v, rfl, upd_same, hc.v, hk, fun d z => ?_, h3 _ (Keep.new n1)⟩⟩
    rw [T.db] at z; cases z
    exact ⟨fs, by rw [upd_ne (fun q => by rw [q, n1] at h2; cases h2)]; exact h2⟩
/-- e.f -/
theorem z_xf (i : Nat) (T : Exh X a C bb dd oe) (hno : PySem.W.findIn X.K (.ref C) f = some none) (hN : X.N[i]? = some n := by rfl) (hv : Vis X.env.scope n := by first | exact Or.inl rfl | exact Or.inr (Or.inl rfl) | exact Or.inr (Or.inr rfl))
    (hd : (n == ("__debug__" : Str)) = false := by decide) (hcd : (n == ("__classdict__" : Str)) = false := by decide) (hb : attributeBase (.Name n p1) f X.env (eval (.Name n p1) X.env) = eval (.Name n p1) X.env := by rfl) :
    DE (X.suite a ((a, oe) :: pn)) xc W cl (.Attribute (.Name n p1) f pos) (.xf i a bb f) :=
  PEimp (pe_xf ⟨T.cl.ga, T.cl.gg, T.cl.sb, T.cl.hd⟩ hno T.zc T.fl (pe_var hN hv hd hcd) hb) fun σ H Q h => by
    obtain ⟨g, O0, e, s, G, h⟩ := h
    rcases ev_xf' (cl := cl) (i := i) (m := ⟨e, s⟩) (a := a) (b := bb) (n := f) with ⟨d, h1, h2⟩ | h2
    · have h : PostE xc X.K W g O0 e σ H Q (ev cl (.xf i a bb f) ⟨e, s⟩) := h
      rw [h2] at h
      have S := G.rep.at' i _ h1
      obtain ⟨x, q, sx⟩ := S.2 _ _ _ rfl
      refine ⟨_, S.1, rfl, rfl, bb, [(f, x)], x, T.db, q, by simp, ?_⟩
      exact h _ H [] G.stp ⟨rfl, sx.weak fun a z => z.elim (fun z => z.elim .inl fun z => nomatch z) .inr⟩
    · have h : PostE xc X.K W g O0 e σ H Q (ev cl (.xf i a bb f) ⟨e, s⟩) := h
      rw [h2] at h; exact h.elim
end
end PV

/-! PV.53: try, for a printed walk -/
namespace PV
open PySem PySem.Spec PyProof.Rows L2
section
variable {X : Cx} {xc : XC} {W : WX} {cl : Nat → List Arg → DS → FRes} {k : Nat} {x n : Str} {cv : Value} {body suite : List Stmt} {b₀ : Stmt} {ib : Ss} {np pos pos' : Pos} {ws : List Nat} {hc : Nat → Bool} {fn : Nat → Option Str} {su : Nat → Addr → Addr → Ss}
/-- the suites of a try, class by class -/
def Suites (X : Cx) (xc : XC) (cl : Nat → List Arg → DS → FRes) (hc : Nat → Bool) (fn : Nat → Option Str) (suite : List Stmt) (su : Nat → Addr → Addr → Ss) : Prop :=
  ∀ (c : Nat) (a bb : Addr) (dd : Option Addr) (oe : Obj) (pn : List (Addr × Obj)) (cls : Value), hc c = true → xc c = some (cls, fn c) → (fn c = none → dd = none) → (∀ n, fn c = some n → dd = some bb) → Zc cls dd oe → (∃ vs, oe.data = .fields vs) → Bs (X.suite a ((a, oe) :: pn)) →
    DSs (X.suite a ((a, oe) :: pn)) xc (fun _ _ _ _ => False) cl suite (su c a bb)
theorem pss_tsu (d : Bd X W k) {st : List Stmt} (hsu : Suites X xc cl hc fn st su) (a : Addr) (oe : Obj) (cls : Value) (dd : Option Addr) (pn : List (Addr × Obj)) (hz : Zc cls dd oe) (hf : ∃ vs, oe.data = .fields vs) : PSs (X.suite a ((a, oe) :: pn)) st (tsu xc X.K cl hc fn su a cls dd) :=
  ⟨fun pins s σ H D I z => by
    obtain ⟨c, bb, h1, h2, h3, h4, h5⟩ := z
    exact (hsu c a bb dd oe pn cls h2 h1 h3 h4 hz hf ⟨d.ok.nd, d.ok.un, d.ok.gd⟩).run pins s σ H D I h5⟩
/-- try: .. except x as n: .. -/
theorem d_try (d : Bd X W k) (i : Nat) (hb : ∀ {pn : List (Addr × Obj)} {xe : Value → Shared → Prop} {W' : WX}, Bd (X.tr pn xe) W' k → DSs (X.tr pn xe) xc W' cl body ib) (hsu : Suites X xc cl hc fn (b₀ :: suite) su) (hcn : Names X x cv)
    (hx : ∀ c cls m, xc c = some (cls, m) → PySem.W.exmOne X.K cls cv = some (hc c) ∧ fn c = m) (hw : ∀ c a b j, asgSs (su c a b) j = true → ws.contains j = true)
    (hi : X.N[i]? = some n := by rfl) (hi1 : i < 1000 := by decide) (hln : X.env.kindOf n = some .local := by rfl) (hs : X.stack = X.env :: X.outer := by rfl) (hf : X.env.frame = some X.env.locals := by rfl) :
    DS' X xc W cl (.Try body [.ExceptHandler (some (.Name x np)) (some n) (b₀ :: suite) pos'] [] [] pos) (.tr ib i ws hc fn su) :=
  PSimp (ps_try_as (tb := fun W' => tS xc X.K W' (asgSs ib) fun m => exs cl ib m) (ts := tsu xc X.K cl hc fn su) hs hf d.ok.nd hi hln hcn d.takes (fun W' pn xe tk ps => hb (d.t tk ps)) fun a oe cls dd pn hz hf' => pss_tsu d hsu a oe cls dd pn hz hf') fun D σ H h => tr_ok hi1 hx hw h
end
section
variable {X : Cx} {xc : XC} {W : WX} {cl : Nat → List Arg → DS → FRes} {k : Nat} {a b e : Expr} {ea eb : E} {as : Es} {n : Str} {p pos : Pos}
variable (d : Bs X)
include d
theorem Bs.un3 : X.A.units + 64 < cLine := by have := d.un; omega
theorem z_repr (hm : X.mg "repr" = none) (ha : DA X xc W cl [e] as) (hg : Gl X "repr" := by rfl) (he : starEach [e] X.env = [(false, eval e X.env)] := by rfl) : DE X xc W cl (.Call (.Name "repr" p) [e] [] pos) (.op .repr as) := de_blt (call_repr d.un d.gd) (.of v_repr) hg hm (by rfl) ha (he := he)
end
/-! a table with room for raise -/
theorem FnT.walkJ {P : Program} {w : World} {K : PySem.W.Frag} {mg : Str → Option Value} {base : Heap} {xc : XC} {tb : Nat → Option FSem} {k j : Nat} {n n0 qual : Str} {f : Nat} {st : Stmt} {fa : Addr} {fd : FuncData} {N ps : List Str} {ib : Ss}
    (F : Fun K n0 qual st fa fd) (hm : mg n = some (.ref fa)) (hb : Binds K fd ps []) (S : FnScope N ps (defScope st)) (ht : tb f = some (.df ⟨N.length, ps.length, ib⟩)) (w' : WalkB P w K mg base N qual st xc (run tb k) j ib) : FnT P w K mg base xc (run tb (k + 1)) (j + 1) n f ps.length := by
  have e : run tb (k + 1) f = runB (run tb k) ⟨N.length, ps.length, ib⟩ := by
    funext as s
    show (match tb f with
      | some (.prim g) => g as s
      | some (.df fd) => runB (run tb k) fd as s
      | none => .bad) = _
    rw [ht]
  refine ⟨⟨fa, fd, ps, ?_, hm, F.kp, hb⟩, fun as s h => ?_⟩
  · rw [e]; exact def_ok F S fun cdv A outer s H E b => w' fa cdv A outer s H E b
  · rw [e] at h; exact runB_len h
theorem FnT.zeroJ {P : Program} {w : World} {K : PySem.W.Frag} {mg : Str → Option Value} {base : Heap} {xc : XC} {tb : Nat → Option FSem} {n n0 qual : Str} {f j : Nat} {st : Stmt} {fa : Addr} {fd : FuncData} {ps : List Str}
    (F : Fun K n0 qual st fa fd) (hm : mg n = some (.ref fa)) (hb : Binds K fd ps []) : FnT P w K mg base xc (run tb 0) j n f ps.length :=
  ⟨⟨fa, fd, ps, ⟨fun vs H Q E h => h.1, fun A outer s H args us vs Q E _ _ _ _ _ h => by
    obtain ⟨_, g, O, as, s, _, _, _, _, _, h⟩ := h
    exact h.elim⟩, hm, F.kp, hb⟩, fun as s h => absurd rfl h⟩
theorem FnT.more {P : Program} {w : World} {K : PySem.W.Frag} {mg : Str → Option Value} {base : Heap} {xc : XC} {cl : Nat → List Arg → DS → FRes} {j k : Nat} {n : Str} {f np : Nat} (h : FnT P w K mg base xc cl k n f np) (l : k ≤ j) : FnT P w K mg base xc cl j n f np := by
  obtain ⟨⟨fa, fd, ps, F, h1, h2, h3⟩, h4⟩ := h
  exact ⟨⟨fa, fd, ps, F.mono l, h1, h2, h3⟩, h4⟩
/-- an __init__ that stores its one argument -/
theorem ini_body {K : PySem.W.Frag} {n : Str} {H : Hp} {Q : VK} {E : XK} {vs : List V} {N : List Str} (hN : N.length = 2) (h : spIni K n vs H Q E) : tOst K n (tVar 0) (tVar 1) { nx := fun _ H' => Q .non H', rt := Q } (L2.start N vs) H := by
  obtain ⟨a, C, y, rfl, O, no, e, h⟩ := h
  have e0 : L2.start N [V.ref a, y] = [some (.ref a), some y] := by
    unfold L2.start
    simp [hN]
  rw [e0]
  exact ⟨y, rfl, .ref a, rfl, a, C, rfl, O, no, .inl ⟨e, fun dx h1 h2 => h dx h1 h2⟩⟩
end PV

/-! PV.54: an own class in an except clause: the hand layer's exm_ref -/

/-! PV.55: l.count(x), l.index(x) -/
namespace PV
open PySem PySem.Spec PyProof.Rows L2
section
variable {K : PySem.W.Frag}
def rCnt (K : PySem.W.Frag) : R2 := fun x y H Q => ∃ (a : Addr) (d : PyData) (ds : List PyData), x = .ref a ∧ Dp K H (.ref a) (.list ds) ∧ Dp K H y d ∧ PyData.plainAll ds = true ∧ d.plain = true ∧ d.depth ≤ 60 ∧ Q (.int (ds.countP fun z => PyData.eqv z d : Nat)) H
def rIx (K : PySem.W.Frag) : R2 := fun x y H Q => ∃ (a : Addr) (k : Int) (ns : List Int) (j : Nat), x = .ref a ∧ y = .int k ∧ SqL K H a (ns.map V.int) ∧ ns[j]? = some k ∧ (∀ m : Nat, m < j → ns[m]? ≠ some k) ∧ Q (.int (j : Nat)) H
end
section
variable {X : Cx}
end
section
variable {K : PySem.W.Frag}
end
section
variable {K : PySem.W.Frag} {xc : XC} {W : WX} {cl : Nat → List Arg → DS → FRes} {σ : L2.St} {H : Hp} {Q : VK} {i j : Nat} {b : Bool}
end
section
variable {X : Cx} {xc : XC} {W : WX} {cl : Nat → List Arg → DS → FRes} {p apos cpos q : Pos} {x y : Str} {b : Bool}
end
section
variable {X : Cx} {xc : XC} {W : WX} {cl : Nat → List Arg → DS → FRes} {a b : Expr} {ea eb : E} {pos : Pos}
end
end PV

/-! PV.56: list(zip(a, b)) of two tuples -/
namespace PV
open PySem PySem.Spec PyProof.Rows L2
/-- two cells apart from a list that grows -/
structure ZSt (h : Heap) (Y TI TO i1 i2 l1 l2 S : Addr) (xs ys : Array Value) (k : Nat) : Prop where
  own : (k = 0 ∧ IsZip h Y TI TO .none ∧ ∃ a b, IsPair h TO a b) ∨ ∃ T f oT, IsZipHeld h Y TI TO T f ∧ h.get? T = some oT ∧ T ≠ Y ∧ T ≠ i1 ∧ T ≠ i2 ∧ T ≠ TO ∧ T ≠ S
  pr : IsPair h TI (.ref i1) (.ref i2)
  j1 : h.IsTupleIter i1 l1 k
  j2 : h.IsTupleIter i2 l2 k
  t1 : h.IsTuple l1 xs
  t2 : h.IsTuple l2 ys
section
variable {prog : Program} {w : World} {A : Around} {E : Value → Shared → Prop} {s : Shared} {Y TI TO i1 i2 l1 l2 S : Addr} {xs ys : Array Value} {k : Nat}
theorem ZSt.keep {h h' : Heap} (z : ZSt h Y TI TO i1 i2 l1 l2 S xs ys k) (hk : ∀ b o, b ≠ S → h.get? b = some o → h'.get? b = some o) (n1 : Y ≠ S) (n2 : TI ≠ S) (n3 : TO ≠ S) (n4 : i1 ≠ S) (n5 : i2 ≠ S) (n6 : l1 ≠ S) (n7 : l2 ≠ S) : ZSt h' Y TI TO i1 i2 l1 l2 S xs ys k := by
  obtain ⟨w1, w2, w3, w4, w5, w6⟩ := z
  refine ⟨?_, hk _ _ n2 w2, w3.at fun o q => hk _ _ n4 q, w4.at fun o q => hk _ _ n5 q, ?_, ?_⟩
  · rcases w1 with ⟨e, a, b, c, d⟩ | ⟨T, f, oT, a, b, c, d, e, g, i⟩
    · exact .inl ⟨e, hk _ _ n1 a, b, c, hk _ _ n3 d⟩
    · exact .inr ⟨T, f, oT, hk _ _ n1 a, hk _ _ i b, c, d, e, g, i⟩
  · obtain ⟨o, a, b⟩ := w5; exact ⟨o, hk _ _ n6 a, b⟩
  · obtain ⟨o, a, b⟩ := w6; exact ⟨o, hk _ _ n7 a, b⟩
end
/-- the pairs that were laid -/
structure ZG (xs ys : Array Value) (lo : Addr) (h : Heap) (as : List Addr) : Prop where
  rise : as.Pairwise (· < ·)
  above : ∀ a ∈ as, lo < a
  at' : ∀ (j : Nat) (a : Addr), as[j]? = some a → ∃ x y, xs[j]? = some x ∧ ys[j]? = some y ∧ IsPair h a x y
theorem ZG.there {xs ys : Array Value} {lo : Addr} {h : Heap} {as : List Addr} (g : ZG xs ys lo h as) {a : Addr} (ha : a ∈ as) : a < h.objs.size := by
  obtain ⟨j, hj⟩ := List.mem_iff_getElem?.mp ha
  obtain ⟨_, _, _, _, e⟩ := g.at' j a hj
  exact Heap.lt_size e
theorem ZG.low {xs ys : Array Value} {lo lo' : Addr} {h : Heap} {as : List Addr} (g : ZG xs ys lo h as) (hl : lo' ≤ lo) : ZG xs ys lo' h as := ⟨g.rise, fun a ha => Nat.lt_of_le_of_lt hl (g.above a ha), g.at'⟩
abbrev lstO (acc : Array Value) (c : Nat) : Obj := { cls := .type "list", dict := none, data := .seq acc c, slots := #[] }
section
variable {prog : Program} {w : World} {A : Around} {s : Shared} {R : Result → Shared → Prop} {Y TI TO i1 i2 l1 l2 S lo : Addr} {xs ys : Array Value} {n : Nat}
end
section
variable {prog : Program} {w : World} {A : Around} {E : Value → Shared → Prop} {s : Shared} {Y TI TO i1 i2 l1 l2 : Addr} {xs ys : Array Value} {n : Nat}
end
/-! at the tracked heap -/
def putZ : Hp → List Addr → List (V × V) → Hp
  | H, a :: as, p :: ps => putZ (upd H a (.tup [p.1, p.2])) as ps
  | H, _, _ => H
def rZipT (K : PySem.W.Frag) : List V → Hp → VK → Prop := fun vs H Q => ∃ (a b : Addr) (xs ys : List V), vs = [.ref a, .ref b] ∧ SqT K H a xs ∧ SqT K H b ys ∧
  ∀ (H' : Hp) (p : Addr) (ts : List Addr), (∀ c o, H c = some o → H' c = some o) → H p = none → ts.length ≤ sizeLine → H' p = some (.lst (ts.map V.ref)) → Paired (fun (t : Addr) (q : V × V) => H' t = some (.tup [q.1, q.2])) ts (xs.zip ys) → Q (.ref p) H'
def tListZip (K : PySem.W.Frag) (ta : TA) : TE := fun σ H Q => ta σ H fun vs H1 => rZipT K vs H1 Q
section
variable {K : PySem.W.Frag}
end
end PV

/-! PV.57: min of a list of alike data -/
namespace PV
open PySem PySem.Spec PyProof.Rows L2
def rMinA (K : PySem.W.Frag) : List V → Hp → VK → Prop := fun vs H Q => ∃ (a : Addr) (zs : List V) (d : PyData) (ds : List PyData), vs = [.ref a] ∧ SqL K H a zs ∧ DpAll K H zs (d :: ds) ∧ PySem.W.AlikeAll (d :: ds) ∧ PyData.depthAll (d :: ds) ≤ 60 ∧
  ∀ (i : Nat) (z : V), zs[i]? = some z → (d :: ds)[i]? = some (PySem.W.minD d ds) → Q z H
section
variable {K : PySem.W.Frag}
end
section
variable {X : Cx} {xc : XC} {W : WX} {cl : Nat → List Arg → DS → FRes} {k : Nat} {e : Expr} {as : Es} {p pos : Pos}
end
end PV

/-! PV.58: zip of three tuples -/
namespace PV
open PySem PySem.Spec PyProof.Rows L2 RZ
/-- three tuples as they stand at each turn -/
def Itz3 (K : PySem.W.Frag) (a b c : Addr) : L2.It :=
  ⟨fun i H => ∃ (us vs ws : List V) (x y w : V), SqT K H a us ∧ SqT K H b vs ∧ SqT K H c ws ∧ us[i]? = some x ∧ vs[i]? = some y ∧ ws[i]? = some w,
    fun i H v H' => ∃ T x y w, v = .ref T ∧ H T = none ∧ H' = upd H T (.tup [x, y, w]) ∧ (∀ us, SqT K H a us → us[i]? = some x) ∧ (∀ us, SqT K H b us → us[i]? = some y) ∧ ∀ us, SqT K H c us → us[i]? = some w,
    fun i H => ∃ us vs ws : List V, SqT K H a us ∧ SqT K H b vs ∧ SqT K H c ws ∧ (i = us.length ∨ i = vs.length ∨ i = ws.length) ∧ i ≤ us.length ∧ i ≤ vs.length ∧ i ≤ ws.length⟩
def iZip3 (K : PySem.W.Frag) (ta : TA) : TI := fun σ H R => ta σ H fun vs H1 => ∃ a b c xs ys zs, vs = [.ref a, .ref b, .ref c] ∧ SqT K H1 a xs ∧ SqT K H1 b ys ∧ SqT K H1 c zs ∧ R (Itz3 K a b c) H1
section
variable {K : PySem.W.Frag} {O : AP} {H H' : Hp} {a b c : Addr} {xs ys zs : List PyData} {P : AP → Hp → Prop}
end
section
variable {X : Cx} {xc : XC} {W : WX} {cl : Nat → List Arg → DS → FRes} {K : PySem.W.Frag}
end
end PV

/-! PV.59: the draw of k64-k66, k73-k75 and of the boards -/
namespace PV
open PySem PySem.Spec L2
def drawE : List Arg → DS → FRes
  | [.dk 0, .sh (.int n)], s => if 0 < n ∧ n < 1073741824 ∧ 0 ≤ s.cnt ∧ s.cnt < 1099511627776 then
      if 1000000000000000000 ≤ cellA s then .ok (.v (.int (cellA s % n))) ⟨s.cells.set ((s.cnt + 1) % s.cells.length).toNat (cellA s / n), s.cnt + 1, s.rests, s.obs⟩
      else .ok (.v (.int ((cellA s % 2147483587 + 7919 * (s.cnt + 1) + 1) ^ 5 % 2147483647 % n))) ⟨s.cells, s.cnt + 1, s.rests, s.obs⟩
    else .bad
  | _, _ => .bad
theorem drawE_len {as : List Arg} {s : DS} (h : drawE as s ≠ .bad) : as.length = 2 := by
  unfold drawE at h
  split at h
  · rfl
  · exact absurd rfl h
theorem drawE_inv {as : List Arg} {s : DS} (h : drawE as s ≠ .bad) : ∃ n, as = [.dk 0, .sh (.int n)] ∧ 0 < n ∧ n < 1073741824 ∧ 0 ≤ s.cnt ∧ s.cnt < 1099511627776 := by
  unfold drawE at h
  split at h
  · split at h
    · rename_i z
      exact ⟨_, rfl, z⟩
    · exact absurd rfl h
  · exact absurd rfl h
/-- what is drawn -/
theorem drawE_ok {n : Int} {s : DS} (h1 : 0 < n) (h2 : n < 1073741824) (h3 : 0 ≤ s.cnt) (h4 : s.cnt < 1099511627776) : ∃ r s', drawE [.dk 0, .sh (.int n)] s = .ok (.v (.int r)) s' ∧ 0 ≤ r ∧ r < n ∧ s'.cnt = s.cnt + 1 := by
  unfold drawE
  simp only [h1, h2, h3, h4, and_self, if_true]
  split
  · exact ⟨_, _, rfl, Int.emod_nonneg _ (by omega), Int.emod_lt_of_pos _ h1, rfl⟩
  · exact ⟨_, _, rfl, Int.emod_nonneg _ (by omega), Int.emod_lt_of_pos _ h1, rfl⟩

/-- slots: the deck, the limit, the cell, the index -/
def tDrawE (K : PySem.W.Frag) : TS :=
  tSeq (tAsg (tOp (rI0 fun i j => .int (i + j)) (ix K (tVar 0) (tC (.int 1))) (tC (.int 1))) (gSub (tVar 0) (tC (.int 1)) rSetL))
  (tSeq (tAsg (tC (.int 0)) (gName 2))
  (tSeq (tAsg (tUn (rU fun i => .int (-i)) (tC (.int 1))) (gName 3))
  (tSeq (tIfS (tTest (tOp (rI0 fun i j => .bl (decide (j < i))) (tCB (lenR K) (tCons (ix K (tVar 0) (tC (.int 0))) tNil)) (tC (.int 0))))
      (tSeq (tAsg (tOp (rI (fun _ j => 0 < j) fun i j => .int (i % j)) (ix K (tVar 0) (tC (.int 1))) (tCB (lenR K) (tCons (ix K (tVar 0) (tC (.int 0))) tNil))) (gName 3)) (tAsg (ix K (ix K (tVar 0) (tC (.int 0))) (tVar 3)) (gName 2)))
      tNext)
  (tSeq (tIfS (tTest (tOp (rI0 fun i j => .bl (decide (j ≤ i))) (tVar 2) (tOp (rI CPow fun i j => .int (i ^ j.toNat)) (tC (.int 10)) (tC (.int 18)))))
      (tSeq (tAsg (tOp (rI CDiv fun i j => .int (i / j)) (tVar 2) (tVar 1)) (gSub (ix K (tVar 0) (tC (.int 0))) (tVar 3) rSetL)) (tRet (tOp (rI (fun _ j => 0 < j) fun i j => .int (i % j)) (tVar 2) (tVar 1))))
      tNext)
  (tRet (tOp (rI (fun _ j => 0 < j) fun i j => .int (i % j)) (tOp (rI (fun _ j => 0 < j) fun i j => .int (i % j)) (tOp (rI CPow fun i j => .int (i ^ j.toNat))
    (tOp (rI0 fun i j => .int (i + j)) (tOp (rI0 fun i j => .int (i + j)) (tOp (rI (fun _ j => 0 < j) fun i j => .int (i % j)) (tVar 2) (tC (.int 2147483587))) (tOp (rI CMul fun i j => .int (i * j)) (tC (.int 7919)) (ix K (tVar 0) (tC (.int 1))))) (tC (.int 1)))
    (tC (.int 5))) (tC (.int 2147483647))) (tVar 1)))))))
theorem drawE_body {K : PySem.W.Frag} {xc : XC} {H : Hp} {Q : VK} {E : XK} {vs : List V} {N : List Str} (hN : N.length = 4) (h : spF xc K 2 drawE vs H Q E) : tDrawE K { nx := fun _ H' => Q .non H', rt := Q } (L2.start N vs) H := by
  obtain ⟨hl, g, O, as, s, h0, h1, h2, dk, hp, h⟩ := h
  obtain ⟨n, rfl, c1, c2, c3, c4⟩ := drawE_inv (as := as) (s := s) fun z => by rw [z] at h; exact h
  unfold drawE at h
  simp only [c1, c2, c3, c4, and_self, if_true] at h
  obtain ⟨x, y, rfl, r1, r2⟩ := pair2 hp
  cases r1
  cases r2 with
  | sh r2 =>
  obtain rfl := sh_int.mp r2
  have e0 : L2.start N [.ref (g.ad 0), .int n] = [some (.ref g.1), some (.int n), none, none] := by
    unfold L2.start; rw [hN]; rfl
  rw [e0]
  obtain ⟨xs, t0, t1, t2, t3⟩ := dk_top dk
  -- the counter
  refine ⟨_, rfl, ⟨g.1, xs, 1, _, rfl, rfl, SqL.of t0, at1 t2, s.cnt, 1, rfl, rfl, _, rfl, ?_⟩⟩
  refine ⟨g.1, xs, 1, 1, rfl, rfl, t0, ixN_nat (j := 1) (by omega), ?_⟩
  have dk1 := dk_cnt dk t0 (s.cnt + 1)
  have k1 : Keep (DkS g) H (upd H g.1 (.lst (xs.set 1 (.int (s.cnt + 1))))) := dk_keep t0 (.inl rfl)
  generalize upd H g.1 (.lst (xs.set 1 (.int (s.cnt + 1)))) = Hb at dk1 k1
  refine ⟨1, rfl, ?_⟩
  obtain ⟨ys, u0, u1, u2, u3⟩ := dk_top dk1
  simp only at u2
  have uc : Hb g.2.1 = some (.lst (s.cells.map V.int)) := dk1.cells
  have i0 : ∀ {R : VK}, R (.ref g.2.1) Hb → ∀ σ : L2.St, σ[0]? = some (some (.ref g.1)) → ix K (tVar 0) (tC (.int 0)) σ Hb R := fun {R} hR σ hσ => ⟨_, hσ, g.1, ys, 0, _, rfl, rfl, SqL.of u0, at0 u1, hR⟩
  have i1 : ∀ {R : VK}, R (.int (s.cnt + 1)) Hb → ∀ σ : L2.St, σ[0]? = some (some (.ref g.1)) → ix K (tVar 0) (tC (.int 1)) σ Hb R := fun {R} hR σ hσ => ⟨_, hσ, g.1, ys, 1, _, rfl, rfl, SqL.of u0, at1 u2, hR⟩
  have fin : ∀ (cell index : Int) (v3 : V), cell = cellA s → (1000000000000000000 ≤ cell → v3 = .int (((s.cnt + 1) % s.cells.length).toNat : Nat) ∧ ((s.cnt + 1) % s.cells.length).toNat < s.cells.length) → ∀ σ : L2.St, σ = [some (.ref g.1), some (.int n), some (.int cell), some v3] →
      (tSeq (tIfS (tTest (tOp (rI0 fun i j => .bl (decide (j ≤ i))) (tVar 2) (tOp (rI CPow fun i j => .int (i ^ j.toNat)) (tC (.int 10)) (tC (.int 18)))))
      (tSeq (tAsg (tOp (rI CDiv fun i j => .int (i / j)) (tVar 2) (tVar 1)) (gSub (ix K (tVar 0) (tC (.int 0))) (tVar 3) rSetL)) (tRet (tOp (rI (fun _ j => 0 < j) fun i j => .int (i % j)) (tVar 2) (tVar 1))))
      tNext)
  (tRet (tOp (rI (fun _ j => 0 < j) fun i j => .int (i % j)) (tOp (rI (fun _ j => 0 < j) fun i j => .int (i % j)) (tOp (rI CPow fun i j => .int (i ^ j.toNat))
    (tOp (rI0 fun i j => .int (i + j)) (tOp (rI0 fun i j => .int (i + j)) (tOp (rI (fun _ j => 0 < j) fun i j => .int (i % j)) (tVar 2) (tC (.int 2147483587))) (tOp (rI CMul fun i j => .int (i * j)) (tC (.int 7919)) (ix K (tVar 0) (tC (.int 1))))) (tC (.int 1)))
    (tC (.int 5))) (tC (.int 2147483647))) (tVar 1)))) { nx := fun _ H' => Q .non H', rt := Q } σ Hb := by
    intro cell index v3 hcell hbig σ hσ
    subst hσ
    refine ⟨_, rfl, 10, 18, rfl, rfl, ⟨by omega, by omega, by decide⟩, cell, 1000000000000000000, rfl, rfl, _, rfl, ?_⟩
    by_cases hb : 1000000000000000000 ≤ cell
    · rw [decide_eq_true hb]
      refine iteT ?_
      obtain ⟨rfl, hlt⟩ := hbig hb
      rw [if_pos (by rw [← hcell]; exact hb)] at h
      refine ⟨_, rfl, _, rfl, cell, n, rfl, rfl, ⟨c1, c2⟩, i0 ⟨_, rfl, g.2.1, _, _, _, rfl, rfl, uc, ixN_nat (by simpa using hlt), _, rfl, _, rfl, cell, n, rfl, rfl, c1, ?_⟩ _ rfl⟩
      refine h _ _ [] (k1.trans (dk_keep uc (.inr (.inl rfl))) fun a z => .inl z) nilF (RO.sh (sh_int.mpr (by rw [hcell]))) ?_
      have := dk_cells dk1 ((s.cnt + 1) % s.cells.length).toNat (cell / n)
      rw [← hcell]
      exact this
    · rw [decide_eq_false hb]
      refine iteF ?_
      rw [if_neg (by rw [← hcell]; exact hb)] at h
      have m0 : 0 ≤ cell % 2147483587 := Int.emod_nonneg _ (by decide)
      have m1 : cell % 2147483587 < 2147483587 := Int.emod_lt_of_pos _ (by decide)
      refine ⟨_, rfl, cell, 2147483587, rfl, rfl, (show (0 : Int) < 2147483587 by decide), i1 ⟨7919, s.cnt + 1, rfl, rfl, .inl (by decide), _, _, rfl, rfl, _, 1, rfl, rfl, _, 5, rfl, rfl, ⟨by decide, by decide, by omega⟩, _, 2147483647, rfl, rfl, (show (0 : Int) < 2147483647 by decide), _, rfl, _, n, rfl, rfl, c1, ?_⟩ _ rfl⟩
      exact h _ _ [] k1 nilF (RO.sh (sh_int.mpr (by rw [hcell]; rfl))) dk1
  show (tSeq _ _) _ [some (.ref g.1), some (.int n), some (.int 0), some (.int (-1))] Hb
  refine i0 ⟨_, _, rfl, .inl ⟨_, SqL.of uc, rfl⟩, _, 0, rfl, rfl, _, rfl, ?_⟩ _ rfl
  rw [List.length_map]
  by_cases hz : 0 < s.cells.length
  · rw [decide_eq_true (by omega)]
    refine iteT ?_
    have lp : (0 : Int) < s.cells.length := by omega
    have q0 : 0 ≤ (s.cnt + 1) % s.cells.length := Int.emod_nonneg _ (by omega)
    have q1 : (s.cnt + 1) % s.cells.length < s.cells.length := Int.emod_lt_of_pos _ lp
    have hlt : ((s.cnt + 1) % s.cells.length).toNat < s.cells.length := by omega
    refine i1 (i0 ⟨_, _, rfl, .inl ⟨_, SqL.of uc, rfl⟩, s.cnt + 1, _, rfl, rfl, by rw [List.length_map]; exact lp, ?_⟩ _ rfl) _ rfl
    rw [List.length_map]
    change ix K (ix K (tVar 0) (tC (.int 0))) (tVar 3) [some (.ref g.1), some (.int n), some (.int 0), some (.int ((s.cnt + 1) % s.cells.length))] Hb _
    have eI : (s.cnt + 1) % (s.cells.length : Int) = ((((s.cnt + 1) % s.cells.length).toNat : Nat) : Int) := by omega
    have cA : cellA s = s.cells[((s.cnt + 1) % s.cells.length).toNat] := by
      unfold cellA
      rw [if_pos hz]
      simp [List.getD_eq_getElem?_getD, List.getElem?_eq_getElem hlt]
    refine i0 ⟨_, rfl, g.2.1, _, (s.cnt + 1) % s.cells.length, .int (cellA s), rfl, rfl, SqL.of uc, ?_, ?_⟩ _ rfl
    · rw [eI, cA]
      exact atI_nat (by rw [List.getElem?_map, List.getElem?_eq_getElem hlt]; rfl)
    · exact fin (cellA s) 0 _ rfl (fun _ => ⟨congrArg V.int eI, hlt⟩) _ rfl
  · rw [decide_eq_false (by omega)]
    refine iteF ?_
    have c0 : cellA s = 0 := by unfold cellA; rw [if_neg hz]
    exact fin 0 0 _ c0.symm (fun z => absurd z (by decide)) _ rfl
end PV

/-! PV.60: list(zip(a, b)) of two lists, too -/
namespace PV
open PySem PySem.Spec PyProof.Rows L2
/-- two cells apart from a list that grows -/
structure ZSq (h : Heap) (Y TI TO i1 i2 l1 l2 S : Addr) (xs ys : Array Value) (k : Nat) : Prop where
  own : (k = 0 ∧ IsZip h Y TI TO .none ∧ ∃ a b, IsPair h TO a b) ∨ ∃ T f oT, IsZipHeld h Y TI TO T f ∧ h.get? T = some oT ∧ T ≠ Y ∧ T ≠ i1 ∧ T ≠ i2 ∧ T ≠ TO ∧ T ≠ S
  pr : IsPair h TI (.ref i1) (.ref i2)
  j1 : h.IsListIter i1 l1 k
  j2 : h.IsListIter i2 l2 k
  t1 : h.IsList l1 xs
  t2 : h.IsList l2 ys
section
variable {prog : Program} {w : World} {A : Around} {E : Value → Shared → Prop} {s : Shared} {Y TI TO i1 i2 l1 l2 S : Addr} {xs ys : Array Value} {k : Nat}
theorem ZSq.keep {h h' : Heap} (z : ZSq h Y TI TO i1 i2 l1 l2 S xs ys k) (hk : ∀ b o, b ≠ S → h.get? b = some o → h'.get? b = some o) (n1 : Y ≠ S) (n2 : TI ≠ S) (n3 : TO ≠ S) (n4 : i1 ≠ S) (n5 : i2 ≠ S) (n6 : l1 ≠ S) (n7 : l2 ≠ S) : ZSq h' Y TI TO i1 i2 l1 l2 S xs ys k := by
  obtain ⟨w1, w2, w3, w4, w5, w6⟩ := z
  refine ⟨?_, hk _ _ n2 w2, w3.at fun o q => hk _ _ n4 q, w4.at fun o q => hk _ _ n5 q, ?_, ?_⟩
  · rcases w1 with ⟨e, a, b, c, d⟩ | ⟨T, f, oT, a, b, c, d, e, g, i⟩
    · exact .inl ⟨e, hk _ _ n1 a, b, c, hk _ _ n3 d⟩
    · exact .inr ⟨T, f, oT, hk _ _ n1 a, hk _ _ i b, c, d, e, g, i⟩
  · obtain ⟨o, a, b⟩ := w5; exact ⟨o, hk _ _ n6 a, b⟩
  · obtain ⟨o, a, b⟩ := w6; exact ⟨o, hk _ _ n7 a, b⟩
end
section
variable {prog : Program} {w : World} {A : Around} {s : Shared} {R : Result → Shared → Prop} {Y TI TO i1 i2 l1 l2 S lo : Addr} {xs ys : Array Value} {n : Nat}
end
section
variable {prog : Program} {w : World} {A : Around} {E : Value → Shared → Prop} {s : Shared} {Y TI TO i1 i2 l1 l2 : Addr} {xs ys : Array Value} {n : Nat}
end
def rZipQ (K : PySem.W.Frag) : List V → Hp → VK → Prop := fun vs H Q => ∃ (a b : Addr) (xs ys : List V), vs = [.ref a, .ref b] ∧ (SqT K H a xs ∧ SqT K H b ys ∨ SqL K H a xs ∧ SqL K H b ys) ∧
  ∀ (H' : Hp) (p : Addr) (ts : List Addr), (∀ c o, H c = some o → H' c = some o) → H p = none → ts.length ≤ sizeLine → H' p = some (.lst (ts.map V.ref)) → Paired (fun (t : Addr) (q : V × V) => H' t = some (.tup [q.1, q.2])) ts (xs.zip ys) → Q (.ref p) H'
def tListZipQ (K : PySem.W.Frag) (ta : TA) : TE := fun σ H Q => ta σ H fun vs H1 => rZipQ K vs H1 Q
section
variable {K : PySem.W.Frag}
end
section
variable {X : Cx} {xc : XC} {W : WX} {cl : Nat → List Arg → DS → FRes} {k : Nat} {e e2 : Expr} {as : Es} {p pz pos cpos : Pos}
end
end PV

/-! PV.61: texts: join, split, f-strings -/
namespace PV
open PySem PySem.Spec PyProof.Rows L2
section
variable {K : PySem.W.Frag} {O : AP} {H : Hp}
theorem strs_of : ∀ {us : List V} {ds : List PyData} {ys : List Str}, ShA K O H us ds → strsD ds = some ys → us = ys.map V.str := by
  intro us ds ys h e
  induction h generalizing ys with
  | nil => cases e; rfl
  | cons r _ ih =>
    rename_i x d xs ds _
    cases d with
    | str i =>
      cases e2 : strsD ds with
      | none => simp [strsD, e2] at e
      | some zs =>
        simp [strsD, e2] at e
        subst e
        rw [ih e2, sh_str.mp r]; rfl
    | _ => simp [strsD] at e
theorem strs_ofT : ∀ {us : List V} {ds : List PyData} {ys : List Str}, Paired (ShT K O H) us ds → strsD ds = some ys → us = ys.map V.str := by
  intro us ds ys h e
  induction h generalizing ys with
  | nil => cases e; rfl
  | cons r _ ih =>
    rename_i x d xs ds _
    cases d with
    | str i =>
      cases e2 : strsD ds with
      | none => simp [strsD, e2] at e
      | some zs =>
        simp [strsD, e2] at e
        subst e
        rw [ih e2, t_str r]; rfl
    | _ => simp [strsD] at e
theorem sh_strs : ∀ ys : List Str, ShA K O H (ys.map V.str) (ys.map PyData.str)
  | [] => .nil
  | y :: ys => .cons (sh_str.mpr rfl) (sh_strs ys)
end
def rJn (K : PySem.W.Frag) : R2 := fun x y H Q => ∃ (a : Str) (p : Addr) (ys : List Str), x = .str a ∧ y = .ref p ∧ (SqL K H p (ys.map V.str) ∨ SqT K H p (ys.map V.str)) ∧ (ys.map (·.length)).sum + ys.length * a.length ≤ 16777216 ∧ Q (.str (Txt.join a ys)) H
def rSpl : R2 := fun x y H Q => ∃ a b : Str, x = .str a ∧ y = .str b ∧ (b.length == 0) = false ∧ a.length + 2 ≤ sizeLine ∧ rNewStrs (Txt.split a b) H Q
def rFm : V → Hp → VK → Prop := fun v H Q => (∃ y : Str, v = .str y ∧ y.length ≤ 1000000 ∧ Q (.str y) H) ∨ ∃ i : Int, v = .int i ∧ i.natAbs < 10 ^ 12 ∧ Q (.str (toString i)) H
def rCat : List V → Hp → VK → Prop := fun vs H Q => ∃ ys : List Str, vs = ys.map V.str ∧ Q (.str (catS ys)) H
section
variable {K : PySem.W.Frag}
theorem v_join : OpV K (V2 (rJn K)) joinD := by
  intro O H vs ds z Q hp hz hQ
  unfold joinD at hz
  split at hz
  · rename_i a ds
    obtain ⟨x, y, rfl, h1, h2⟩ := p2 hp
    split at hz
    · rename_i ys e
      split at hz
      · rename_i hl
        cases hz
        obtain ⟨p, us, rfl, l, hlz, q⟩ := t_list h2
        have := strs_of q e
        subst this
        exact ⟨_, _, rfl, a, p, ys, t_str h1, rfl, .inl (SqL.of l), hl, fin_v hQ (sh_str.mpr rfl)⟩
      · cases hz
    · cases hz
  · cases hz
theorem v_split : OpV K (V2 rSpl) splitD := by
  intro O H vs ds z Q hp hz hQ
  unfold splitD at hz
  split at hz
  · rename_i a b
    obtain ⟨x, y, rfl, h1, h2⟩ := p2 hp
    split at hz
    · rename_i hl
      cases hz
      refine ⟨_, _, rfl, a, b, t_str h1, t_str h2, hl.1, hl.2, fin_l hQ ?_ (sh_strs _)⟩
      rw [List.length_map]
      exact Nat.le_trans (PyProof.Rows.split_le a b) hl.2
    · cases hz
  · cases hz
theorem v_fmt : OpV K (V1 rFm) fmtD := by
  intro O H vs ds z Q hp hz hQ
  unfold fmtD at hz
  split at hz
  · rename_i y
    obtain ⟨x, rfl, h1⟩ := p1 hp
    split at hz
    · rename_i hl
      cases hz
      exact ⟨_, rfl, .inl ⟨y, t_str h1, hl, fin_v hQ (sh_str.mpr rfl)⟩⟩
    · cases hz
  · rename_i i
    obtain ⟨x, rfl, h1⟩ := p1 hp
    split at hz
    · rename_i hl
      cases hz
      exact ⟨_, rfl, .inr ⟨i, t_int h1, hl, fin_v hQ (sh_str.mpr rfl)⟩⟩
    · cases hz
  · cases hz
theorem v_cat : OpV K rCat catD := by
  intro O H vs ds z Q hp hz hQ
  unfold catD at hz
  split at hz
  · rename_i ys e
    cases hz
    exact ⟨ys, strs_ofT hp e, fin_v hQ (sh_str.mpr rfl)⟩
  · cases hz
end
section
variable {X : Cx} {xc : XC} {W : WX} {cl : Nat → List Arg → DS → FRes} {e o : Expr} {ea eo : E} {a b n : Str} {j jd : Nat} {p q apos pos : Pos}
theorem d_join (he : DE X xc W cl e ea) (hs : starEach [e] X.env = [(false, eval e X.env)] := by rfl) (hbase : attributeBase (.Constant (.str a) jd p) "join" X.env (eval (.Constant (.str a) jd p) X.env) = eval (.Constant (.str a) jd p) X.env := by rfl) (hline : (apos.endLine == pos.line) = true := by rfl) :
    DE X xc W cl (.Call (.Attribute (.Constant (.str a) jd p) "join" apos) [e] [] pos) (.op (.g 12) (.cons (.c (.str a)) (.cons ea .nil))) :=
  PEimp (pe_join pe_str he hs hbase hline) fun σ H Q h => by
    have h1 := two_ok ((OpE.of (o := .g 12) (r := V2 (rJn X.K)) (fun O H vs ds z Q hp hz hQ => v_join O H vs ds z Q hp hz hQ)).use h)
    have h2 := h1.const fun _ => sh_str.mpr rfl
    refine ⟨⟨a, rfl⟩, h2.mono fun y H2 h => ?_⟩
    obtain ⟨x', y', e', a', p', ys, rfl, rfl, hh, hl, hq⟩ := h
    cases e'
    exact ⟨_, p', ys, rfl, rfl, hh, hl, hq⟩
theorem d_splitC (ho : DE X xc W cl o eo) (hs : starEach [.Constant (.str b) jd q] X.env = [(false, eval (.Constant (.str b) jd q) X.env)] := by rfl) (hbase : attributeBase o "split" X.env (eval o X.env) = eval o X.env := by rfl) (hline : (apos.endLine == pos.line) = true := by rfl) :
    DE X xc W cl (.Call (.Attribute o "split" apos) [.Constant (.str b) jd q] [] pos) (.op (.g 15) (.cons eo (.cons (.c (.str b)) .nil))) :=
  PEimp (pe_split ho pe_str hs hbase hline) fun σ H Q h => by
    have h1 := two_ok ((OpE.of (o := .g 15) (r := V2 rSpl) (fun O H vs ds z Q hp hz hQ => v_split (K := X.K) O H vs ds z Q hp hz hQ)).use h)
    refine h1.mono fun x H1 h => ?_
    have h2 := h.const fun _ => sh_str.mpr rfl
    obtain ⟨x', y', e', a', b', rfl, rfl, hh, hl, hq⟩ := h2
    cases e'
    exact ⟨⟨_, rfl⟩, _, _, rfl, rfl, hh, hl, hq⟩
theorem d_splitV (j : Nat) (ho : DE X xc W cl o eo) (hN : X.N[j]? = some n := by rfl) (hv : Vis X.env.scope n := by first | exact Or.inl rfl | exact Or.inr (Or.inl rfl) | exact Or.inr (Or.inr rfl)) (hd : (n == ("__debug__" : Str)) = false := by decide) (hcd : (n == ("__classdict__" : Str)) = false := by decide)
    (hs : starEach [.Name n q] X.env = [(false, eval (.Name n q) X.env)] := by rfl) (hbase : attributeBase o "split" X.env (eval o X.env) = eval o X.env := by rfl) (hline : (apos.endLine == pos.line) = true := by rfl) :
    DE X xc W cl (.Call (.Attribute o "split" apos) [.Name n q] [] pos) (.op (.g 15) (.cons eo (.cons (.x j) .nil))) :=
  PEimp (pe_split ho (pe_var hN hv hd hcd) hs hbase hline) fun σ H Q h => by
    have h1 := two_ok ((OpE.of (o := .g 15) (r := V2 rSpl) (fun O H vs ds z Q hp hz hQ => v_split (K := X.K) O H vs ds z Q hp hz hQ)).use h)
    refine h1.mono fun x H1 h => ?_
    obtain ⟨v, h2, h3⟩ := var_ok h
    obtain ⟨x', y', e', a', b', rfl, rfl, hh, hl, hq⟩ := h3
    cases e'
    exact ⟨⟨a', rfl⟩, _, h2, a', b', rfl, rfl, hh, hl, hq⟩
/-- the parts of an f-string -/
def PJE (X : Cx) (xc : XC) (W : WX) (cl : Nat → List Arg → DS → FRes) (parts : List Expr) (es : Es) : Prop := ∃ ts : List TE, PJ X parts ts ∧
  ∀ (acc : Str) (σ : L2.St) (H : Hp) (Q : Str → Hp → Prop), acc.length + 1000000 * parts.length ≤ sizeLine → tEs xc X.K W (fun m => evs cl es m) σ H (fun vs H1 => ∃ ys : List Str, vs = ys.map V.str ∧ Q (acc ++ catS ys) H1) → tJs ts acc σ H Q
theorem str_nilR (x : Str) : x ++ Str.empty = x := by
  cases x
  show Str.mk (_ ++ #[]) = _
  simp
theorem str_nilL (x : Str) : Str.empty ++ x = x := by
  cases x
  show Str.mk (#[] ++ _) = _
  simp
theorem str_assoc (x y z : Str) : x ++ y ++ z = x ++ (y ++ z) := by
  show Str.mk (_ ++ _ ++ _) = Str.mk (_ ++ (_ ++ _))
  rw [Array.append_assoc]
theorem str_lenA (x y : Str) : (x ++ y).length = x.length + y.length := by
  show (x.cps ++ y.cps).size = _
  rw [Array.size_append]; rfl
theorem pj_nil : PJE X xc W cl [] .nil := ⟨[], .nil, fun acc σ H Q _ h => by
  obtain ⟨ys, e, q⟩ := nil_ok h
  cases ys with
  | nil => rw [show catS [] = Str.empty from rfl, str_nilR] at q; exact q
  | cons y ys => cases e⟩
theorem pj_const {rest : List Expr} {es : Es} (h : PJE X xc W cl rest es) (hl : b.length ≤ 1000000 := by decide) : PJE X xc W cl (.Constant (.str b) jd p :: rest) (.cons (.c (.str b)) es) := by
  obtain ⟨ts, h1, h2⟩ := h
  refine ⟨tC (.str b) :: ts, .cons pe_str h1, fun acc σ H Q ha h => ?_⟩
  have h3 := (cons_ok (f := fun m => ev cl (.c (.str b)) m) (fs := fun m => evs cl es m) h).const fun _ => sh_str.mpr rfl
  rw [List.length_cons] at ha
  refine ⟨b, rfl, by rw [str_lenA]; omega, h2 (acc ++ b) σ H Q (by rw [str_lenA]; omega) (h3.mono fun vs H1 h => ?_)⟩
  obtain ⟨ys, e, q⟩ := h
  cases ys with
  | nil => cases e
  | cons y ys =>
    obtain ⟨e1, e2⟩ := List.cons.inj e
    cases e1
    exact ⟨ys, e2, by rw [str_assoc]; exact q⟩
theorem pj_fmt {rest : List Expr} {es : Es} (he : DE X xc W cl e ea) (h : PJE X xc W cl rest es) : PJE X xc W cl (.FormattedValue e (-1) none p :: rest) (.cons (.op (.g 14) (.cons ea .nil)) es) := by
  obtain ⟨ts, h1, h2⟩ := h
  refine ⟨_, .cons (pe_fmt he) h1, fun acc σ H Q ha h => ?_⟩
  have h3 := cons_ok (f := fun m => ev cl (.op (.g 14) (.cons ea .nil)) m) (fs := fun m => evs cl es m) h
  have h4 := one_ok ((OpE.of (o := .g 14) (r := V1 rFm) (fun O H vs ds z Q hp hz hQ => v_fmt (K := X.K) O H vs ds z Q hp hz hQ)).use h3)
  rw [List.length_cons] at ha
  have fin : ∀ (y : Str) (H1 : Hp), y.length ≤ 1000000 → tEs xc X.K W (fun m => evs cl es m) σ H1 (fun xs H2 => ∃ ys : List Str, V.str y :: xs = ys.map V.str ∧ Q (acc ++ catS ys) H2) → (acc ++ y).length ≤ sizeLine ∧ tJs ts (acc ++ y) σ H1 Q := fun y H1 hy h5 => by
    refine ⟨by rw [str_lenA]; omega, h2 (acc ++ y) σ H1 Q (by rw [str_lenA]; omega) (h5.mono fun vs H2 h => ?_)⟩
    obtain ⟨ys, e, q⟩ := h
    cases ys with
    | nil => cases e
    | cons z ys =>
      obtain ⟨e1, e2⟩ := List.cons.inj e
      cases e1
      exact ⟨ys, e2, by rw [str_assoc]; exact q⟩
  show tFmt (tE xc X.K W fun m => ev cl ea m) σ H _
  refine h4.mono fun v H1 h => ?_
  obtain ⟨v', e', h⟩ := h
  cases e'
  rcases h with ⟨y, rfl, hy, h5⟩ | ⟨i, rfl, hi, h5⟩
  · obtain ⟨q1, q2⟩ := fin y H1 hy h5
    have : sizeLine = 16777216 := rfl
    exact .inl ⟨y, rfl, by omega, y, rfl, q1, q2⟩
  · have hlen : ((toString i : String) : Str).length ≤ 13 := by
      have := PyData.shown_int_le hi
      rw [PyData.shown_int] at this
      exact this
    obtain ⟨q1, q2⟩ := fin _ H1 (by omega) h5
    have h40 : i.natAbs.log2 < 1920 := by
      by_cases z : i.natAbs = 0
      · rw [z]; decide
      · have : i.natAbs.log2 < 40 := (Nat.log2_lt z).mpr (by omega)
        omega
    exact .inr ⟨i, rfl, h40, _, rfl, q1, q2⟩
theorem d_fs {v1 v2 : Expr} {rest : List Expr} {es : Es} (h : PJE X xc W cl (v1 :: v2 :: rest) es) (hl : rest.length ≤ 14 := by decide) : DE X xc W cl (.JoinedStr (v1 :: v2 :: rest) pos) (.op (.g 13) es) := by
  obtain ⟨ts, h1, h2⟩ := h
  refine PEimp (pe_joined h1) fun σ H Q h => ?_
  have h3 := (OpE.of (o := .g 13) (r := rCat) (fun O H vs ds z Q hp hz hQ => v_cat (K := X.K) O H vs ds z Q hp hz hQ)).use h
  have : sizeLine = 16777216 := rfl
  refine h2 Str.empty σ H _ (by rw [List.length_cons, List.length_cons]; show 0 + _ ≤ _; omega) (h3.mono fun vs H1 h => ?_)
  obtain ⟨ys, e, q⟩ := h
  exact ⟨ys, e, by rw [str_nilL]; exact q⟩
end
end PV

/-! PV.62: set(t), t a tuple of tuples of whole numbers -/
namespace PV
open PySem PySem.Spec PyProof.Rows L2
/-- a set without items -/
def emptySet (w : World) : Obj := { cls := .type "set", dict := none, data := .set #[] 0 (.fresh 0 0 (!w.params.followText "set-order")) }
section
variable {P : Program} {w : World} {A : Around} {E : Value → Shared → Prop} {s : Shared}
/-- what set() of the tuple leaves -/
def SetMade (P : Program) (w : World) (s : Shared) (ks : List (Addr × List Int)) (s2 : Shared) : Prop :=
  ∃ h' tk L es ep t, s2 = { s with heap := h', toks := tk } ∧ SetTR P w h' s.heap.objs.size L es ep t ∧ Got ks ks.length L ∧ ∀ b o, s.heap.get? b = some o → h'.get? b = some o
end
def rSetOfTT (K : PySem.W.Frag) (P : Program) (w : World) : List V → Hp → VK → Prop := fun xs H Q => ∃ (l : Addr) (ks : List (Addr × List Int)), xs = [V.ref l] ∧ SqT K H l (ks.map fun p => V.ref p.1) ∧ (∀ p ∈ ks, SqT K H p.1 (p.2.map V.int)) ∧ ks.length < 64 ∧
  ∀ a L, H a = none → (∀ p ∈ L, p ∈ ks) → (∀ p ∈ ks, p.2 ∈ L.map (·.2)) → Q (.ref a) (upd H a (SetTO P w a L))
end PV

/-! PV.66: x[a], x[b] = a pair; insert -/
namespace PV
open PySem PySem.Spec L2
section
variable {xc : XC} {K : PySem.W.Frag} {W : WX} {cl : Nat → List Arg → DS → FRes} {σ : L2.St} {H : Hp} {i ja jb : Nat}
end
section
variable {X : Cx} {xc : XC} {W : WX} {cl : Nat → List Arg → DS → FRes} {a b : Expr} {ea eb ie : E} {pos p p1 p2 q1 q2 t1 t2 pt apos cpos : Pos} {i ja jb : Nat} {x n na nb : Str} {kt : Nat}
def rIns : V → List V → Hp → VK → Prop := fun x vs H Q => ∃ (l : Addr) (xs : List V) (i : Int) (y : V), x = .ref l ∧ vs = [.int i, y] ∧ H l = some (.lst xs) ∧ xs.length < sizeLine ∧ 0 ≤ i ∧ i < 2 ^ 63 ∧
    Q .non (upd H l (.lst (xs.take i.toNat ++ [y] ++ xs.drop i.toNat)))
end
end PV

/-! PV.73: words of texts: signs, slices, turns, numbers; range of three -/
namespace PV
open PySem PySem.Spec PyProof.Rows L2
section
variable {X : Cx} {K : PySem.W.Frag}
def rInSg (neg : Bool) : R2 := fun x y H Q => ∃ (c : Nat) (z : Str), x = .str ⟨#[c]⟩ ∧ y = .str z ∧ Q (.bl (decide (c ∈ z.cps.toList) != neg)) H
theorem op_inSg : OpR X (compareOp .In) (rInSg false) := by
  intro pins s σ H x y v u Q I rx ry h
  obtain ⟨c, z, e1, e2, q⟩ := h
  exact op_in_sign pins s σ H x y v u Q I rx ry ⟨c, z, e1, e2, by rw [Bool.bne_false] at q; exact q⟩
theorem op_notInSg : OpR X (compareOp .NotIn) (rInSg true) := by
  intro pins s σ H x y v u Q I rx ry h
  obtain ⟨c, z, e1, e2, q⟩ := h
  exact op_notIn_sign pins s σ H x y v u Q I rx ry ⟨c, z, e1, e2, by rw [Bool.bne_true] at q; exact q⟩
theorem v_inSg (neg : Bool) : OpV K (V2 (rInSg neg)) (inSg neg) := by
  intro O H vs ds z Q hp hz hQ
  unfold inSg at hz
  split at hz
  · obtain ⟨x, y, rfl, h1, h2⟩ := p2 hp
    cases hz
    exact ⟨x, y, rfl, _, _, t_str h1, t_str h2, fin_v hQ (sh_bool.mpr rfl)⟩
  · cases hz
theorem b_inSg {neg : Bool} {ds : List PyData} {r : R} (h : inSg neg ds = some r) : ∃ c, r = .v (.bool c) := by
  unfold inSg at h
  split at h
  · cases h; exact ⟨_, rfl⟩
  · cases h
theorem v_ixS : OpV K (V2 rIxS) ixSD := by
  intro O H vs ds z Q hp hz hQ
  unfold ixSD at hz
  split at hz
  · rename_i t i
    obtain ⟨x, y, rfl, h1, h2⟩ := p2 hp
    split at hz
    · rename_i hl
      cases hc : L2.atI t.cps.toList i with
      | none => rw [hc] at hz; cases hz
      | some c =>
        rw [hc] at hz; cases hz
        exact ⟨x, y, rfl, t, i, c, t_str h1, t_int h2, by rw [← LIM_eq]; exact hl, hc, fin_v hQ (sh_str.mpr rfl)⟩
    · cases hz
  · cases hz
def rSl10 : R2 := fun x y H Q => ∃ z i, x = .str z ∧ y = .int i ∧ z.length ≤ sizeLine ∧ Q (.str (cutS z (some i) none)) H
def rSl01 : R2 := fun x y H Q => ∃ z i, x = .str z ∧ y = .int i ∧ z.length ≤ sizeLine ∧ Q (.str (cutS z none (some i))) H
theorem v_sl10S : OpV K (V2 rSl10) (slSD true false) := by
  intro O H vs ds z Q hp hz hQ
  unfold slSD at hz
  split at hz
  · obtain ⟨x, y, rfl, h1, h2⟩ := p2 hp
    split at hz
    · rename_i hl
      cases hz
      exact ⟨x, y, rfl, _, _, t_str h1, t_int h2, by rw [← LIM_eq]; exact hl.1, fin_v hQ (sh_str.mpr rfl)⟩
    · rw [if_neg (by simp)] at hz; cases hz
  · rw [if_neg (by simp)] at hz; cases hz
  · cases hz
theorem v_sl01S : OpV K (V2 rSl01) (slSD false true) := by
  intro O H vs ds z Q hp hz hQ
  unfold slSD at hz
  split at hz
  · obtain ⟨x, y, rfl, h1, h2⟩ := p2 hp
    rw [if_neg (by simp)] at hz
    split at hz
    · rename_i hl
      cases hz
      exact ⟨x, y, rfl, _, _, t_str h1, t_int h2, by rw [← LIM_eq]; exact hl.1, fin_v hQ (sh_str.mpr rfl)⟩
    · cases hz
  · rw [if_neg (by simp)] at hz; cases hz
  · cases hz
theorem v_intS : OpV K (fun xs H Q => ∃ a n, xs = [.str a] ∧ PySem.intText? a = some n ∧ a.length ≤ 640 ∧ Q (.int n) H) intSD := by
  intro O H vs ds z Q hp hz hQ
  unfold intSD at hz
  split at hz
  · rename_i a
    obtain ⟨x, rfl, h1⟩ := p1 hp
    split at hz
    · rename_i hl
      cases hc : PySem.intText? a with
      | none => rw [hc] at hz; cases hz
      | some n =>
        rw [hc] at hz; cases hz
        exact ⟨a, n, by rw [t_str h1], hc, hl, fin_v hQ (sh_int.mpr rfl)⟩
    · cases hz
  · cases hz
def rMulS : R2 := fun x y H Q => ∃ a i, x = .str a ∧ y = .int i ∧ a.length ≤ sizeLine ∧ ((i = 0 ∧ Q (.str Str.empty) H) ∨ (i = 1 ∧ Q (.str a) H))
theorem op_mulS : OpR X (binaryOp .Mult) rMulS := by
  intro pins s σ H x y v u Q I rx ry h
  obtain ⟨a, i, rfl, rfl, hl, h⟩ := h
  obtain ⟨t, rfl⟩ := rx
  obtain ⟨t', rfl⟩ := ry
  rcases h with ⟨rfl, q⟩ | ⟨rfl, q⟩
  · exact PySem.P.mul_str_none (by decide) (by decide) ⟨.str Str.empty, H, I.tok _, ⟨_, rfl⟩, q⟩
  · exact PySem.P.mul_str (by decide) (fun _ z => by simp at z) (fun _ z => by simp at z) (by
      rw [if_neg (by decide), if_pos (by simp)]
      exact ⟨.str a, H, I.tok _, ⟨_, rfl⟩, q⟩)
theorem v_mulS : OpV K (V2 rMulS) mulSD := by
  intro O H vs ds z Q hp hz hQ
  unfold mulSD at hz
  split at hz
  · obtain ⟨x, y, rfl, h1, h2⟩ := p2 hp
    split at hz
    · rename_i hl
      cases hz
      exact ⟨x, y, rfl, _, _, t_str h1, t_int h2, by rw [← LIM_eq]; exact hl.1, .inl ⟨hl.2, fin_v hQ (sh_str.mpr rfl)⟩⟩
    · split at hz
      · rename_i hl
        cases hz
        exact ⟨x, y, rfl, _, _, t_str h1, t_int h2, by rw [← LIM_eq]; exact hl.1, .inr ⟨hl.2, fin_v hQ (sh_str.mpr rfl)⟩⟩
      · cases hz
  · cases hz
end
section
variable {X : Cx} {xc : XC} {W : WX} {cl : Nat → List Arg → DS → FRes} {a b c e : Expr} {ea eb ec el : E} {as : Es} {k : Nat} {p p2 pos : Pos} {tg : Expr}
theorem d_inS (ha : DE X xc W cl a ea) (hb : DE X xc W cl b eb) (hm : behindInMarks .In b = false := by with_unfolding_all rfl) : DE X xc W cl (.Compare a [.In] [b] pos) (.op (.g 18) (.cons ea (.cons eb .nil))) := de_cmp op_inSg (.of (o := .g 18) (v_inSg false)) ha hb hm
theorem t_notinS (ha : DE X xc W cl a ea) (hb : DE X xc W cl b eb) (hm : behindInMarks .NotIn b = false := by with_unfolding_all rfl) : DT X xc W cl (.Compare a [.NotIn] [b] pos) (.e (.op (.g 19) (.cons ea (.cons eb .nil)))) := dt_cmp op_notInSg (.of (o := .g 19) (v_inSg true)) (op_bool (boolV (fun _ _ => rfl) fun _ _ h => b_inSg h)) ha hb hm
theorem d_ixS (ha : DE X xc W cl a ea) (hb : DE X xc W cl b eb) (hs : PlainIx b := by intro _ _; rfl) : DE X xc W cl (.Subscript a b pos) (.op (.g 20) (.cons ea (.cons eb .nil))) :=
  PEimp (pe_ix ix_str ha hb hs) fun σ H Q h => (two_ok ((OpE.of (o := .g 20) (r := V2 rIxS) v_ixS).use h)).mono fun x H1 h => h.mono fun y H2 h => by
    obtain ⟨x', y', e, h⟩ := h
    cases e; exact h
theorem d_sl10S (ha : DE X xc W cl a ea) (hl : DE X xc W cl b el) : DE X xc W cl (.Subscript a (.Slice (some b) none none p2) pos) (.op (.g 21) (.cons ea (.cons el .nil))) :=
  PEimp (pe_slice sl_str ha (po_some hl) po_none) fun σ H Q h => (two_ok ((OpE.of (o := .g 21) (r := V2 rSl10) v_sl10S).use h)).mono fun x H1 h => h.mono fun y H2 h => by
    obtain ⟨x', y', e, z, i, rfl, rfl, hz, q⟩ := h
    cases e; exact ⟨i, rfl, z, rfl, hz, q⟩
theorem d_sl01S (ha : DE X xc W cl a ea) (hl : DE X xc W cl b el) : DE X xc W cl (.Subscript a (.Slice none (some b) none p2) pos) (.op (.g 22) (.cons ea (.cons el .nil))) :=
  PEimp (pe_slice sl_str ha po_none (po_some hl)) fun σ H Q h => (two_ok ((OpE.of (o := .g 22) (r := V2 rSl01) v_sl01S).use h)).mono fun x H1 h => h.mono fun y H2 h => by
    obtain ⟨x', y', e, z, i, rfl, rfl, hz, q⟩ := h
    cases e; exact ⟨i, rfl, z, rfl, hz, q⟩
theorem d_intS (d : Bd X W k) (hm : X.mg "int" = none) (ha : DA X xc W cl [e] as) (hg : Gl X "int" := by rfl) (he : starEach [e] X.env = [(false, eval e X.env)] := by rfl) : DE X xc W cl (.Call (.Name "int" p) [e] [] pos) (.op (.g 24) as) := de_ty call_int_str (.of (o := .g 24) v_intS) hg hm (by rfl) ha (he := he)
theorem d_mulS (ha : DE X xc W cl a ea) (hb : DE X xc W cl b eb) : DE X xc W cl (.BinOp a .Mult b pos) (.op (.g 25) (.cons ea (.cons eb .nil))) :=
  PEimp (pe_op op_mulS ha hb) fun σ H Q h => (two_ok ((OpE.of (o := .g 25) (r := V2 rMulS) v_mulS).use h)).mono fun x H1 h => h.mono fun y H2 h => by
    obtain ⟨x', y', e, h⟩ := h
    cases e; exact h
/-- the turns over a text -/
theorem its_ok {K : PySem.W.Frag} {x : Str} : ItOk K (Its x) (x.cps.toList.map fun c => .str (sgn c)) fun _ _ => True := by
  refine ⟨fun i O H p hi => ?_, fun O H p => ?_, fun i O H v H' p hi hy => ?_⟩
  · show i < x.cps.size; simpa using hi
  · show x.cps.size ≤ _; simp
  · obtain ⟨rfl, c, hc, rfl⟩ := hy
    refine ⟨Keep.refl, .str (sgn c), ?_, sh_str.mpr rfl⟩
    rw [List.getElem?_map, Array.getElem?_toList, hc]; rfl
theorem txt_ok {K : PySem.W.Frag} {σ : L2.St} {H : Hp} {R : L2.It → Hp → Prop} (h : tI xc K W (fun m => evI cl (.txt ea) m) σ H R) : iStr (tE xc K W fun m => ev cl ea m) σ H R := by
  obtain ⟨g, O0, e, s, G, h⟩ := h
  refine ⟨g, O0, e, s, G, ?_⟩
  show PostE xc K W g O0 e σ H _ (ev cl ea ⟨e, s⟩)
  have h : PostI xc K W g O0 e σ H R (match ev cl ea ⟨e, s⟩ with
    | .ok (.v (.str x)) m1 => .ok (x.cps.toList.map fun c => .str (sgn c), none) m1
    | .ok _ _ => .bad
    | .rz c f m1 => .rz c f m1
    | .bad => .bad) := h
  cases hf : ev cl ea ⟨e, s⟩ with
  | bad => rw [hf] at h; exact h.elim
  | rz c f m1 => rw [hf] at h; exact h
  | ok r m1 =>
    rw [hf] at h
    cases r with
    | v d => cases d with
      | str x =>
        intro v H1 F t1 rv
        exact ⟨x, sh_str.mp rv.2, h _ H1 F t1 ⟨fun _ _ => True, its_ok, trivial, fun _ _ _ _ _ _ _ _ _ => trivial⟩⟩
      | _ => exact h.elim
    | _ => exact h.elim
theorem i_txt (ha : DE X xc W cl a ea) : DI X xc W cl tg a (.txt ea) := PIimp (pi_str ha) fun σ H R h => txt_ok h
end
end PV

/-! PV.74: {k: v for x in xs} and d.update(d2), keys tuples -/
namespace PV
open PySem PySem.Spec PyProof.Rows L2
section
variable {X : Cx}
/-- D the new dict, its keys tuples -/
def tDcT (wi : TI) (g : TG) (tt : TT) (tk tv : TE) (vs : List Nat) : TE := fun σ H Q => wi σ H fun J H1 => ∀ D, H1 D = none → ∃ W : Nat → Nat → Hp → Prop, (∃ m, W 0 m (upd H1 D (.dT []))) ∧ ∀ i m H, W i m H →
  (J.stop i H ∧ Q (.ref D) H) ∨ (J.go i H ∧ ∃ Nx : Hp → Prop, (∀ H', Nx H' → ∃ m', m' < m ∧ W (i + 1) m' H') ∧ ∀ x H', J.yld i H x H' → g x (wipe σ vs) H' fun σ2 H2 => wipe σ2 vs = wipe σ vs ∧ tt σ2 H2 fun b H3 =>
    if b = true then tk σ2 H3 fun y H4 => tv σ2 H4 fun z H5 => ∃ kvs b k, y = .ref b ∧ H5 b = some (.tup (k.map kV)) ∧ H5 D = some (.dT kvs) ∧ kvs.length < sizeLine ∧ Nx (upd H5 D (.dT (putK kvs k z))) else Nx H3)
end
abbrev PrT (K : PySem.W.Frag) (O : AP) (H : Hp) : List (List Key × V) → List (PyData × PyData) → Prop := Paired fun p q => q.1 = keyT p.1 ∧ Sh K O H p.2 q.2
theorem PrT.go {K : PySem.W.Frag} {O O' M : AP} {H H' : Hp} {ks : List (List Key × V)} {acc : List (PyData × PyData)} (h : PrT K O H ks acc) (k : Keep M H H') (m : ∀ a, M a → O a) (n : ∀ a, O' a → O a ∨ H a = none) : PrT K O' H' ks acc :=
  Paired.imp h fun _ _ q => ⟨q.1, q.2.go k m n⟩
theorem PrT.weak {K : PySem.W.Frag} {O O' : AP} {H : Hp} {ks : List (List Key × V)} {acc : List (PyData × PyData)} (n : ∀ a, O' a → O a) (h : PrT K O H ks acc) : PrT K O' H ks acc :=
  h.go (M := fun _ => False) Keep.refl (fun _ z => z.elim) fun a z => .inl (n a z)
section
variable {xc : XC} {K : PySem.W.Frag} {W : WX} {g : Gd} {O0 : AP} {e1 : Env} {s : DS} {σ : L2.St} {H1 : Hp} {vs : List Nat}
end
section
variable {X : Cx} {xc : XC} {W : WX} {cl : Nat → List Arg → DS → FRes} {kx vx tg iter : Expr} {ifs : List Expr} {scope : Scope} {own : List (Str × Nat)} {ek ev' : E} {t : Tg} {it : It} {tc : T} {pos spos py : Pos}
end
/-! d.update(d2) -/
def mrgK (ks ls : List (List Key × V)) : List (List Key × V) := ls.foldl (fun acc p => putK acc p.1 p.2) ks
def rUpdT : V → List V → Hp → VK → Prop := fun x vs H Q => ∃ (a b : Addr) (ks ls : List (List Key × V)), x = .ref a ∧ vs = [.ref b] ∧ a ≠ b ∧ H a = some (.dT ks) ∧ H b = some (.dT ls) ∧ ks.length + ls.length ≤ sizeLine ∧
  (ks ≠ [] ∨ ∃ rows : List (List Int), ls.map (·.1) = rows.map (fun r => r.map Sum.inl) ∧ (rows.map hashTI).Nodup) ∧ Q .non (upd H a (.dT (mrgK ks ls)))
section
variable {xc : XC} {K : PySem.W.Frag} {W : WX} {cl : Nat → List Arg → DS → FRes} {σ : L2.St} {H : Hp} {Q : VK} {i : Nat} {ea : E}
end
section
variable {X : Cx} {xc : XC} {W : WX} {cl : Nat → List Arg → DS → FRes} {a : Expr} {ea : E} {pos p apos cpos : Pos} {x : Str}
end
end PV

/-! PV.75: enumerate of a list from a written number on -/
namespace PV
open PySem PySem.Spec L2
def IteK (K : PySem.W.Frag) (k : Int) (a : Addr) : L2.It :=
  ⟨fun i H => ∃ (xs : List V) (x : V), SqL K H a xs ∧ xs[i]? = some x, fun i H v H' => ∃ T x, v = .ref T ∧ H T = none ∧ H' = upd H T (.tup [.int (k + (i : Nat)), x]) ∧ ∀ xs, SqL K H a xs → xs[i]? = some x, fun i H => ∃ xs : List V, SqL K H a xs ∧ xs.length = i⟩
def iEnumK (K : PySem.W.Frag) (k : Int) (ta : TA) : TI := fun σ H R => ta σ H fun vs H1 => ∃ a xs, vs = [.ref a, .int k] ∧ SqL K H1 a xs ∧ R (IteK K k a) H1
def IteTK (K : PySem.W.Frag) (k : Int) (a : Addr) : L2.It :=
  ⟨fun i H => ∃ (xs : List V) (x : V), SqT K H a xs ∧ xs[i]? = some x, fun i H v H' => ∃ T x, v = .ref T ∧ H T = none ∧ H' = upd H T (.tup [.int (k + (i : Nat)), x]) ∧ ∀ xs, SqT K H a xs → xs[i]? = some x, fun i H => ∃ xs : List V, SqT K H a xs ∧ xs.length = i⟩
def iEnumTK (K : PySem.W.Frag) (k : Int) (ta : TA) : TI := fun σ H R => ta σ H fun vs H1 => ∃ a xs, vs = [.ref a, .int k] ∧ SqT K H1 a xs ∧ R (IteTK K k a) H1
section
variable {K : PySem.W.Frag} {a : Addr} {ds : List PyData} {P : AP → Hp → Prop}
end
section
variable {X : Cx} {xc : XC} {W : WX} {cl : Nat → List Arg → DS → FRes} {K : PySem.W.Frag} {g : Gd} {O O0 : AP} {e : Env} {s : DS} {σ : L2.St} {H H1 H' : Hp} {F : List Addr} {m : M}
end
end PV

/-! PV.76: list(d), the keys tuples -/
namespace PV
open PySem PySem.Spec PyProof.Rows L2
def rLDT : List V → Hp → VK → Prop := fun xs H Q => ∃ (d : Addr) (kvs : List (List Key × V)), xs = [V.ref d] ∧ H d = some (.dT kvs) ∧ ∀ p bs, H p = none → IsKeys H kvs bs → (∀ x ∈ kvs, x.1.length ≤ sizeLine) → kvs.length ≤ sizeLine → Q (.ref p) (upd H p (.lst (bs.map V.ref)))
section
variable {X : Cx} {xc : XC} {W : WX} {cl : Nat → List Arg → DS → FRes} {e : Expr} {as : Es} {k : Nat} {p pos : Pos}
end
end PV

/-! PV: plain laws of the evaluator -/
namespace PV
open PySem PySem.Spec L2
section
variable {cl : Nat → List Arg → DS → FRes}
end
section
variable {cl : Nat → List Arg → DS → FRes} {m m1 m2 : M} {rs : List R} {r : R} {as : List Arg} {s s' : DS}
end
def pr (p : Int × Int) : PyData := .tuple [.int p.1, .int p.2]
end PV

/-! PV: data that is shown; equal things -/
namespace PV
open PySem PySem.Spec L2
structure Rp (w k : Nat) (d : PyData) : Prop where
  short : d.leavesShort 13 = true
  sh : d.showable = true
  nd : nod d = true
  wt : d.weight ≤ w
  dp : d.depth ≤ k
theorem Rp.mono {w k w' k' : Nat} {d : PyData} (h : Rp w k d) (hw : w ≤ w') (hk : k ≤ k') : Rp w' k' d := ⟨h.short, h.sh, h.nd, Nat.le_trans h.wt hw, Nat.le_trans h.dp hk⟩
theorem Rp.int {i : Int} (h1 : -999999999999 ≤ i) (h2 : i ≤ 999999999999) : Rp 40 0 (.int i) := by
  have h : i.natAbs < 2 ^ 40 := by omega
  have hl : i.natAbs ≠ 0 → i.natAbs.log2 < 40 := fun z => (Nat.log2_lt z).mpr h
  refine ⟨decide_eq_true (PySem.PyData.shown_int_le (by omega)), decide_eq_true ?_, rfl, ?_, Nat.le_refl _⟩
  · by_cases z : i.natAbs = 0
    · rw [z]; decide
    · have := hl z; omega
  · show (if i == 0 then 0 else i.natAbs.log2 + 1) ≤ 40
    split
    · omega
    · rename_i z
      have : i.natAbs ≠ 0 := fun q => z (by simpa using q)
      have := hl this; omega
theorem Rp.none : Rp 0 0 .none := ⟨rfl, rfl, rfl, Nat.le_refl _, Nat.le_refl _⟩
theorem Rp.bool {b : Bool} : Rp 0 0 (.bool b) := ⟨rfl, rfl, rfl, Nat.le_refl _, Nat.le_refl _⟩
theorem rp_all {w k : Nat} : ∀ {xs : List PyData}, (∀ x ∈ xs, Rp w k x) → PyData.leavesShortAll 13 xs = true ∧ PyData.showableAll xs = true ∧ nodA xs = true ∧ PyData.weightAll xs ≤ xs.length * (w + 1) ∧ PyData.depthAll xs ≤ k
  | [], _ => ⟨rfl, rfl, rfl, Nat.zero_le _, Nat.zero_le _⟩
  | x :: xs, h => by
    obtain ⟨a1, a2, a3, a4, a5⟩ := h x List.mem_cons_self
    obtain ⟨b1, b2, b3, b4, b5⟩ := rp_all fun x hx => h x (List.mem_cons_of_mem _ hx)
    refine ⟨by simp [PyData.leavesShortAll, a1, b1], by simp [PyData.showableAll, a2, b2], by simp [nodA, a3, b3], ?_, ?_⟩
    · show PyData.weight x + 1 + PyData.weightAll xs ≤ (xs.length + 1) * (w + 1)
      rw [Nat.succ_mul]; omega
    · show max (PyData.depth x) (PyData.depthAll xs) ≤ k
      omega
theorem Rp.tuple {w k n : Nat} {xs : List PyData} (h : ∀ x ∈ xs, Rp w k x) (hl : xs.length ≤ n) : Rp (n * (w + 1)) (k + 1) (.tuple xs) := by
  obtain ⟨b1, b2, b3, b4, b5⟩ := rp_all h
  exact ⟨b1, b2, by simpa [nod] using b3, Nat.le_trans b4 (Nat.mul_le_mul_right _ hl), Nat.succ_le_succ b5⟩
theorem Rp.list {w k n : Nat} {xs : List PyData} (h : ∀ x ∈ xs, Rp w k x) (hl : xs.length ≤ n) : Rp (n * (w + 1)) (k + 1) (.list xs) := by
  obtain ⟨b1, b2, b3, b4, b5⟩ := rp_all h
  exact ⟨b1, b2, by simpa [nod] using b3, Nat.le_trans b4 (Nat.mul_le_mul_right _ hl), Nat.succ_le_succ b5⟩
theorem Rp.repr {w k : Nat} {d : PyData} (h : Rp w k d) (hw : w ≤ 1000000) (hk : k ≤ 60) : reprD [d] = some (.v (.str d.shown)) := by
  have := PyData.shown_le 13 (by decide) d h.short
  have hl : d.shown.length ≤ LIM := by have := h.wt; unfold LIM; omega
  show (if d.showable = true ∧ rok d = true ∧ d.shown.length ≤ LIM ∧ d.depth ≤ 60 then some (R.v (.str d.shown)) else Option.none) = _
  rw [if_pos ⟨h.sh, rok_nod d h.nd, hl, Nat.le_trans h.dp hk⟩]
theorem eq_str {a b : Str} : eqD [.str a, .str b] = some (.v (.bool (decide (a = b)))) := rfl
theorem ne_str {a b : Str} : neD [.str a, .str b] = some (.v (.bool (!decide (a = b)))) := rfl
section
variable {cl : Nat → List Arg → DS → FRes} {m m1 m2 : M} {s : DS} {a b : E}
end
theorem pick_nat {ds : List PyData} {j : Nat} {d : PyData} (h : ds[j]? = some d) : pick ds (j : Int) = some d := by
  unfold pick atI
  rw [ixN_nat (List.getElem?_eq_some_iff.mp h).1]
  exact h
/-- the deck, drawn at most b times -/
def CB (b : Nat) (s : DS) : Prop := 0 ≤ s.cnt ∧ s.cnt ≤ b
theorem CB.mono {a b : Nat} {s : DS} (h : CB a s) (l : a ≤ b) : CB b s := ⟨h.1, by have := h.2; omega⟩
end PV

/-! PV: the evaluator turn by turn, as conditions -/
namespace PV
open PySem
theorem nr {α : Sort _} {a b : α} (h : a = b) : a = b := h
/-- what hangs on it is not looked into ahead of time -/
structure Tag {α : Sort 1} (Q : α) : Type where mk ::
def RS {α : Type} (x : Res α) (Q : α → M → Prop) (E : Nat → Option PyData → M → Prop) (_ : Tag Q := ⟨⟩) : Prop := match x with
  | .ok a m => Q a m
  | .rz c f m => E c f m
  | .bad => False
def FS (x : FRes) (Q : R → DS → Prop) (E : Nat → Option PyData → DS → Prop) (_ : Tag Q := ⟨⟩) : Prop := match x with
  | .ok a m => Q a m
  | .rz c f m => E c f m
  | .bad => False
def OS {α : Type} (x : Option α) (Q : α → Prop) (_ : Tag Q := ⟨⟩) : Prop := match x with
  | some a => Q a
  | none => False
section
variable {α : Type} {Q Q' : α → M → Prop} {E E' : Nat → Option PyData → M → Prop} {a : α} {m : M} {c : Nat} {f : Option PyData}
theorem RS_ok : RS (.ok a m) Q E = Q a m := nr rfl
theorem RS_rz : RS (.rz c f m) Q E = E c f m := nr rfl
theorem RS_bad : RS .bad Q E = False := nr rfl
theorem RS.mono {x : Res α} (h : RS x Q E) (i : ∀ a m, Q a m → Q' a m) (j : ∀ c f m, E c f m → E' c f m) : RS x Q' E' := by
  cases x with
  | ok a m => exact i _ _ h
  | rz c f m => exact j _ _ _ h
  | bad => exact h
theorem RS.imp {x : Res α} (h : RS x Q E) (i : ∀ a m, Q a m → Q' a m) : RS x Q' E := h.mono i fun _ _ _ z => z
theorem RS.of {x : Res α} (h : x = .ok a m) (q : Q a m) : RS x Q E := by rw [h]; exact q
theorem RS.ex {x : Res α} (h : RS x Q fun _ _ _ => False) : ∃ a m, x = .ok a m ∧ Q a m := by
  cases x with
  | ok a m => exact ⟨a, m, rfl, h⟩
  | rz c f m => exact h.elim
  | bad => exact h.elim
end
section
variable {Q Q' : R → DS → Prop} {E E' : Nat → Option PyData → DS → Prop} {a : R} {m : DS} {c : Nat} {f : Option PyData}
theorem FS_ok : FS (.ok a m) Q E = Q a m := nr rfl
theorem FS_rz : FS (.rz c f m) Q E = E c f m := nr rfl
theorem FS_bad : FS .bad Q E = False := nr rfl
theorem FS.mono {x : FRes} (h : FS x Q E) (i : ∀ a m, Q a m → Q' a m) (j : ∀ c f m, E c f m → E' c f m) : FS x Q' E' := by
  cases x with
  | ok a m => exact i _ _ h
  | rz c f m => exact j _ _ _ h
  | bad => exact h
theorem FS.imp {x : FRes} (h : FS x Q E) (i : ∀ a m, Q a m → Q' a m) : FS x Q' E := h.mono i fun _ _ _ z => z
theorem FS.of {x : FRes} (h : x = .ok a m) (q : Q a m) : FS x Q E := by rw [h]; exact q
theorem FS.ex {x : FRes} (h : FS x Q fun _ _ _ => False) : ∃ a m, x = .ok a m ∧ Q a m := by
  cases x with
  | ok a m => exact ⟨a, m, rfl, h⟩
  | rz c f m => exact h.elim
  | bad => exact h.elim
/-- exactly this -/
theorem FS.eq {x : FRes} (h : FS x (fun r s => r = a ∧ s = m) fun _ _ _ => False) : x = .ok a m := by
  obtain ⟨r, s, e, rfl, rfl⟩ := h.ex; exact e
theorem FS.never {x : FRes} (h : FS x Q fun _ _ _ => False) : FS x Q E := h.mono (fun _ _ z => z) fun _ _ _ z => z.elim
end
section
variable {α β : Type} {Q : α → Prop} {a : α} {c : Prop}
theorem OS_some : OS (some a) Q = Q a := nr rfl
theorem OS_none : OS none Q = False := nr rfl
theorem OS_ite [Decidable c] : OS (if c then some a else none) Q = (c ∧ Q a) := by
  by_cases h : c <;> simp [h, OS]
theorem OS_map {f : β → α} {x : Option β} : OS (x.map f) Q = OS x fun b => Q (f b) := by cases x <;> rfl
theorem OS.of {x : Option α} (h : x = some a) (q : Q a) : OS x Q := by rw [h]; exact q
end
def slR : Nat → Option Slot → Option R
  | _, some (.sh d) => some (.v d)
  | i, some (.ol _) => some (.pl i)
  | i, some (.od _ _) => some (.pl i)
  | _, some (.dk k) => some (.dk k)
  | _, _ => none
def vOf : R → Option PyData
  | .v d => some d
  | _ => none
def bOf : R → Option Bool
  | .v (.bool b) => some b
  | _ => none
def noPD : R → Bool
  | .pl _ => false
  | .dk _ => false
  | _ => true
def callOk (rs : List R) (r : R) : Bool := (!hasPl rs || flatR r) && noPD r
def rzOk (rs : List R) (f : Option PyData) : Bool := !hasPl rs || flatO f
def nxt (fl : Flow) (A B : Prop) : Prop := match fl with
  | .nx => A
  | _ => B
theorem nxt_nx {A B : Prop} : nxt .nx A B = A := nr rfl
theorem nxt_brk {A B : Prop} : nxt .brk A B = B := nr rfl
theorem nxt_ct {A B : Prop} : nxt .ct A B = B := nr rfl
theorem nxt_rt {A B : Prop} {r : R} : nxt (.rt r) A B = B := nr rfl
section
variable {cl : Nat → List Arg → DS → FRes} {m : M} {Q : R → M → Prop} {E : Nat → Option PyData → M → Prop}
theorem V_c {d : PyData} : RS (ev cl (.c d) m) Q E = Q (.v d) m := nr rfl
theorem V_x {i : Nat} : RS (ev cl (.x i) m) Q E = OS (slR i m.e[i]?) fun r => Q r m := by
  show RS (match m.e[i]? with
    | some (.sh d) => Res.ok (.v d) m
    | some (.ol _) => .ok (.pl i) m
    | some (.od _ _) => .ok (.pl i) m
    | some (.dk k) => .ok (.dk k) m
    | _ => .bad) Q E = _
  cases m.e[i]? with
  | none => rfl
  | some sl => cases sl <;> rfl
theorem V_op {o : Op} {es : Es} : RS (ev cl (.op o es) m) Q E = RS (evs cl es m) (fun rs m1 => OS (opE m1.e o rs) fun r => Q r m1) E := by
  show RS (match evs cl es m with
    | .ok rs m1 => match opE m1.e o rs with
      | some r => Res.ok r m1
      | none => .bad
    | .rz c f m1 => .rz c f m1
    | .bad => .bad) Q E = _
  cases evs cl es m with
  | ok rs m1 =>
    show RS (match opE m1.e o rs with
      | some r => Res.ok r m1
      | none => .bad) Q E = OS (opE m1.e o rs) fun r => Q r m1
    cases opE m1.e o rs <;> rfl
  | rz c f m1 => rfl
  | bad => rfl
theorem V_call {f : Nat} {es : Es} : RS (ev cl (.call f es) m) Q E = RS (evs cl es m) (fun rs m1 => OS (toArgs m1.e rs) fun as => FS (cl f as m1.s) (fun r s => callOk rs r = true ∧ Q r ⟨m1.e, s⟩) fun c x s => rzOk rs x = true ∧ E c x ⟨m1.e, s⟩) E := by
  unfold ev
  cases evs cl es m with
  | ok rs m1 =>
    simp only [RS_ok]
    cases toArgs m1.e rs with
    | none => rfl
    | some as =>
      simp only [OS_some]
      cases cl f as m1.s with
      | ok r s =>
        simp only [FS_ok]
        by_cases h : hasPl rs = true ∧ flatR r = false
        · simp [h, RS, callOk]
        · simp only [h, if_false]
          have : (!hasPl rs || flatR r) = true := by
            cases h1 : hasPl rs <;> cases h2 : flatR r <;> simp_all
          cases r <;> simp [RS, callOk, this, noPD]
      | rz c x s =>
        simp only [FS_rz]
        by_cases h : hasPl rs = true ∧ flatO x = false
        · simp [h, RS, rzOk]
        · simp only [h, if_false]
          have : (!hasPl rs || flatO x) = true := by
            cases h1 : hasPl rs <;> cases h2 : flatO x <;> simp_all
          simp [RS, rzOk, this]
      | bad => rfl
  | rz c f m1 => rfl
  | bad => rfl
theorem V_tup {es : Es} : RS (ev cl (.tup es) m) Q E = RS (evs cl es m) (fun rs m1 => OS (escs m1.e rs) fun p => p.1.length ≤ LIM ∧ Q (.v (.tuple p.1)) ⟨p.2, m1.s⟩) E := by
  unfold ev
  cases evs cl es m with
  | ok rs m1 =>
    simp only [RS_ok]
    cases escs m1.e rs with
    | none => rfl
    | some p =>
      obtain ⟨ds, e⟩ := p
      simp only [OS_some]
      by_cases h : ds.length ≤ LIM <;> simp [h, RS]
  | rz c f m1 => rfl
  | bad => rfl
theorem V_lst {es : Es} : RS (ev cl (.lst es) m) Q E = RS (evs cl es m) (fun rs m1 => OS (escs m1.e rs) fun p => p.1.length ≤ LIM ∧ Q (.fl p.1) ⟨p.2, m1.s⟩) E := by
  unfold ev
  cases evs cl es m with
  | ok rs m1 =>
    simp only [RS_ok]
    cases escs m1.e rs with
    | none => rfl
    | some p =>
      obtain ⟨ds, e⟩ := p
      simp only [OS_some]
      by_cases h : ds.length ≤ LIM <;> simp [h, RS]
  | rz c f m1 => rfl
  | bad => rfl
theorem V_emp {t : Bool} : RS (ev cl (.emp t) m) Q E = Q (.fd t []) m := nr rfl
theorem V_dsp {t : Bool} {k v : PV.E} : RS (ev cl (.dsp t k v) m) Q E = RS (ev cl k m) (fun rk m1 => OS (vOf rk) fun dk => RS (ev cl v m1) (fun rv m2 => OS (vOf rv) fun dv => keyOk t dk = true ∧ Q (.fd t [(dk, dv)]) m2) fun _ _ _ => False) fun _ _ _ => False := by
  rw [show ev cl (.dsp t k v) m = match ev cl k m with
    | .ok (.v dk) m1 => match ev cl v m1 with
      | .ok (.v dv) m2 => if keyOk t dk = true then .ok (.fd t [(dk, dv)]) m2 else .bad
      | _ => .bad
    | _ => .bad from rfl]
  cases ev cl k m with
  | ok rk m1 =>
    cases rk with
    | v dk =>
      simp only [RS_ok, vOf, OS_some]
      cases ev cl v m1 with
      | ok rv m2 =>
        cases rv with
        | v dv =>
          simp only [RS_ok, OS_some]
          by_cases h : keyOk t dk = true <;> simp [h, RS]
        | _ => rfl
      | rz _ _ _ => rfl
      | bad => rfl
    | _ => rfl
  | rz _ _ _ => rfl
  | bad => rfl
theorem V_and {a b : PV.E} : RS (ev cl (.and2 a b) m) Q E = RS (ev cl a m) (fun r m1 => OS (bOf r) fun k => (k = true → RS (ev cl b m1) Q E) ∧ (k = false → Q (.v (.bool false)) m1)) E := by
  rw [show ev cl (.and2 a b) m = match ev cl a m with
    | .ok (.v (.bool true)) m1 => ev cl b m1
    | .ok (.v (.bool false)) m1 => .ok (.v (.bool false)) m1
    | .ok _ _ => .bad
    | .rz c f m1 => .rz c f m1
    | .bad => .bad from rfl]
  cases ev cl a m with
  | ok r m1 =>
    cases r with
    | v d => cases d with
      | bool k => cases k <;> simp [RS, OS, bOf]
      | _ => simp [RS, OS, bOf]
    | _ => simp [RS, OS, bOf]
  | rz c f m1 => rfl
  | bad => rfl
theorem V_or {a b : PV.E} : RS (ev cl (.or2 a b) m) Q E = RS (ev cl a m) (fun r m1 => OS (vOf r) fun d => strFits d = true ∧ (truth d = true → Q (.v d) m1) ∧ (truth d = false → RS (ev cl b m1) Q E)) E := by
  rw [show ev cl (.or2 a b) m = match ev cl a m with
    | .ok (.v d) m1 => if strFits d = true then (if truth d = true then .ok (.v d) m1 else ev cl b m1) else .bad
    | .ok _ _ => .bad
    | .rz c f m1 => .rz c f m1
    | .bad => .bad from rfl]
  cases ev cl a m with
  | ok r m1 =>
    cases r with
    | v d =>
      simp only [RS_ok, vOf, OS_some]
      by_cases h : strFits d = true
      · rw [if_pos h]
        cases ht : truth d <;> simp [RS, h]
      · rw [if_neg h]; simp [RS, h]
    | _ => simp [RS, OS, vOf]
  | rz c f m1 => rfl
  | bad => rfl
theorem V_ite {c : T} {a b : PV.E} : RS (ev cl (.ite c a b) m) Q E = RS (evT cl c m) (fun k m1 => (k = true → RS (ev cl a m1) Q E) ∧ (k = false → RS (ev cl b m1) Q E)) E := by
  rw [show ev cl (.ite c a b) m = match evT cl c m with
    | .ok true m1 => ev cl a m1
    | .ok false m1 => ev cl b m1
    | .rz c f m1 => .rz c f m1
    | .bad => .bad from rfl]
  cases evT cl c m with
  | ok k m1 => cases k <;> simp [RS]
  | rz c f m1 => rfl
  | bad => rfl
theorem V_chn {o1 o2 : Op} {a b c : PV.E} : RS (ev cl (.chn o1 o2 a b c) m) Q E = RS (ev cl a m) (fun ra m1 => OS (vOf ra) fun da => RS (ev cl b m1) (fun rb m2 => OS (vOf rb) fun db => OS (opD o1 [da, db]) fun r1 => OS (bOf r1) fun k =>
      (k = true → RS (ev cl c m2) (fun rc m3 => OS (vOf rc) fun dc => OS (opD o2 [db, dc]) fun r => Q r m3) E) ∧ (k = false → Q (.v (.bool false)) m2)) E) E := by
  rw [show ev cl (.chn o1 o2 a b c) m = match ev cl a m with
    | .ok (.v da) m1 => match ev cl b m1 with
      | .ok (.v db) m2 => match opD o1 [da, db] with
        | some (.v (.bool true)) => match ev cl c m2 with
          | .ok (.v dc) m3 => match opD o2 [db, dc] with
            | some r => .ok r m3
            | none => .bad
          | .ok _ _ => .bad
          | .rz c f m3 => .rz c f m3
          | .bad => .bad
        | some (.v (.bool false)) => .ok (.v (.bool false)) m2
        | _ => .bad
      | .ok _ _ => .bad
      | .rz c f m2 => .rz c f m2
      | .bad => .bad
    | .ok _ _ => .bad
    | .rz c f m1 => .rz c f m1
    | .bad => .bad from rfl]
  cases ev cl a m with
  | ok ra m1 =>
    cases ra with
    | v da =>
      simp only [RS_ok, vOf, OS_some]
      cases ev cl b m1 with
      | ok rb m2 =>
        cases rb with
        | v db =>
          simp only [RS_ok, OS_some]
          cases opD o1 [da, db] with
          | none => rfl
          | some r1 => cases r1 with
            | v d => cases d with
              | bool k => cases k with
                | true =>
                  simp only [bOf, OS_some, true_implies, Bool.true_eq_false, false_implies, and_true]
                  cases ev cl c m2 with
                  | ok rc m3 => cases rc with
                    | v dc =>
                      simp only [RS_ok, OS_some]
                      cases opD o2 [db, dc] <;> rfl
                    | _ => rfl
                  | rz _ _ _ => rfl
                  | bad => rfl
                | false => simp [RS, bOf, OS]
              | _ => rfl
            | _ => rfl
        | _ => rfl
      | rz _ _ _ => rfl
      | bad => rfl
    | _ => rfl
  | rz _ _ _ => rfl
  | bad => rfl
theorem V_mut {o : MOp} {i : Nat} {es : Es} : RS (ev cl (.mut o i es) m) Q E = (mutOk o m.e[i]? = true ∧ RS (evs cl es m) (fun rs m1 => RS (mutD o i rs m1) Q E) E) := by
  unfold ev
  by_cases h : mutOk o m.e[i]? = true
  · simp only [h, if_true, true_and]
    cases evs cl es m <;> rfl
  · simp [h, RS]
def ownOk (e : Env) (own : List Nat) : Prop := own.all (fun i => !isOwn e[i]?) = true
/-- a turn of a comprehension: bind, ask -/
noncomputable def bdT (cl : Nat → List Arg → DS → FRes) (t : Tg) (c : T) (d : PyData) (m : M) : Res Bool := match bind1 m.e t d with
  | some e => evT cl c ⟨e, m.s⟩
  | none => .bad
theorem bdT_eq {t : Tg} {c : T} {d : PyData} {Q : Bool → M → Prop} : RS (bdT cl t c d m) Q E = OS (bind1 m.e t d) fun e => RS (evT cl c ⟨e, m.s⟩) Q E := by
  unfold bdT
  cases bind1 m.e t d <;> rfl
theorem V_lc {t : Tg} {it : It} {c : T} {el : PV.E} {own : List Nat} : RS (ev cl (.lc t it c el own) m) Q E = RS (evI cl it m) (fun p m1 => ownOk m1.e own ∧ p.1.length ≤ LIM ∧ RS (lcL p.2 own (bdT cl t c) (fun m => ev cl el m) p.1 [] ⟨clear m1.e own, m1.s⟩) (fun acc m2 => Q (.fl acc) ⟨back m2.e m1.e own, m2.s⟩) fun _ _ _ => False) E := by
  rw [show ev cl (.lc t it c el own) m = match evI cl it m with
      | .ok (ds, src) m1 => if own.all (fun i => !isOwn m1.e[i]?) = true ∧ ds.length ≤ LIM then match lcL src own (bdT cl t c) (fun m => ev cl el m) ds [] ⟨clear m1.e own, m1.s⟩ with
        | .ok acc m2 => .ok (.fl acc) ⟨back m2.e m1.e own, m2.s⟩
        | _ => .bad
        else .bad
      | .rz c f m1 => .rz c f m1
      | .bad => .bad from rfl]
  cases evI cl it m with
  | ok p m1 =>
    obtain ⟨ds, src⟩ := p
    simp only [RS_ok, ownOk]
    by_cases h : own.all (fun i => !isOwn m1.e[i]?) = true ∧ ds.length ≤ LIM
    · rw [if_pos h]
      simp only [h.1, h.2, true_and]
      cases lcL src own (bdT cl t c) (fun m => ev cl el m) ds [] ⟨clear m1.e own, m1.s⟩ <;> rfl
    · rw [if_neg h, eq_iff_iff]
      exact ⟨fun z => z.elim, fun z => h ⟨z.1, z.2.1⟩⟩
  | rz _ _ _ => rfl
  | bad => rfl
theorem V_dc {t : Tg} {it : It} {c : T} {k v : PV.E} {own : List Nat} : RS (ev cl (.dc t it c k v own) m) Q E = RS (evI cl it m) (fun p m1 => ownOk m1.e own ∧ p.1.length ≤ LIM ∧ RS (dcL p.2 own (bdT cl t c) (fun m => ev cl k m) (fun m => ev cl v m) false p.1 [] ⟨clear m1.e own, m1.s⟩) (fun acc m2 => Q (.fd false acc) ⟨back m2.e m1.e own, m2.s⟩) fun _ _ _ => False) E := by
  rw [show ev cl (.dc t it c k v own) m = match evI cl it m with
      | .ok (ds, src) m1 => if own.all (fun i => !isOwn m1.e[i]?) = true ∧ ds.length ≤ LIM then match dcL src own (bdT cl t c) (fun m => ev cl k m) (fun m => ev cl v m) false ds [] ⟨clear m1.e own, m1.s⟩ with
        | .ok acc m2 => .ok (.fd false acc) ⟨back m2.e m1.e own, m2.s⟩
        | _ => .bad
        else .bad
      | .rz c f m1 => .rz c f m1
      | .bad => .bad from rfl]
  cases evI cl it m with
  | ok p m1 =>
    obtain ⟨ds, src⟩ := p
    simp only [RS_ok, ownOk]
    by_cases h : own.all (fun i => !isOwn m1.e[i]?) = true ∧ ds.length ≤ LIM
    · rw [if_pos h]
      simp only [h.1, h.2, true_and]
      cases dcL src own (bdT cl t c) (fun m => ev cl k m) (fun m => ev cl v m) false ds [] ⟨clear m1.e own, m1.s⟩ <;> rfl
    · rw [if_neg h, eq_iff_iff]
      exact ⟨fun z => z.elim, fun z => h ⟨z.1, z.2.1⟩⟩
  | rz _ _ _ => rfl
  | bad => rfl
theorem V_ofT {t : T} : RS (ev cl (.ofT t) m) Q E = RS (evT cl t m) (fun b m1 => Q (.v (.bool b)) m1) E := by
  unfold ev
  cases evT cl t m <;> rfl
end
section
variable {cl : Nat → List Arg → DS → FRes} {m : M} {Q : List R → M → Prop} {E : Nat → Option PyData → M → Prop}
theorem Vs_nil : RS (evs cl .nil m) Q E = Q [] m := nr rfl
theorem Vs_cons {e : PV.E} {es : Es} : RS (evs cl (.cons e es) m) Q E = RS (ev cl e m) (fun r m1 => RS (evs cl es m1) (fun rs m2 => Q (r :: rs) m2) E) E := by
  rw [show evs cl (.cons e es) m = match ev cl e m with
    | .ok r m1 => match evs cl es m1 with
      | .ok rs m2 => .ok (r :: rs) m2
      | .rz c f m2 => .rz c f m2
      | .bad => .bad
    | .rz c f m1 => .rz c f m1
    | .bad => .bad from rfl]
  cases ev cl e m with
  | ok r m1 =>
    show RS (match evs cl es m1 with
      | .ok rs m2 => Res.ok (r :: rs) m2
      | .rz c f m2 => .rz c f m2
      | .bad => .bad) Q E = RS (evs cl es m1) _ E
    cases evs cl es m1 <;> rfl
  | rz c f m1 => rfl
  | bad => rfl
end
section
variable {cl : Nat → List Arg → DS → FRes} {m : M} {Q : Bool → M → Prop} {E : Nat → Option PyData → M → Prop}
theorem VT_yes : RS (evT cl .yes m) Q E = Q true m := nr rfl
theorem VT_e {e : PV.E} : RS (evT cl (.e e) m) Q E = RS (ev cl e m) (fun r m1 => OS (deref m1.e r) fun d => strFits d = true ∧ Q (truth d) m1) E := by
  rw [show evT cl (.e e) m = match ev cl e m with
    | .ok r m1 => match deref m1.e r with
      | some d => if strFits d = true then .ok (truth d) m1 else .bad
      | none => .bad
    | .rz c f m1 => .rz c f m1
    | .bad => .bad from rfl]
  cases ev cl e m with
  | ok r m1 =>
    simp only [RS_ok]
    cases deref m1.e r with
    | none => rfl
    | some d =>
      simp only [OS_some]
      by_cases h : strFits d = true <;> simp [h, RS]
  | rz c f m1 => rfl
  | bad => rfl
theorem VT_and {a b : T} : RS (evT cl (.and a b) m) Q E = RS (evT cl a m) (fun k m1 => (k = true → RS (evT cl b m1) Q E) ∧ (k = false → Q false m1)) E := by
  rw [show evT cl (.and a b) m = match evT cl a m with
    | .ok true m1 => evT cl b m1
    | .ok false m1 => .ok false m1
    | .rz c f m1 => .rz c f m1
    | .bad => .bad from rfl]
  cases evT cl a m with
  | ok k m1 => cases k <;> simp [RS]
  | rz c f m1 => rfl
  | bad => rfl
theorem VT_or {a b : T} : RS (evT cl (.or a b) m) Q E = RS (evT cl a m) (fun k m1 => (k = true → Q true m1) ∧ (k = false → RS (evT cl b m1) Q E)) E := by
  rw [show evT cl (.or a b) m = match evT cl a m with
    | .ok true m1 => .ok true m1
    | .ok false m1 => evT cl b m1
    | .rz c f m1 => .rz c f m1
    | .bad => .bad from rfl]
  cases evT cl a m with
  | ok k m1 => cases k <;> simp [RS]
  | rz c f m1 => rfl
  | bad => rfl
theorem VT_not {a : T} : RS (evT cl (.not a) m) Q E = RS (evT cl a m) (fun k m1 => Q (!k) m1) E := by
  rw [show evT cl (.not a) m = match evT cl a m with
    | .ok b m1 => .ok (!b) m1
    | .rz c f m1 => .rz c f m1
    | .bad => .bad from rfl]
  cases evT cl a m <;> rfl
end
section
variable {cl : Nat → List Arg → DS → FRes} {m : M} {Q : List PyData × Src → M → Prop} {E : Nat → Option PyData → M → Prop}
theorem VI_e {e : PV.E} : RS (evI cl (.e e) m) Q E = RS (ev cl e m) (fun r m1 => OS (items m1.e r) fun p => Q p m1) E := by
  rw [show evI cl (.e e) m = match ev cl e m with
    | .ok r m1 => match items m1.e r with
      | some p => .ok p m1
      | none => .bad
    | .rz c f m1 => .rz c f m1
    | .bad => .bad from rfl]
  cases ev cl e m with
  | ok r m1 =>
    simp only [RS_ok]
    cases items m1.e r <;> rfl
  | rz c f m1 => rfl
  | bad => rfl
theorem VI_rng {es : Es} : RS (evI cl (.rng es) m) Q E = RS (evs cl es m) (fun rs m1 => OS (rngD rs) fun ds => Q (ds, none) m1) E := by
  rw [show evI cl (.rng es) m = match evs cl es m with
    | .ok rs m1 => match rngD rs with
      | some ds => .ok (ds, none) m1
      | none => .bad
    | .rz c f m1 => .rz c f m1
    | .bad => .bad from rfl]
  cases evs cl es m with
  | ok r m1 =>
    simp only [RS_ok]
    cases rngD r <;> rfl
  | rz c f m1 => rfl
  | bad => rfl
theorem VI_enm {e : PV.E} {k : Int} : RS (evI cl (.enm e k) m) Q E = RS (ev cl e m) (fun r m1 => OS (items m1.e r) fun p => Q (enumD k p.1, p.2) m1) E := by
  rw [show evI cl (.enm e k) m = match ev cl e m with
    | .ok r m1 => match items m1.e r with
      | some (ds, src) => .ok (enumD k ds, src) m1
      | none => .bad
    | .rz c f m1 => .rz c f m1
    | .bad => .bad from rfl]
  cases ev cl e m with
  | ok r m1 =>
    simp only [RS_ok]
    cases items m1.e r <;> rfl
  | rz c f m1 => rfl
  | bad => rfl
/-- the two rows of a zip -/
def zipR : List R → Option (List PyData × List PyData)
  | [.v (.tuple xs), .v (.tuple ys)] => some (xs, ys)
  | [.v (.list xs), .v (.list ys)] => some (xs, ys)
  | [.fl xs, .fl ys] => some (xs, ys)
  | [.v (.list xs), .fl ys] => some (xs, ys)
  | [.fl xs, .v (.list ys)] => some (xs, ys)
  | _ => none
theorem VI_zip {es : Es} : RS (evI cl (.zip es) m) Q E = RS (evs cl es m) (fun rs m1 => OS (zipR rs) fun p => Q (zipD [p.1, p.2], none) m1) E := by
  rw [show evI cl (.zip es) m = match evs cl es m with
    | .ok [.v (.tuple xs), .v (.tuple ys)] m1 => .ok (zipD [xs, ys], none) m1
    | .ok [.v (.list xs), .v (.list ys)] m1 => .ok (zipD [xs, ys], none) m1
    | .ok [.fl xs, .fl ys] m1 => .ok (zipD [xs, ys], none) m1
    | .ok [.v (.list xs), .fl ys] m1 => .ok (zipD [xs, ys], none) m1
    | .ok [.fl xs, .v (.list ys)] m1 => .ok (zipD [xs, ys], none) m1
    | .ok _ _ => .bad
    | .rz c f m1 => .rz c f m1
    | .bad => .bad from rfl]
  cases evs cl es m with
  | ok rs m1 =>
    simp only [RS_ok]
    unfold zipR
    split <;> rename_i h
    · cases h; rfl
    · cases h; rfl
    · cases h; rfl
    · cases h; rfl
    · cases h; rfl
    · rename_i h1 h2 h3 h4 h5
      cases h
      split
      · exact (h1 _ _ rfl).elim
      · exact (h2 _ _ rfl).elim
      · exact (h3 _ _ rfl).elim
      · exact (h4 _ _ rfl).elim
      · exact (h5 _ _ rfl).elim
      · rfl
    · cases h
    · cases h
  | rz c f m1 => rfl
  | bad => rfl

/-- the two lists of a zip -/
def zipL : List R → Option (List PyData × List PyData)
  | [.v (.list xs), .v (.list ys)] => some (xs, ys)
  | [.fl xs, .fl ys] => some (xs, ys)
  | [.v (.list xs), .fl ys] => some (xs, ys)
  | [.fl xs, .v (.list ys)] => some (xs, ys)
  | _ => none
def zip3R : List R → Option (List PyData × List PyData × List PyData)
  | [.v (.tuple xs), .v (.tuple ys), .v (.tuple zs)] => some (xs, ys, zs)
  | _ => none
theorem zip3R_t {xs ys zs : List PyData} : zip3R [.v (.tuple xs), .v (.tuple ys), .v (.tuple zs)] = some (xs, ys, zs) := nr rfl
theorem VI_zp3 {es : Es} : RS (evI cl (.zp3 es) m) Q E = RS (evs cl es m) (fun rs m1 => OS (zip3R rs) fun p => Q (zip3D p.1 p.2.1 p.2.2, none) m1) E := by
  rw [show evI cl (.zp3 es) m = match evs cl es m with
    | .ok [.v (.tuple xs), .v (.tuple ys), .v (.tuple zs)] m1 => .ok (zip3D xs ys zs, none) m1
    | .ok _ _ => .bad
    | .rz c f m1 => .rz c f m1
    | .bad => .bad from rfl]
  cases evs cl es m with
  | ok rs m1 =>
    simp only [RS_ok]
    unfold zip3R
    split <;> rename_i h
    · cases h; rfl
    · rename_i h1
      cases h
      split
      · exact (h1 _ _ _ rfl).elim
      · rfl
    · cases h
    · cases h
  | rz c f m1 => rfl
  | bad => rfl
theorem VI_zpl {es : Es} : RS (evI cl (.zpl es) m) Q E = RS (evs cl es m) (fun rs m1 => OS (zipL rs) fun p => Q (zipD [p.1, p.2], none) m1) E := by
  rw [show evI cl (.zpl es) m = match evs cl es m with
    | .ok [.v (.list xs), .v (.list ys)] m1 => .ok (zipD [xs, ys], none) m1
    | .ok [.fl xs, .fl ys] m1 => .ok (zipD [xs, ys], none) m1
    | .ok [.v (.list xs), .fl ys] m1 => .ok (zipD [xs, ys], none) m1
    | .ok [.fl xs, .v (.list ys)] m1 => .ok (zipD [xs, ys], none) m1
    | .ok _ _ => .bad
    | .rz c f m1 => .rz c f m1
    | .bad => .bad from rfl]
  cases evs cl es m with
  | ok rs m1 =>
    simp only [RS_ok]
    unfold zipL
    split <;> rename_i h
    · cases h; rfl
    · cases h; rfl
    · cases h; rfl
    · cases h; rfl
    · rename_i h1 h2 h3 h4
      cases h
      split
      · exact (h1 _ _ rfl).elim
      · exact (h2 _ _ rfl).elim
      · exact (h3 _ _ rfl).elim
      · exact (h4 _ _ rfl).elim
      · rfl
    · cases h
    · cases h
  | rz c f m1 => rfl
  | bad => rfl
end
section
variable {cl : Nat → List Arg → DS → FRes} {m : M} {Q : Flow → M → Prop} {E : Nat → Option PyData → M → Prop}
theorem X_nil : RS (exs cl .nil m) Q E = Q .nx m := nr rfl
theorem X_cons {st : S} {ss : Ss} : RS (exs cl (.cons st ss) m) Q E = RS (ex cl st m) (fun fl m1 => nxt fl (RS (exs cl ss m1) Q E) (Q fl m1)) E := by
  rw [show exs cl (.cons st ss) m = match ex cl st m with
    | .ok .nx m1 => exs cl ss m1
    | r => r from rfl]
  cases ex cl st m with
  | ok fl m1 => cases fl <;> rfl
  | rz c f m1 => rfl
  | bad => rfl
theorem X_set {i : Nat} {e : PV.E} : RS (ex cl (.set (.nm i) e) m) Q E = RS (ev cl e m) (fun r m1 => OS (setR i r m1.e) fun e => Q .nx ⟨e, m1.s⟩) E := by
  rw [show ex cl (.set (.nm i) e) m = match ev cl e m with
    | .ok r m1 => match setR i r m1.e with
      | some e => .ok .nx ⟨e, m1.s⟩
      | none => .bad
    | .rz c f m1 => .rz c f m1
    | .bad => .bad from rfl]
  cases ev cl e m with
  | ok r m1 =>
    simp only [RS_ok]
    cases setR i r m1.e <;> rfl
  | rz c f m1 => rfl
  | bad => rfl
theorem X_unp {ts : Tgs} {e : PV.E} : RS (ex cl (.set (.tp ts) e) m) Q E = RS (ev cl e m) (fun r m1 => OS (esc m1.e r) fun p => OS (bind1 p.2 (.tp ts) p.1) fun e => Q .nx ⟨e, m1.s⟩) E := by
  rw [show ex cl (.set (.tp ts) e) m = match ev cl e m with
    | .ok r m1 => match esc m1.e r with
      | some (d, e1) => match bind1 e1 (.tp ts) d with
        | some e => .ok .nx ⟨e, m1.s⟩
        | none => .bad
      | none => .bad
    | .rz c f m1 => .rz c f m1
    | .bad => .bad from rfl]
  cases ev cl e m with
  | ok r m1 =>
    simp only [RS_ok]
    cases esc m1.e r with
    | none => rfl
    | some p =>
      obtain ⟨d, e1⟩ := p
      simp only [OS_some]
      cases bind1 e1 (.tp ts) d <;> rfl
  | rz c f m1 => rfl
  | bad => rfl
theorem X_par {is : List Nat} {es : Es} : RS (ex cl (.par is es) m) Q E = RS (evs cl es m) (fun rs m1 => noPl rs = true ∧ OS (setRs is rs m1.e) fun e => Q .nx ⟨e, m1.s⟩) E := by
  rw [show ex cl (.par is es) m = match evs cl es m with
    | .ok rs m1 => if noPl rs = true then match setRs is rs m1.e with
        | some e => .ok .nx ⟨e, m1.s⟩
        | none => .bad
      else .bad
    | .rz c f m1 => .rz c f m1
    | .bad => .bad from rfl]
  cases evs cl es m with
  | ok r m1 =>
    simp only [RS_ok]
    by_cases h : noPl r = true
    · simp only [h, if_true, true_and]
      cases setRs is r m1.e <;> rfl
    · simp [h, RS]
  | rz c f m1 => rfl
  | bad => rfl
/-- x[k] = v in a list or dict of one's own -/
noncomputable def subR (i : Nat) (d dk : PyData) (e : Env) : Option Env := match e[i]?, dk with
  | some (.ol ds), .int j => match L2.ixN ds.length j with
    | some n => some (e.set i (.ol (ds.set n d)))
    | none => none
  | some (.od t kvs), k => if keyOk t k = true ∧ kvs.length < LIM then some (e.set i (.od t (putD kvs k d))) else none
  | _, _ => none
theorem X_swp {i ja jb : Nat} {e : PV.E} : RS (ex cl (.swp i e ja jb) m) Q E = RS (ev cl e m) (fun r m1 => OS (swpR i ja jb r m1.e) fun e => Q .nx ⟨e, m1.s⟩) E := by
  unfold ex
  cases ev cl e m with
  | ok r m1 =>
    simp only [RS_ok]
    cases swpR i ja jb r m1.e <;> rfl
  | rz c f m1 => rfl
  | bad => rfl
theorem X_sub {i : Nat} {k e : PV.E} : RS (ex cl (.sub i k e) m) Q E = RS (ev cl e m) (fun r m1 => OS (esc m1.e r) fun p => isOwn p.2[i]? = true ∧ RS (ev cl k ⟨p.2, m1.s⟩) (fun rk m2 => OS (vOf rk) fun dk => OS (subR i p.1 dk m2.e) fun e => Q .nx ⟨e, m2.s⟩) E) E := by
  unfold ex
  cases ev cl e m with
  | ok r m1 =>
    simp only [RS_ok]
    cases esc m1.e r with
    | none => rfl
    | some p =>
      obtain ⟨d, e1⟩ := p
      simp only [OS_some]
      by_cases h : isOwn e1[i]? = true
      · simp only [h, if_true, true_and]
        cases ev cl k ⟨e1, m1.s⟩ with
        | ok rk m2 =>
          cases rk with
          | v dk =>
            simp only [RS_ok, vOf, OS_some]
            unfold subR
            generalize m2.e[i]? = sl
            cases sl with
            | none => rfl
            | some sl => cases sl with
              | ol ds => cases dk with
                | int j =>
                  simp only
                  cases L2.ixN ds.length j <;> rfl
                | _ => rfl
              | od t kvs =>
                simp only
                by_cases hc : keyOk t dk = true ∧ kvs.length < LIM
                · rw [if_pos hc, if_pos hc]; rfl
                · rw [if_neg hc, if_neg hc]; rfl
              | _ => rfl
          | _ => rfl
        | rz c f m2 => rfl
        | bad => rfl
      · simp [h, RS]
  | rz c f m1 => rfl
  | bad => rfl
theorem X_ex {e : PV.E} : RS (ex cl (.ex e) m) Q E = RS (ev cl e m) (fun _ m1 => Q .nx m1) E := by
  rw [show ex cl (.ex e) m = match ev cl e m with
    | .ok _ m1 => .ok .nx m1
    | .rz c f m1 => .rz c f m1
    | .bad => .bad from rfl]
  cases ev cl e m <;> rfl
theorem X_ret {e : PV.E} : RS (ex cl (.ret e) m) Q E = RS (ev cl e m) (fun r m1 => Q (.rt r) m1) E := by
  rw [show ex cl (.ret e) m = match ev cl e m with
    | .ok r m1 => .ok (.rt r) m1
    | .rz c f m1 => .rz c f m1
    | .bad => .bad from rfl]
  cases ev cl e m <;> rfl
theorem X_retN : RS (ex cl .retN m) Q E = Q (.rt (.v .none)) m := nr rfl
theorem X_raise1 {c : Nat} {e : PV.E} : RS (ex cl (.raise c (.cons e .nil)) m) Q E = RS (ev cl e m) (fun r m1 => OS (esc m1.e r) fun q => E c (some q.1) ⟨q.2, m1.s⟩) E := by
  rw [show ex cl (.raise c (.cons e .nil)) m = match (match ev cl e m with
    | .ok r m1 => .ok [r] m1
    | .rz c f m1 => .rz c f m1
    | .bad => .bad : Res (List R)) with
    | .ok rs m1 => rzR c m1 rs
    | .rz c f m1 => .rz c f m1
    | .bad => .bad from rfl]
  cases ev cl e m with
  | ok r m1 =>
    show RS (rzR c m1 [r]) Q E = OS (esc m1.e r) fun q => E c (some q.1) ⟨q.2, m1.s⟩
    unfold rzR
    simp only
    cases esc m1.e r with
    | none => rfl
    | some q => obtain ⟨d, e1⟩ := q; rfl
  | rz c f m1 => rfl
  | bad => rfl
/-- what a suite ends with: the same wherever the exception lies -/
def trR (i : Nat) (F : Addr → Addr → Res Flow) (Q : Flow → M → Prop) (_ : Tag Q := ⟨⟩) : Prop := ∃ fl m', (∀ a b, RS (F a b) (fun fl' m1 => fl' = fl ∧ (⟨m1.e.set i .un, m1.s⟩ : M) = m') (fun _ _ _ => False)) ∧ (∀ j, fl ≠ .rt (.pl j)) ∧ Q fl m'
theorem trF_of {i : Nat} {F : Addr → Addr → Res Flow} (h : trR i F Q) : RS (trF i F) Q E := by
  obtain ⟨fl, m', h1, h2, h3⟩ := h
  have key : ∀ a b, unE i (F a b) = .ok fl m' := fun a b => by
    have h := h1 a b
    cases hF : F a b with
    | bad => rw [hF] at h; exact h.elim
    | rz c f m => rw [hF] at h; exact h.elim
    | ok fl' m1 =>
      rw [hF] at h
      obtain ⟨rfl, e⟩ := (h : fl' = fl ∧ (⟨m1.e.set i .un, m1.s⟩ : M) = m')
      cases fl' with
      | rt r => cases r with
        | pl j => exact absurd rfl (h2 j)
        | v d => exact congrArg _ e
        | fl d => exact congrArg _ e
        | fd t d => exact congrArg _ e
        | dk => exact congrArg _ e
      | nx => exact congrArg _ e
      | brk => exact congrArg _ e
      | ct => exact congrArg _ e
  unfold trF
  rw [if_pos fun a b => by rw [key, key], key]
  exact h3
theorem RS_tr {b : Ss} {i : Nat} {ws : List Nat} {hc : Nat → Bool} {fn : Nat → Option Str} {su : Nat → Addr → Addr → Ss}
    (h : RS (exs cl b m) Q (fun c f m1 => (hc c = false → E c f m1) ∧ (hc c = true → trR i (fun a b' => match exSlot a b' (fn c) f with
        | some sl => exs cl (su c a b') ⟨m1.e.set i sl, m1.s⟩
        | none => .bad) Q))) (hi : i < 1000 := by decide) : RS (ex cl (.tr b i ws hc fn su) m) Q E := by
  rw [show ex cl (.tr b i ws hc fn su) m = match exs cl b m with
    | .rz c f m1 => if hc c = true then trG i m1.e.length fun a b' => match exSlot a b' (fn c) f with
        | some sl => exs cl (su c a b') ⟨m1.e.set i sl, m1.s⟩
        | none => .bad
      else .rz c f m1
    | r => r from rfl]
  cases hf : exs cl b m with
  | bad => rw [hf] at h; exact h
  | ok fl m1 => rw [hf] at h; exact h
  | rz c f m1 =>
    rw [hf] at h
    obtain ⟨h1, h2⟩ := (h : (hc c = false → E c f m1) ∧ _)
    cases hcc : hc c with
    | false =>
      show RS (if hc c = true then _ else Res.rz c f m1) Q E
      rw [if_neg (by rw [hcc]; simp)]
      exact h1 hcc
    | true =>
      show RS (if hc c = true then trG i _ _ else Res.rz c f m1) Q E
      rw [if_pos hcc]
      unfold trG
      rw [if_neg fun z => by omega]
      exact trF_of (h2 hcc)
theorem exSlot_s {a b : Addr} {n : Str} {d : PyData} : exSlot a b (some n) (some d) = some (.ex a (some (b, n, d))) := rfl
theorem V_xf {Q' : R → M → Prop} {i : Nat} {a b : Addr} {n : Str} : RS (ev cl (.xf i a b n) m) Q' E = RS (xfR a b n m m.e[i]?) Q' E := rfl
theorem xfR_s {Q' : R → M → Prop} {a b : Addr} {n : Str} {d : PyData} : RS (xfR a b n m (some (.ex a (some (b, n, d))))) Q' E = Q' (.v d) m := by
  unfold xfR; simp only [and_self, if_true]; rfl
theorem X_ite {c : T} {a b : Ss} : RS (ex cl (.ite c a b) m) Q E = RS (evT cl c m) (fun k m1 => (k = true → RS (exs cl a m1) Q E) ∧ (k = false → RS (exs cl b m1) Q E)) E := by
  rw [show ex cl (.ite c a b) m = match evT cl c m with
    | .ok true m1 => exs cl a m1
    | .ok false m1 => exs cl b m1
    | .rz c f m1 => .rz c f m1
    | .bad => .bad from rfl]
  cases evT cl c m with
  | ok k m1 => cases k <;> simp [RS]
  | rz c f m1 => rfl
  | bad => rfl
/-- a turn of a loop -/
noncomputable def bdS (cl : Nat → List Arg → DS → FRes) (t : Tg) (b : Ss) (d : PyData) (m : M) : Res Flow := match bind1 m.e t d with
  | some e => exs cl b ⟨e, m.s⟩
  | none => .bad
theorem bdS_eq {t : Tg} {b : Ss} {d : PyData} : RS (bdS cl t b d m) Q E = OS (bind1 m.e t d) fun e => RS (exs cl b ⟨e, m.s⟩) Q E := by
  unfold bdS
  cases bind1 m.e t d <;> rfl
theorem X_lop {t : Tg} {it : It} {b : Ss} : RS (ex cl (.lop t it b) m) Q E = RS (evI cl it m) (fun p m1 => srcFree (fun j => asgT t j || asgSs b j) p.2 = true ∧ RS (lopL p.2 (bdS cl t b) p.1 m1) Q E) E := by
  rw [show ex cl (.lop t it b) m = match evI cl it m with
    | .ok (ds, src) m1 => if srcFree (fun j => asgT t j || asgSs b j) src = true then lopL src (bdS cl t b) ds m1 else .bad
    | .rz c f m1 => .rz c f m1
    | .bad => .bad from rfl]
  cases evI cl it m with
  | ok p m1 =>
    obtain ⟨ds, src⟩ := p
    simp only [RS_ok]
    by_cases h : srcFree (fun j => asgT t j || asgSs b j) src = true <;> simp [h, RS]
  | rz c f m1 => rfl
  | bad => rfl
theorem X_pass : RS (ex cl .pass m) Q E = Q .nx m := nr rfl
theorem X_brk : RS (ex cl .brk m) Q E = Q .brk m := nr rfl
theorem X_cont : RS (ex cl .cont m) Q E = Q .ct m := nr rfl
end
section
variable {cl : Nat → List Arg → DS → FRes} {s : DS} {Q : R → DS → Prop} {E : Nat → Option PyData → DS → Prop}
def finF (fl : Flow) (m : M) (Q : R → DS → Prop) (E : Nat → Option PyData → DS → Prop) : Prop := match fl with
  | .nx => Q (.v .none) m.s
  | .rt r => FS (finR r m) Q E
  | _ => False
theorem finF_nx {m : M} : finF .nx m Q E = Q (.v .none) m.s := nr rfl
theorem finF_v {m : M} {d : PyData} : finF (.rt (.v d)) m Q E = Q (.v d) m.s := nr rfl
theorem finF_fl {m : M} {d : List PyData} : finF (.rt (.fl d)) m Q E = Q (.fl d) m.s := nr rfl
theorem finF_fd {m : M} {t : Bool} {d : List (PyData × PyData)} : finF (.rt (.fd t d)) m Q E = Q (.fd t d) m.s := nr rfl
def finS : Option Slot → Option R
  | some (.ol ds) => some (.fl ds)
  | some (.od t kvs) => some (.fd t kvs)
  | some (.sh d) => some (.v d)
  | _ => none
theorem finF_pl {m : M} {i : Nat} : finF (.rt (.pl i)) m Q E = OS (finS m.e[i]?) fun r => Q r m.s := by
  show FS (match m.e[i]? with
    | some (.ol ds) => FRes.ok (.fl ds) m.s
    | some (.od t kvs) => .ok (.fd t kvs) m.s
    | some (.sh d) => .ok (.v d) m.s
    | _ => .bad) Q E = _
  cases m.e[i]? with
  | none => rfl
  | some sl => cases sl <;> rfl
theorem F_runB {fd : FD} {as : List Arg} (hl : as.length = fd.np) (h : RS (exs cl fd.body ⟨as.map slotA ++ List.replicate (fd.ns - fd.np) .un, s⟩) (fun fl m => finF fl m Q E) fun c f m => E c f m.s) : FS (runB cl fd as s) Q E := by
  unfold runB
  simp only [hl, if_true]
  generalize exs cl fd.body ⟨as.map slotA ++ List.replicate (fd.ns - fd.np) .un, s⟩ = x at h ⊢
  cases x with
  | ok fl m =>
    cases fl with
    | nx => exact h
    | rt r => exact h
    | _ => exact h.elim
  | rz c f m => exact h
  | bad => exact h
theorem F_run {tb : Nat → Option FSem} {k f : Nat} {fd : FD} {as : List Arg} (ht : tb f = some (.df fd)) (hl : as.length = fd.np) (h : RS (exs (run tb k) fd.body ⟨as.map slotA ++ List.replicate (fd.ns - fd.np) .un, s⟩) (fun fl m => finF fl m Q E) fun c f m => E c f m.s) : FS (run tb (k + 1) f as s) Q E := by
  have e : run tb (k + 1) f as s = runB (run tb k) fd as s := by
    show (match tb f with
      | some (.prim g) => g as s
      | some (.df fd) => runB (run tb k) fd as s
      | none => .bad) = _
    rw [ht]
  rw [e]
  exact F_runB hl h
end
/-- a call, not looked into -/
@[irreducible] noncomputable def runI (tb : Nat → Option FSem) : Nat → Nat → List Arg → DS → FRes := run tb
theorem runI_eq (tb : Nat → Option FSem) : runI tb = run tb := by unfold runI; rfl
theorem F_call {tb : Nat → Option FSem} {s : DS} {Q : R → DS → Prop} {E : Nat → Option PyData → DS → Prop} {k f : Nat} {fd : FD} {as : List Arg} (ht : tb f = some (.df fd)) (hl : as.length = fd.np) (h : RS (exs (runI tb k) fd.body ⟨as.map slotA ++ List.replicate (fd.ns - fd.np) .un, s⟩) (fun fl m => finF fl m Q E) fun c f m => E c f m.s) : FS (runI tb (k + 1) f as s) Q E := by
  rw [runI_eq] at h ⊢
  exact F_run ht hl h
end PV

/-! PV: data of whole numbers, plainly -/
namespace PV
open PySem
abbrev tuI (xs : List Int) : PyData := .tuple (xs.map .int)
abbrev liI (xs : List Int) : PyData := .list (xs.map .int)
abbrev tuP (ps : List (Int × Int)) : PyData := .tuple (ps.map pr)
abbrev liP (ps : List (Int × Int)) : PyData := .list (ps.map pr)
theorem toInts_ints : ∀ (xs : List Int), toInts (xs.map .int) = some xs
  | [] => rfl
  | x :: xs => by simp [toInts, toInts_ints xs]
theorem toBls_map {α : Type} (p : α → Bool) : ∀ (xs : List α), toBls (xs.map fun x => .bool (p x)) = some (xs.map p)
  | [] => rfl
  | x :: xs => by simp [toBls, toBls_map p xs]
/-! what can be compared -/
theorem canLayAll_map {α : Type} {f : α → PyData} : ∀ {xs : List α}, (∀ x ∈ xs, (f x).canLay0 = true) → PyData.canLayAll0 (xs.map f) = true
  | [], _ => rfl
  | x :: xs, h => by simp [PyData.canLayAll0, h x List.mem_cons_self, canLayAll_map fun y hy => h y (List.mem_cons_of_mem _ hy)]
theorem depthAll_map {α : Type} {f : α → PyData} {k : Nat} : ∀ {xs : List α}, (∀ x ∈ xs, (f x).depth ≤ k) → PyData.depthAll (xs.map f) ≤ k
  | [], _ => Nat.zero_le _
  | x :: xs, h => by
    show max (f x).depth (PyData.depthAll (xs.map f)) ≤ k
    have := h x List.mem_cons_self
    have := depthAll_map fun y hy => h y (List.mem_cons_of_mem _ hy)
    omega
structure Sp (k : Nat) (d : PyData) : Prop where
  lay : d.canLay0 = true
  dep : d.depth ≤ k
theorem Sp.mono {k k' : Nat} {d : PyData} (h : Sp k d) (l : k ≤ k') : Sp k' d := ⟨h.lay, Nat.le_trans h.dep l⟩
theorem Sp.ok {k : Nat} {d : PyData} (h : Sp k d) (l : k ≤ 64) : SeqAt.shaped d = true := by
  unfold SeqAt.shaped; rw [h.lay, decide_eq_true (Nat.le_trans h.dep l)]; rfl
theorem Sp.int {i : Int} : Sp 0 (.int i) := ⟨rfl, Nat.le_refl _⟩
theorem Sp.bool {i : Bool} : Sp 0 (.bool i) := ⟨rfl, Nat.le_refl _⟩
theorem Sp.none : Sp 0 .none := ⟨rfl, Nat.le_refl _⟩
theorem Sp.tuple {k : Nat} {ds : List PyData} (h : ∀ d ∈ ds, Sp k d) : Sp (k + 1) (.tuple ds) :=
  ⟨by have := canLayAll_map (f := fun x => x) (xs := ds) (fun x hx => (h x hx).lay); rw [List.map_id'] at this; exact this, by
    have := depthAll_map (f := fun x => x) (k := k) (xs := ds) (fun x hx => (h x hx).dep); rw [List.map_id'] at this; exact Nat.succ_le_succ this⟩
theorem Sp.list {k : Nat} {ds : List PyData} (h : ∀ d ∈ ds, Sp k d) : Sp (k + 1) (.list ds) := ⟨(Sp.tuple h).lay, (Sp.tuple h).dep⟩
theorem Sp.tuI {xs : List Int} : Sp 1 (tuI xs) := Sp.tuple fun d hd => by obtain ⟨i, _, rfl⟩ := List.mem_map.mp hd; exact Sp.int
theorem Sp.liI {xs : List Int} : Sp 1 (liI xs) := Sp.list fun d hd => by obtain ⟨i, _, rfl⟩ := List.mem_map.mp hd; exact Sp.int
theorem Sp.pr {p : Int × Int} : Sp 1 (pr p) := Sp.tuI (xs := [p.1, p.2])
theorem Sp.tuP {ps : List (Int × Int)} : Sp 2 (tuP ps) := Sp.tuple fun d hd => by obtain ⟨i, _, rfl⟩ := List.mem_map.mp hd; exact Sp.pr
theorem Sp.liP {ps : List (Int × Int)} : Sp 2 (liP ps) := Sp.list fun d hd => by obtain ⟨i, _, rfl⟩ := List.mem_map.mp hd; exact Sp.pr
/-! equal -/
theorem eqvAll_map {α : Type} [DecidableEq α] {f : α → PyData} (h : ∀ x y, PyData.eqv (f x) (f y) = decide (x = y)) : ∀ (xs ys : List α), PyData.eqvAll (xs.map f) (ys.map f) = decide (xs = ys)
  | [], [] => rfl
  | [], _ :: _ => rfl
  | _ :: _, [] => rfl
  | x :: xs, y :: ys => by
    show (PyData.eqv (f x) (f y) && PyData.eqvAll (xs.map f) (ys.map f)) = _
    rw [h, eqvAll_map h xs ys]
    by_cases h1 : x = y <;> by_cases h2 : xs = ys <;> simp [h1, h2]
theorem eqv_int (i j : Int) : PyData.eqv (.int i) (.int j) = decide (i = j) := by
  show (i == j) = _
  by_cases h : i = j <;> simp [h]
theorem eqv_tI (xs ys : List Int) : PyData.eqv (tuI xs) (tuI ys) = decide (xs = ys) := eqvAll_map eqv_int xs ys
theorem eqv_lI (xs ys : List Int) : PyData.eqv (liI xs) (liI ys) = decide (xs = ys) := eqvAll_map eqv_int xs ys
theorem eqv_pr (p q : Int × Int) : PyData.eqv (pr p) (pr q) = decide (p = q) := by
  obtain ⟨a, b⟩ := p
  obtain ⟨c, d⟩ := q
  refine (eqv_tI [a, b] [c, d]).trans ?_
  simp
theorem eqv_tP (xs ys : List (Int × Int)) : PyData.eqv (tuP xs) (tuP ys) = decide (xs = ys) := eqvAll_map eqv_pr xs ys
theorem eqv_lP (xs ys : List (Int × Int)) : PyData.eqv (liP xs) (liP ys) = decide (xs = ys) := eqvAll_map eqv_pr xs ys
theorem any_mapB {α : Type} [DecidableEq α] {f : α → PyData} (h : ∀ x y, PyData.eqv (f x) (f y) = decide (x = y)) (a : α) : ∀ (xs : List α), ((xs.map f).any fun z => PyData.eqv z (f a)) = decide (a ∈ xs)
  | [] => rfl
  | x :: xs => by
    rw [List.map_cons, List.any_cons, h, any_mapB h a xs]
    by_cases h1 : x = a
    · subst h1; simp
    · have h2 : a ≠ x := fun z => h1 z.symm
      simp [h1, h2]
theorem any_map {α : Type} [DecidableEq α] {f : α → PyData} (h : ∀ x y, PyData.eqv (f x) (f y) = decide (x = y)) (a : α) (xs : List α) [Decidable (a ∈ xs)] : ((xs.map f).any fun z => PyData.eqv z (f a)) = decide (a ∈ xs) := by
  rw [any_mapB h]; congr
theorem hasD_tI (i : Int) (xs : List Int) : hasD (.int i) (.tuple (xs.map .int)) = some (decide (i ∈ xs)) := by
  exact (if_pos ⟨Sp.int.ok (by decide), Sp.tuI.ok (by decide)⟩).trans (by rw [any_map eqv_int])
theorem hasD_lI (i : Int) (xs : List Int) : hasD (.int i) (.list (xs.map .int)) = some (decide (i ∈ xs)) := by
  exact (if_pos ⟨Sp.int.ok (by decide), Sp.liI.ok (by decide)⟩).trans (by rw [any_map eqv_int])
theorem hasD_tP (p : Int × Int) (xs : List (Int × Int)) : hasD (pr p) (.tuple (xs.map pr)) = some (decide (p ∈ xs)) := by
  exact (if_pos ⟨Sp.pr.ok (by decide), Sp.tuP.ok (by decide)⟩).trans (by rw [any_map eqv_pr])
theorem hasD_lP (p : Int × Int) (xs : List (Int × Int)) : hasD (pr p) (.list (xs.map pr)) = some (decide (p ∈ xs)) := by
  exact (if_pos ⟨Sp.pr.ok (by decide), Sp.liP.ok (by decide)⟩).trans (by rw [any_map eqv_pr])
theorem hasD_tP' (a b : Int) (xs : List (Int × Int)) : hasD (.tuple [.int a, .int b]) (.tuple (xs.map pr)) = some (decide ((a, b) ∈ xs)) := hasD_tP (a, b) xs
theorem hasD_lP' (a b : Int) (xs : List (Int × Int)) : hasD (.tuple [.int a, .int b]) (.list (xs.map pr)) = some (decide ((a, b) ∈ xs)) := hasD_lP (a, b) xs
theorem eqD_sp {k : Nat} {a b : PyData} (ha : Sp k a) (hb : Sp k b) (hk : k ≤ 64) (hs : ∀ x y, a = .str x → b = .str y → False) : eqD [a, b] = some (.v (.bool (PyData.eqv a b))) := by
  unfold eqD
  split
  · rename_i x y e
    cases e; exact (hs _ _ rfl rfl).elim
  · rename_i e
    cases e
    rw [if_pos ⟨ha.ok hk, hb.ok hk⟩]
  · rename_i e
    exact absurd rfl (e a b)
theorem neD_sp {k : Nat} {a b : PyData} (ha : Sp k a) (hb : Sp k b) (hk : k ≤ 64) (hs : ∀ x y, a = .str x → b = .str y → False) : neD [a, b] = some (.v (.bool (!PyData.eqv a b))) := by
  unfold neD
  split
  · rename_i x y e
    cases e; exact (hs _ _ rfl rfl).elim
  · rename_i e
    cases e
    rw [if_pos ⟨ha.ok hk, hb.ok hk⟩]
  · rename_i e
    exact absurd rfl (e a b)
theorem eqD_int (i j : Int) : eqD [.int i, .int j] = some (.v (.bool (decide (i = j)))) := (eqD_sp Sp.int Sp.int (by decide) (by intro _ _ e; cases e)).trans (by rw [eqv_int])
theorem neD_int (i j : Int) : neD [.int i, .int j] = some (.v (.bool (!decide (i = j)))) := (neD_sp Sp.int Sp.int (by decide) (by intro _ _ e; cases e)).trans (by rw [eqv_int])
theorem eqD_lI (i j : List Int) : eqD [.list (i.map .int), .list (j.map .int)] = some (.v (.bool (decide (i = j)))) := (eqD_sp Sp.liI Sp.liI (by decide) (by intro _ _ e; cases e)).trans (by rw [eqv_lI])
theorem neD_lI (i j : List Int) : neD [.list (i.map .int), .list (j.map .int)] = some (.v (.bool (!decide (i = j)))) := (neD_sp Sp.liI Sp.liI (by decide) (by intro _ _ e; cases e)).trans (by rw [eqv_lI])
theorem eqD_tI (i j : List Int) : eqD [.tuple (i.map .int), .tuple (j.map .int)] = some (.v (.bool (decide (i = j)))) := (eqD_sp Sp.tuI Sp.tuI (by decide) (by intro _ _ e; cases e)).trans (by rw [eqv_tI])
theorem neD_tI (i j : List Int) : neD [.tuple (i.map .int), .tuple (j.map .int)] = some (.v (.bool (!decide (i = j)))) := (neD_sp Sp.tuI Sp.tuI (by decide) (by intro _ _ e; cases e)).trans (by rw [eqv_tI])
theorem eqD_pr (i j : Int × Int) : eqD [pr i, pr j] = some (.v (.bool (decide (i = j)))) := (eqD_sp Sp.pr Sp.pr (by decide) (by intro _ _ e; cases e)).trans (by rw [eqv_pr])
theorem neD_pr (i j : Int × Int) : neD [pr i, pr j] = some (.v (.bool (!decide (i = j)))) := (neD_sp Sp.pr Sp.pr (by decide) (by intro _ _ e; cases e)).trans (by rw [eqv_pr])
theorem eqD_tP (i j : List (Int × Int)) : eqD [.tuple (i.map pr), .tuple (j.map pr)] = some (.v (.bool (decide (i = j)))) := (eqD_sp Sp.tuP Sp.tuP (by decide) (by intro _ _ e; cases e)).trans (by rw [eqv_tP])
theorem neD_tP (i j : List (Int × Int)) : neD [.tuple (i.map pr), .tuple (j.map pr)] = some (.v (.bool (!decide (i = j)))) := (neD_sp Sp.tuP Sp.tuP (by decide) (by intro _ _ e; cases e)).trans (by rw [eqv_tP])
theorem eqD_lP (i j : List (Int × Int)) : eqD [.list (i.map pr), .list (j.map pr)] = some (.v (.bool (decide (i = j)))) := (eqD_sp Sp.liP Sp.liP (by decide) (by intro _ _ e; cases e)).trans (by rw [eqv_lP])
theorem neD_lP (i j : List (Int × Int)) : neD [.list (i.map pr), .list (j.map pr)] = some (.v (.bool (!decide (i = j)))) := (neD_sp Sp.liP Sp.liP (by decide) (by intro _ _ e; cases e)).trans (by rw [eqv_lP])
theorem eqD_nil0 : eqD [.list [], .list []] = some (.v (.bool true)) := eqD_lI [] []
theorem neD_nil0 : neD [.list [], .list []] = some (.v (.bool false)) := neD_lI [] []
theorem eqD_lI0 {xs : List Int} : eqD [.list (xs.map .int), .list []] = some (.v (.bool (decide (xs = [])))) := eqD_lI xs []
theorem neD_lI0 {xs : List Int} : neD [.list (xs.map .int), .list []] = some (.v (.bool (!decide (xs = [])))) := neD_lI xs []
theorem eqD_lP0 {xs : List (Int × Int)} : eqD [.list (xs.map pr), .list []] = some (.v (.bool (decide (xs = [])))) := eqD_lP xs []
theorem neD_lP0 {xs : List (Int × Int)} : neD [.list (xs.map pr), .list []] = some (.v (.bool (!decide (xs = [])))) := neD_lP xs []
theorem eqD_tI0 {xs : List Int} : eqD [.tuple (xs.map .int), .tuple []] = some (.v (.bool (decide (xs = [])))) := eqD_tI xs []
theorem neD_tI0 {xs : List Int} : neD [.tuple (xs.map .int), .tuple []] = some (.v (.bool (!decide (xs = [])))) := neD_tI xs []
theorem eqD_tP0 {xs : List (Int × Int)} : eqD [.tuple (xs.map pr), .tuple []] = some (.v (.bool (decide (xs = [])))) := eqD_tP xs []
theorem neD_tP0 {xs : List (Int × Int)} : neD [.tuple (xs.map pr), .tuple []] = some (.v (.bool (!decide (xs = [])))) := neD_tP xs []
theorem eqD_p {a b c d : Int} : eqD [.tuple [.int a, .int b], .tuple [.int c, .int d]] = some (.v (.bool (decide ((a, b) = (c, d))))) := eqD_pr (a, b) (c, d)
theorem neD_p {a b c d : Int} : neD [.tuple [.int a, .int b], .tuple [.int c, .int d]] = some (.v (.bool (!decide ((a, b) = (c, d))))) := neD_pr (a, b) (c, d)
theorem eqD_b2 {a b c d : Bool} : eqD [.list [.bool a, .bool b], .list [.bool c, .bool d]] = some (.v (.bool ((a == c) && (b == d)))) :=
  (eqD_sp (k := 1) (Sp.list fun x hx => by rcases List.mem_cons.mp hx with rfl | hx; exact Sp.bool; rw [List.mem_singleton.mp hx]; exact Sp.bool) (Sp.list fun x hx => by rcases List.mem_cons.mp hx with rfl | hx; exact Sp.bool; rw [List.mem_singleton.mp hx]; exact Sp.bool) (by decide) (by intro _ _ e; cases e)).trans (by
    show some (R.v (.bool ((a == c) && ((b == d) && true)))) = _
    rw [Bool.and_true])
theorem neD_b2 {a b c d : Bool} : neD [.list [.bool a, .bool b], .list [.bool c, .bool d]] = some (.v (.bool (!((a == c) && (b == d))))) :=
  (neD_sp (k := 1) (Sp.list fun x hx => by rcases List.mem_cons.mp hx with rfl | hx; exact Sp.bool; rw [List.mem_singleton.mp hx]; exact Sp.bool) (Sp.list fun x hx => by rcases List.mem_cons.mp hx with rfl | hx; exact Sp.bool; rw [List.mem_singleton.mp hx]; exact Sp.bool) (by decide) (by intro _ _ e; cases e)).trans (by
    show some (R.v (.bool (!((a == c) && ((b == d) && true))))) = _
    rw [Bool.and_true])
theorem idxD_t {xs : List PyData} {i : Int} : idxD [.tuple xs, .int i] = (pick xs i).map .v := nr rfl
theorem idxD_l {xs : List PyData} {i : Int} : idxD [.list xs, .int i] = (pick xs i).map .v := nr rfl
/-! sorted -/
def leI (a b : Int) : Bool := decide (a ≤ b)
def leP (p q : Int × Int) : Bool := decide (p.1 < q.1 ∨ p.1 = q.1 ∧ p.2 ≤ q.2)
def leL (xs ys : List Int) : Bool := !HT.lexLt ys xs
theorem toks_ints : ∀ (xs ys : List Int), PyProof.Rows.lexLt PyProof.Rows.itemOrd (PySem.W.keyToksAll (xs.map .int)) (PySem.W.keyToksAll (ys.map .int)) = HT.lexLt xs ys
  | [], [] => by decide
  | [], y :: ys => by
    show PyProof.Rows.lexLt PyProof.Rows.itemOrd [.inl 0] (.inl 1 :: (PySem.W.keyToks (.int y) ++ PySem.W.keyToksAll (ys.map .int))) = true
    rw [PyProof.Rows.lex_diff (O := PyProof.Rows.itemOrd) (by simp)]
    rfl
  | x :: xs, [] => by
    show PyProof.Rows.lexLt PyProof.Rows.itemOrd (.inl 1 :: (PySem.W.keyToks (.int x) ++ PySem.W.keyToksAll (xs.map .int))) [.inl 0] = false
    rw [PyProof.Rows.lex_diff (O := PyProof.Rows.itemOrd) (by simp)]
    rfl
  | x :: xs, y :: ys => by
    show PyProof.Rows.lexLt PyProof.Rows.itemOrd (.inl 1 :: .inl x :: PySem.W.keyToksAll (xs.map .int)) (.inl 1 :: .inl y :: PySem.W.keyToksAll (ys.map .int)) = _
    rw [PyProof.Rows.lex_self (O := PyProof.Rows.itemOrd), HT.lexLt_cons]
    by_cases h : x = y
    · subst h
      rw [PyProof.Rows.lex_self (O := PyProof.Rows.itemOrd), if_pos rfl, toks_ints xs ys]
    · rw [PyProof.Rows.lex_diff (O := PyProof.Rows.itemOrd) (fun z => h (Sum.inl.inj z)), if_neg h]
      rfl
theorem dataLe_int (a b : Int) : PySem.W.dataLe false id (.int a) (.int b) = leI a b := by
  show (!PyProof.Rows.lexLt PyProof.Rows.itemOrd [.inl b] [.inl a]) = leI a b
  unfold leI
  by_cases h : b = a
  · subst h
    rw [PyProof.Rows.lex_self (O := PyProof.Rows.itemOrd)]
    simp [PyProof.Rows.lexLt]
  · rw [PyProof.Rows.lex_diff (O := PyProof.Rows.itemOrd) (fun z => h (Sum.inl.inj z))]
    show (!decide (b < a)) = decide (a ≤ b)
    by_cases h2 : b < a
    · have : ¬ a ≤ b := by omega
      simp [h2, this]
    · have : a ≤ b := by omega
      simp [h2, this]
theorem dataLe_tuI (xs ys : List Int) : PySem.W.dataLe false id (tuI xs) (tuI ys) = leL xs ys := congrArg (!·) (toks_ints ys xs)
theorem leL_pair (p q : Int × Int) : leL [p.1, p.2] [q.1, q.2] = leP p q := by
  unfold leL leP
  rw [HT.lexLt_cons, HT.lexLt_cons, HT.lexLt_nil_nil]
  split
  · rename_i h
    split
    · rename_i h2; simp [h, h2]
    · rename_i h2
      by_cases h3 : q.2 < p.2
      · have : ¬ p.2 ≤ q.2 := by omega
        simp [h, h3, this]
      · have : p.2 ≤ q.2 := by omega
        simp [h, h3, this]
  · rename_i h
    have h' : ¬ p.1 = q.1 := fun z => h z.symm
    by_cases h3 : q.1 < p.1
    · have : ¬ p.1 < q.1 := by omega
      simp [h', h3, this]
    · have : p.1 < q.1 := by omega
      simp [h', h3, this]
theorem dataLe_pr (p q : Int × Int) : PySem.W.dataLe false id (pr p) (pr q) = leP p q := (dataLe_tuI [p.1, p.2] [q.1, q.2]).trans (leL_pair p q)
theorem alike_ints : ∀ (xs ys : List Int), PySem.W.alikeAll (xs.map .int) (ys.map .int) = true
  | [], [] => rfl
  | [], _ :: _ => rfl
  | _ :: _, [] => rfl
  | x :: xs, y :: ys => by
    show (PySem.W.alike (.int x) (.int y) && PySem.W.alikeAll (xs.map .int) (ys.map .int)) = true
    rw [alike_ints xs ys]; rfl
theorem srt_map {α : Type} {f : α → PyData} {le : α → α → Bool} {xs : List α} (ha : ∀ x ∈ xs, ∀ y ∈ xs, PySem.W.alike (f x) (f y) = true) (hs : Srtb (xs.map f)) (hn : ∀ x ∈ xs, nod (f x) = true ∧ (f x).depth ≤ 20) (hle : ∀ x ∈ xs, ∀ y ∈ xs, PySem.W.dataLe false id (f x) (f y) = le x y) :
    srt (xs.map f) = some (.fl ((xs.mergeSort le).map f)) := by
  have h1 : PySem.W.AllAlike (xs.map f) := by
    intro d hd d' hd'
    obtain ⟨x, hx, rfl⟩ := List.mem_map.mp hd
    obtain ⟨y, hy, rfl⟩ := List.mem_map.mp hd'
    exact ha x hx y hy
  have h2 : ∀ d ∈ xs.map f, nod d = true ∧ d.depth ≤ 20 := by
    intro d hd
    obtain ⟨x, hx, rfl⟩ := List.mem_map.mp hd
    exact hn x hx
  refine (if_pos ⟨h1, hs, h2⟩).trans ?_
  · rw [List.map_mergeSort (r := le) (s := PySem.W.dataLe false id) (f := f) fun a h b h' => (hle a h b h').symm]
theorem srt_ints (xs : List Int) : srt (xs.map .int) = some (.fl ((xs.mergeSort leI).map .int)) :=
  srt_map (fun _ _ _ _ => rfl) (.inl <| .inr fun d hd => by
    obtain ⟨x, _, rfl⟩ := List.mem_map.mp hd
    exact ⟨by simp, by simp⟩) (fun _ _ => ⟨rfl, Nat.zero_le _⟩) fun x _ y _ => dataLe_int x y
theorem srt_prs (xs : List (Int × Int)) : srt (xs.map pr) = some (.fl ((xs.mergeSort leP).map pr)) :=
  srt_map (fun x _ y _ => alike_ints [x.1, x.2] [y.1, y.2]) (.inl <| .inl fun d hd => by
    obtain ⟨x, _, rfl⟩ := List.mem_map.mp hd
    exact ⟨_, _, rfl⟩) (fun x _ => ⟨rfl, Nat.le_trans Sp.pr.dep (by decide)⟩) fun x _ y _ => dataLe_pr x y
/-! the orders -/
theorem leI_trans (a b c : Int) : leI a b = true → leI b c = true → leI a c = true := by simp only [leI, decide_eq_true_eq]; omega
theorem leI_total (a b : Int) : (leI a b || leI b a) = true := by
  by_cases h : a ≤ b
  · simp [leI, h]
  · have : b ≤ a := by omega
    simp [leI, this]
theorem leI_anti {a b : Int} (h : leI a b = true) (h' : leI b a = true) : a = b := by simp only [leI, decide_eq_true_eq] at *; omega
/-- two sorted rows of the same things are equal -/
theorem sorted_eq {α : Type} {le : α → α → Bool} (anti : ∀ a b, le a b = true → le b a = true → a = b) : ∀ {xs ys : List α}, xs.Pairwise (fun a b => le a b = true) → ys.Pairwise (fun a b => le a b = true) → xs.Perm ys → xs = ys
  | [], ys, _, _, h => (List.nil_perm.mp h).symm
  | x :: xs, [], _, _, h => absurd h.length_eq (by simp)
  | x :: xs, y :: ys, hx, hy, h => by
    have e : x = y := by
      have h1 : x ∈ y :: ys := h.mem_iff.mp List.mem_cons_self
      have h2 : y ∈ x :: xs := h.mem_iff.mpr List.mem_cons_self
      rcases List.mem_cons.mp h1 with r | h1
      · exact r
      rcases List.mem_cons.mp h2 with r | h2
      · exact r.symm
      exact anti _ _ ((List.pairwise_cons.mp hx).1 _ h2) ((List.pairwise_cons.mp hy).1 _ h1)
    subst e
    rw [sorted_eq anti (List.pairwise_cons.mp hx).2 (List.pairwise_cons.mp hy).2 (List.Perm.cons_inv h)]
theorem sortI_pw (xs : List Int) : (xs.mergeSort leI).Pairwise (fun a b => leI a b = true) := List.pairwise_mergeSort leI_trans leI_total xs
theorem sortI_eq {xs ys : List Int} (h : xs.Perm ys) : xs.mergeSort leI = ys.mergeSort leI := sorted_eq (fun _ _ => leI_anti) (sortI_pw _) (sortI_pw _) ((List.mergeSort_perm _ _).trans (h.trans (List.mergeSort_perm _ _).symm))
end PV

/-! PV: conditions, operation by operation -/
namespace PV
open PySem
abbrev never : Nat → Option PyData → M → Prop := fun _ _ _ => False
abbrev neverF : Nat → Option PyData → DS → Prop := fun _ _ _ => False
/-- a comprehension: what is asked of each item gives p, the item f -/
theorem RS_lc {α : Type} {src : Src} {own : List Nat} {bd : PyData → M → Res Bool} {el : M → Res R} {e : Env} {s : DS} {Q : List PyData → M → Prop} {E : Nat → Option PyData → M → Prop} {enc : α → PyData} {xs : List α} (p : α → Bool) (f : α → PyData) (hs : srcOk ⟨e, s⟩ src)
    (h : ∀ x ∈ xs, RS (bd (enc x) ⟨e, s⟩) (fun b m1 => b = p x ∧ (p x = true → RS (el m1) (fun r m2 => OS (esc m2.e r) fun q => q.1 = f x ∧ clear q.2 own = e ∧ m2.s = s) never) ∧ (p x = false → clear m1.e own = e ∧ m1.s = s)) never)
    (q : Q ((xs.filter p).map f) ⟨e, s⟩) : RS (lcL src own bd el (xs.map enc) [] ⟨e, s⟩) Q E := by
  have key : ∀ (xs : List α) (acc : List PyData), (∀ x ∈ xs, RS (bd (enc x) ⟨e, s⟩) (fun b m1 => b = p x ∧ (p x = true → RS (el m1) (fun r m2 => OS (esc m2.e r) fun q => q.1 = f x ∧ clear q.2 own = e ∧ m2.s = s) never) ∧ (p x = false → clear m1.e own = e ∧ m1.s = s)) never) →
      lcL src own bd el (xs.map enc) acc ⟨e, s⟩ = .ok (acc ++ (xs.filter p).map f) ⟨e, s⟩ := by
    intro xs
    induction xs with
    | nil => intro acc _; simp [lcL, hs]
    | cons x xs ih =>
      intro acc h
      obtain ⟨b, m1, h1, rfl, h2, h3⟩ := (h x List.mem_cons_self).ex
      have ih := fun acc => ih acc fun y hy => h y (List.mem_cons_of_mem _ hy)
      rw [List.map_cons]
      unfold lcL
      simp only [hs, if_true, h1]
      cases hp : p x with
      | true =>
        rw [hp] at h1 h2
        obtain ⟨r, m2, h4, h5⟩ := (h2 rfl).ex
        cases hq : esc m2.e r with
        | none => rw [hq] at h5; exact h5.elim
        | some q =>
          obtain ⟨d, e3⟩ := q
          rw [hq] at h5
          obtain ⟨h6, h7, h8⟩ := h5
          have h6 : d = f x := h6
          have h7 : clear e3 own = e := h7
          simp only [h4, hq, h7, h8]
          rw [ih, h6, List.filter_cons, if_pos hp]
          simp
      | false =>
        rw [hp] at h3
        obtain ⟨h4, h5⟩ := h3 rfl
        simp only [h4, h5]
        rw [ih, List.filter_cons, if_neg (by simp [hp])]
  rw [key xs [] h]
  exact q
/-- .. all of them -/
theorem RS_map {α : Type} {src : Src} {own : List Nat} {bd : PyData → M → Res Bool} {el : M → Res R} {e : Env} {s : DS} {Q : List PyData → M → Prop} {E : Nat → Option PyData → M → Prop} {enc : α → PyData} {xs : List α} (f : α → PyData) (hs : srcOk ⟨e, s⟩ src)
    (h : ∀ x ∈ xs, RS (bd (enc x) ⟨e, s⟩) (fun b m1 => b = true ∧ RS (el m1) (fun r m2 => OS (esc m2.e r) fun q => q.1 = f x ∧ clear q.2 own = e ∧ m2.s = s) never) never)
    (q : Q (xs.map f) ⟨e, s⟩) : RS (lcL src own bd el (xs.map enc) [] ⟨e, s⟩) Q E :=
  RS_lc (fun _ => true) f hs (fun x hx => (h x hx).imp fun b m1 h => ⟨h.1, fun _ => h.2, fun z => nomatch z⟩) (by
    rw [List.filter_eq_self.mpr fun _ _ => rfl]; exact q)
/-- a comprehension that draws: J of the deck, Y of the items -/
theorem RS_draw {α : Type} {own : List Nat} {bd : PyData → M → Res Bool} {el : M → Res R} {e : Env} {s : DS} {Q : List PyData → M → Prop} {E : Nat → Option PyData → M → Prop} {enc : α → PyData} {xs : List α} (J : List PyData → List α → DS → Prop) (hj : J [] xs s)
    (h : ∀ acc x rest s, x ∈ xs → J acc (x :: rest) s → RS (bd (enc x) ⟨e, s⟩) (fun b m1 => (b = true → RS (el m1) (fun r m2 => OS (esc m2.e r) fun q => clear q.2 own = e ∧ J (acc ++ [q.1]) rest m2.s) never) ∧ (b = false → clear m1.e own = e ∧ J acc rest m1.s)) never)
    (q : ∀ acc s, J acc [] s → Q acc ⟨e, s⟩) : RS (lcL none own bd el (xs.map enc) [] ⟨e, s⟩) Q E := by
  have key : ∀ (ys : List α) (acc : List PyData) (s : DS), (∀ y ∈ ys, y ∈ xs) → J acc ys s → ∃ acc' s', lcL none own bd el (ys.map enc) acc ⟨e, s⟩ = .ok acc' ⟨e, s'⟩ ∧ J acc' [] s' := by
    intro ys
    induction ys with
    | nil => intro acc s _ hj; exact ⟨acc, s, by simp [lcL, srcOk], hj⟩
    | cons x ys ih =>
      intro acc s hm hj
      obtain ⟨b, m1, h1, h2, h3⟩ := (h acc x ys s (hm x List.mem_cons_self) hj).ex
      have ih := fun acc s => ih acc s fun y hy => hm y (List.mem_cons_of_mem _ hy)
      rw [List.map_cons]
      unfold lcL
      simp only [srcOk, if_true, h1]
      cases b with
      | true =>
        obtain ⟨r, m2, h4, h5⟩ := (h2 rfl).ex
        cases hq : esc m2.e r with
        | none => rw [hq] at h5; exact h5.elim
        | some q =>
          obtain ⟨d, e3⟩ := q
          rw [hq] at h5
          obtain ⟨h6, h7⟩ := h5
          have h6 : clear e3 own = e := h6
          obtain ⟨acc', s', h8, h9⟩ := ih (acc ++ [d]) m2.s h7
          exact ⟨acc', s', by simp only [h4, hq, h6]; exact h8, h9⟩
      | false =>
        obtain ⟨h4, h5⟩ := h3 rfl
        obtain ⟨acc', s', h8, h9⟩ := ih acc m1.s h5
        exact ⟨acc', s', by simp only [h4]; exact h8, h9⟩
  obtain ⟨acc', s', h1, h2⟩ := key xs [] s (fun _ z => z) hj
  rw [h1]
  exact q acc' s' h2
theorem FS.use {x : FRes} {Q Q' : R → DS → Prop} {E : Nat → Option PyData → DS → Prop} (h : FS x Q neverF) (i : ∀ a m, Q a m → Q' a m) : FS x Q' E := h.mono i fun _ _ _ z => z.elim
/-- a loop: J of the items that are left, of the state; a turn may end the def -/
theorem RS_lop {α : Type} {src : Src} {bd : PyData → M → Res Flow} {m : M} {Q : Flow → M → Prop} {E : Nat → Option PyData → M → Prop} {enc : α → PyData} {xs : List α} (J : List α → List α → M → Prop) (hj : J [] xs m) (hs : ∀ done rest m, J done rest m → srcOk m src)
    (h : ∀ done x rest m, xs = done ++ x :: rest → J done (x :: rest) m → RS (bd (enc x) m) (fun fl m1 => match fl with
      | .nx => J (done ++ [x]) rest m1
      | .ct => J (done ++ [x]) rest m1
      | .brk => Q .nx m1
      | .rt r => Q (.rt r) m1) E)
    (q : ∀ m, J xs [] m → Q .nx m) : RS (lopL src bd (xs.map enc) m) Q E := by
  have key : ∀ (ys done : List α) (m : M), xs = done ++ ys → J done ys m → RS (lopL src bd (ys.map enc) m) Q E := by
    intro ys
    induction ys with
    | nil =>
      intro done m he hj
      rw [List.append_nil] at he
      subst he
      have e : lopL src bd ([] : List PyData) m = .ok .nx m := by unfold lopL; rw [if_pos (hs _ _ _ hj)]
      rw [List.map_nil, e]
      exact q _ hj
    | cons x ys ih =>
      intro done m he hj
      have h1 := h done x ys m he hj
      rw [List.map_cons]
      unfold lopL
      rw [if_pos (hs _ _ _ hj)]
      cases hb : bd (enc x) m with
      | ok fl m1 =>
        rw [hb] at h1
        cases fl with
        | nx => exact ih (done ++ [x]) m1 (by simp [he]) h1
        | ct => exact ih (done ++ [x]) m1 (by simp [he]) h1
        | brk => exact h1
        | rt r => exact h1
      | rz c f m1 => rw [hb] at h1; exact h1
      | bad => rw [hb] at h1; exact h1
  exact key xs [] m rfl hj
/-! operands -/
section
variable {o : Op} {e : Env} {a b c : PyData} {as bs : List PyData}
theorem opE_v2 : opE e o [.v a, .v b] = opD o [a, b] := by cases o <;> rfl
theorem opE_vf : opE e o [.v a, .fl bs] = opD o [a, .list bs] := by cases o <;> rfl
theorem opE_fv : opE e o [.fl as, .v b] = opD o [.list as, b] := by cases o <;> rfl
theorem opE_ff : opE e o [.fl as, .fl bs] = opD o [.list as, .list bs] := by cases o <;> rfl
def slotD : Option Slot → Option PyData
  | some (.ol ds) => some (.list ds)
  | some (.od _ kvs) => some (.dict kvs)
  | some (.sh d) => some d
  | _ => none
theorem deref_pl {i : Nat} : deref e (.pl i) = slotD e[i]? := by
  cases h : e[i]? with
  | none => simp [deref, slotD, h]
  | some sl => cases sl <;> simp [deref, slotD, h]
end
def isDO : Op → Bool
  | .inn => true | .notin => true | .idx => true | .get => true | _ => false
theorem opE_no {o : Op} {e : Env} {rs : List R} (h : isDO o = false) : opE e o rs = (derefs e rs).bind fun ds => opD o ds := by
  have : dictOp e o rs = none := by cases o <;> first | rfl | (simp [isDO] at h)
  unfold opE
  rw [this]
  cases derefs e rs <;> rfl
theorem opE_n_add {e : Env} {rs : List R} : opE e .add rs = (derefs e rs).bind (opD .add) := opE_no rfl
theorem opE_n_sub {e : Env} {rs : List R} : opE e .sub rs = (derefs e rs).bind (opD .sub) := opE_no rfl
theorem opE_n_mul {e : Env} {rs : List R} : opE e .mul rs = (derefs e rs).bind (opD .mul) := opE_no rfl
theorem opE_n_fdiv {e : Env} {rs : List R} : opE e .fdiv rs = (derefs e rs).bind (opD .fdiv) := opE_no rfl
theorem opE_n_mod {e : Env} {rs : List R} : opE e .mod rs = (derefs e rs).bind (opD .mod) := opE_no rfl
theorem opE_n_pow {e : Env} {rs : List R} : opE e .pow rs = (derefs e rs).bind (opD .pow) := opE_no rfl
theorem opE_n_neg {e : Env} {rs : List R} : opE e .neg rs = (derefs e rs).bind (opD .neg) := opE_no rfl
theorem opE_n_eq {e : Env} {rs : List R} : opE e .eq rs = (derefs e rs).bind (opD .eq) := opE_no rfl
theorem opE_n_ne {e : Env} {rs : List R} : opE e .ne rs = (derefs e rs).bind (opD .ne) := opE_no rfl
theorem opE_n_lt {e : Env} {rs : List R} : opE e .lt rs = (derefs e rs).bind (opD .lt) := opE_no rfl
theorem opE_n_le {e : Env} {rs : List R} : opE e .le rs = (derefs e rs).bind (opD .le) := opE_no rfl
theorem opE_n_gt {e : Env} {rs : List R} : opE e .gt rs = (derefs e rs).bind (opD .gt) := opE_no rfl
theorem opE_n_ge {e : Env} {rs : List R} : opE e .ge rs = (derefs e rs).bind (opD .ge) := opE_no rfl
theorem opE_n_isN {e : Env} {rs : List R} : opE e .isN rs = (derefs e rs).bind (opD .isN) := opE_no rfl
theorem opE_n_notN {e : Env} {rs : List R} : opE e .notN rs = (derefs e rs).bind (opD .notN) := opE_no rfl
theorem opE_n_len {e : Env} {rs : List R} : opE e .len rs = (derefs e rs).bind (opD .len) := opE_no rfl
theorem opE_n_tuple {e : Env} {rs : List R} : opE e .tuple rs = (derefs e rs).bind (opD .tuple) := opE_no rfl
theorem opE_n_list {e : Env} {rs : List R} : opE e .list rs = (derefs e rs).bind (opD .list) := opE_no rfl
theorem opE_n_lrng {e : Env} {rs : List R} : opE e .lrng rs = (derefs e rs).bind (opD .lrng) := opE_no rfl
theorem opE_n_sorted {e : Env} {rs : List R} : opE e .sorted rs = (derefs e rs).bind (opD .sorted) := opE_no rfl
theorem opE_n_abs {e : Env} {rs : List R} : opE e .abs rs = (derefs e rs).bind (opD .abs) := opE_no rfl
theorem opE_n_min2 {e : Env} {rs : List R} : opE e .min2 rs = (derefs e rs).bind (opD .min2) := opE_no rfl
theorem opE_n_max2 {e : Env} {rs : List R} : opE e .max2 rs = (derefs e rs).bind (opD .max2) := opE_no rfl
theorem opE_n_min1 {e : Env} {rs : List R} : opE e .min1 rs = (derefs e rs).bind (opD .min1) := opE_no rfl
theorem opE_n_max1 {e : Env} {rs : List R} : opE e .max1 rs = (derefs e rs).bind (opD .max1) := opE_no rfl
theorem opE_n_sum {e : Env} {rs : List R} : opE e .sum rs = (derefs e rs).bind (opD .sum) := opE_no rfl
theorem opE_n_any {e : Env} {rs : List R} : opE e .any rs = (derefs e rs).bind (opD .any) := opE_no rfl
theorem opE_n_all {e : Env} {rs : List R} : opE e .all rs = (derefs e rs).bind (opD .all) := opE_no rfl
theorem opE_n_int {e : Env} {rs : List R} : opE e .int rs = (derefs e rs).bind (opD .int) := opE_no rfl
theorem opE_n_str {e : Env} {rs : List R} : opE e .str rs = (derefs e rs).bind (opD .str) := opE_no rfl
theorem opE_n_repr {e : Env} {rs : List R} : opE e .repr rs = (derefs e rs).bind (opD .repr) := opE_no rfl
theorem opE_n_not {e : Env} {rs : List R} : opE e .not rs = (derefs e rs).bind (opD .not) := opE_no rfl
theorem opE_n_idi {e : Env} {rs : List R} : opE e .idi rs = (derefs e rs).bind (opD .idi) := opE_no rfl
theorem opE_n_rev {e : Env} {rs : List R} : opE e .rev rs = (derefs e rs).bind (opD .rev) := opE_no rfl
theorem opE_n_sl {e : Env} {rs : List R} {a b : Bool} : opE e (.sl a b) rs = (derefs e rs).bind (opD (.sl a b)) := opE_no rfl
theorem opE_n_isi {e : Env} {rs : List R} {k : Nat} : opE e (.isi k) rs = (derefs e rs).bind (opD (.isi k)) := opE_no rfl
theorem opE_n_g {e : Env} {rs : List R} {k : Nat} : opE e (.g k) rs = (derefs e rs).bind (opD (.g k)) := opE_no rfl
/-- asked of a slot -/
noncomputable def pidx : Option Slot → PyData → Option R
  | some (.ol ds), a => idxD [.list ds, a]
  | some (.sh d), a => idxD [d, a]
  | some (.od t kvs), a => match (if keyOk t a = true then (look kvs a).map R.v else none) with
    | some r => some r
    | none => idxD [.dict kvs, a]
  | _, _ => none
noncomputable def pinn : Option Slot → PyData → Option R
  | some (.ol ds), a => inD [a, .list ds]
  | some (.sh d), a => inD [a, d]
  | some (.od t kvs), a => match (if keyOk t a = true then some (R.v (.bool (look kvs a).isSome)) else none) with
    | some r => some r
    | none => inD [a, .dict kvs]
  | _, _ => none
noncomputable def pnin : Option Slot → PyData → Option R
  | some (.ol ds), a => notinD [a, .list ds]
  | some (.sh d), a => notinD [a, d]
  | some (.od t kvs), a => match (if keyOk t a = true then some (R.v (.bool (!(look kvs a).isSome))) else none) with
    | some r => some r
    | none => notinD [a, .dict kvs]
  | _, _ => none
section
variable {e : Env} {a : PyData} {i : Nat} {ds : List PyData} {t : Bool} {kvs : List (PyData × PyData)}
theorem opE_idxp : opE e .idx [.pl i, .v a] = pidx e[i]? a := by
  unfold opE dictOp
  simp only [derefs, deref]
  cases h : e[i]? with
  | none => rfl
  | some sl => cases sl <;> rfl
theorem opE_inp : opE e .inn [.v a, .pl i] = pinn e[i]? a := by
  unfold opE dictOp
  simp only [derefs, deref]
  cases h : e[i]? with
  | none => rfl
  | some sl => cases sl <;> rfl
theorem opE_notinp : opE e .notin [.v a, .pl i] = pnin e[i]? a := by
  unfold opE dictOp
  simp only [derefs, deref]
  cases h : e[i]? with
  | none => rfl
  | some sl => cases sl <;> rfl
theorem pidx_ol : pidx (some (.ol ds)) a = idxD [.list ds, a] := nr rfl
theorem pinn_ol : pinn (some (.ol ds)) a = inD [a, .list ds] := nr rfl
theorem pnin_ol : pnin (some (.ol ds)) a = notinD [a, .list ds] := nr rfl
end
def olAt : Option Slot → Option (List PyData)
  | some (.ol ds) => some ds
  | _ => none
section
variable {i j : Nat} {r : R} {m : M} {k : Int} {zs : List PyData} {Q : R → M → Prop} {E : Nat → Option PyData → M → Prop}
theorem M_app : RS (mutD .app i [r] m) Q E = OS (esc m.e r) fun p => OS (olAt p.2[i]?) fun ds => ds.length < LIM ∧ Q (.v .none) ⟨p.2.set i (.ol (ds ++ [p.1])), m.s⟩ := by
  unfold mutD
  simp only
  cases esc m.e r with
  | none => rfl
  | some p =>
    obtain ⟨d, e⟩ := p
    simp only [OS_some]
    cases e[i]? with
    | none => rfl
    | some sl => cases sl with
      | ol ds =>
        simp only [olAt, OS_some]
        by_cases h : ds.length < LIM <;> simp [h, RS]
      | _ => rfl
theorem M_pop : RS (mutD .pop i [] m) Q E = OS (olAt m.e[i]?) fun ds => OS ds[ds.length - 1]? fun d => Q (.v d) ⟨m.e.set i (.ol ds.dropLast), m.s⟩ := by
  unfold mutD
  simp only
  cases m.e[i]? with
  | none => rfl
  | some sl => cases sl with
    | ol ds =>
      simp only [olAt, OS_some]
      cases ds[ds.length - 1]? <;> rfl
    | _ => rfl
theorem M_popAt : RS (mutD .popAt i [.v (.int k)] m) Q E = OS (olAt m.e[i]?) fun ds => OS (L2.ixN ds.length k) fun j => OS ds[j]? fun d => Q (.v d) ⟨m.e.set i (.ol (ds.eraseIdx j)), m.s⟩ := by
  unfold mutD
  simp only
  cases m.e[i]? with
  | none => rfl
  | some sl => cases sl with
    | ol ds =>
      simp only [olAt, OS_some]
      cases L2.ixN ds.length k with
      | none => rfl
      | some j =>
        simp only [OS_some]
        cases ds[j]? <;> rfl
    | _ => rfl
theorem M_ext : RS (mutD .ext i [.fl zs] m) Q E = OS (olAt m.e[i]?) fun ds => ds.length + zs.length ≤ LIM ∧ Q (.v .none) ⟨m.e.set i (.ol (ds ++ zs)), m.s⟩ := by
  unfold mutD
  simp only
  cases m.e[i]? with
  | none => rfl
  | some sl => cases sl with
    | ol ds =>
      simp only [olAt, OS_some]
      by_cases h : ds.length + zs.length ≤ LIM <;> simp [h, RS]
    | _ => rfl
theorem M_ins {d : PyData} : RS (mutD .ins i [.v (.int k), .v d] m) Q E = OS (olAt m.e[i]?) fun ds => (0 ≤ k ∧ k < 2 ^ 62 ∧ ds.length < LIM) ∧ Q (.v .none) ⟨m.e.set i (.ol (ds.take k.toNat ++ [d] ++ ds.drop k.toNat)), m.s⟩ := by
  unfold mutD
  simp only
  cases m.e[i]? with
  | none => rfl
  | some sl => cases sl with
    | ol ds =>
      simp only [olAt, OS_some]
      by_cases h : 0 ≤ k ∧ k < 2 ^ 62 ∧ ds.length < LIM
      · rw [if_pos h]; simp only [RS_ok, h, and_self, true_and]
      · rw [if_neg h]; simp only [h, false_and]; rfl
    | _ => rfl
theorem M_rem : RS (mutD .rem i [.v (.int k)] m) Q E = OS (olAt m.e[i]?) fun ds => OS (toInts ds) fun ns => k ∈ ns ∧ Q (.v .none) ⟨m.e.set i (.ol ((ns.erase k).map .int)), m.s⟩ := by
  unfold mutD
  simp only
  cases m.e[i]? with
  | none => rfl
  | some sl => cases sl with
    | ol ds =>
      simp only [olAt, OS_some]
      cases toInts ds with
      | none => rfl
      | some ns =>
        simp only [OS_some]
        by_cases h : k ∈ ns <;> simp [h, RS]
    | _ => rfl
end
theorem lim0 : (0 ≤ LIM) = True := eq_true (by decide)
theorem lim1 : (1 ≤ LIM) = True := eq_true (by decide)
theorem lim2 : (2 ≤ LIM) = True := eq_true (by decide)
theorem lim3 : (3 ≤ LIM) = True := eq_true (by decide)
theorem lim4 : (4 ≤ LIM) = True := eq_true (by decide)
theorem lim5 : (5 ≤ LIM) = True := eq_true (by decide)
theorem lim6 : (6 ≤ LIM) = True := eq_true (by decide)
theorem lim7 : (7 ≤ LIM) = True := eq_true (by decide)
theorem lim8 : (8 ≤ LIM) = True := eq_true (by decide)
theorem lim9 : (9 ≤ LIM) = True := eq_true (by decide)
theorem lim10 : (10 ≤ LIM) = True := eq_true (by decide)
theorem lim11 : (11 ≤ LIM) = True := eq_true (by decide)
theorem lim12 : (12 ≤ LIM) = True := eq_true (by decide)
theorem lim17 : (17 ≤ LIM) = True := eq_true (by decide)
theorem lim26 : (26 ≤ LIM) = True := eq_true (by decide)
def B62 (j : Int) : Prop := -(2 ^ 62) ≤ j ∧ j < 2 ^ 62
theorem B62.of {j : Int} (h : -1000000000 ≤ j) (h' : j ≤ 1000000000) : B62 j := ⟨by omega, by omega⟩
/-- 0, 1, .. -/
def rI (j : Int) : List Int := (List.range j.toNat).map fun (k : Nat) => (k : Int)
def rI2 (i j : Int) : List Int := (List.range (j - i).toNat).map fun (k : Nat) => i + (k : Int)
theorem mem_rI {i j : Int} : i ∈ rI j ↔ 0 ≤ i ∧ i < j := by
  unfold rI
  rw [List.mem_map]
  constructor
  · rintro ⟨k, hk, rfl⟩
    have := List.mem_range.mp hk
    omega
  · rintro ⟨h1, h2⟩
    exact ⟨i.toNat, List.mem_range.mpr (by omega), by omega⟩
theorem rI_len {j : Int} : (rI j).length = j.toNat := by simp [rI]
theorem rng_1 {j : Int} {Q : List PyData → Prop} : OS (rngD [.v (.int j)]) Q = (B62 j ∧ Q ((rI j).map .int)) := by
  refine (OS_ite (c := -(2 ^ 62) ≤ j ∧ j < 2 ^ 62) (a := (List.range j.toNat).map fun (k : Nat) => .int (0 + (k : Int))) (Q := Q)).trans ?_
  have : ((List.range j.toNat).map fun (k : Nat) => PyData.int (0 + (k : Int))) = (rI j).map .int := by
    unfold rI; rw [List.map_map]; refine List.map_congr_left fun k _ => ?_
    show PyData.int (0 + (k : Int)) = .int k
    rw [Int.zero_add]
  rw [this]; rfl
theorem rng_2 {i j : Int} {Q : List PyData → Prop} : OS (rngD [.v (.int i), .v (.int j)]) Q = ((B62 i ∧ B62 j) ∧ Q ((rI2 i j).map .int)) := by
  refine (OS_ite (c := -(2 ^ 62) ≤ i ∧ i < 2 ^ 62 ∧ -(2 ^ 62) ≤ j ∧ j < 2 ^ 62) (a := (List.range (j - i).toNat).map fun (k : Nat) => .int (i + (k : Int))) (Q := Q)).trans ?_
  have : ((List.range (j - i).toNat).map fun (k : Nat) => PyData.int (i + (k : Int))) = (rI2 i j).map .int := by
    unfold rI2; rw [List.map_map]; rfl
  rw [this]
  unfold B62
  rw [eq_iff_iff]
  constructor
  · rintro ⟨⟨h1, h2, h3, h4⟩, h⟩; exact ⟨⟨⟨h1, h2⟩, h3, h4⟩, h⟩
  · rintro ⟨⟨⟨h1, h2⟩, h3, h4⟩, h⟩; exact ⟨⟨h1, h2, h3, h4⟩, h⟩
theorem lrng_1 {j : Int} {Q : R → Prop} : OS (lrngD [.int j]) Q = ((0 ≤ j ∧ j ≤ 16777216) ∧ Q (.fl ((rI j).map .int))) := by
  refine (OS_ite (c := 0 ≤ j ∧ j ≤ 16777216) (Q := Q)).trans ?_
  have : ((List.range j.toNat).map fun (k : Nat) => PyData.int (0 + (k : Int))) = (rI j).map .int := by
    unfold rI; rw [List.map_map]; refine List.map_congr_left fun k _ => ?_
    show PyData.int (0 + (k : Int)) = .int k
    rw [Int.zero_add]
  rw [this]
theorem pick_k {l : List PyData} {i : Int} {d : PyData} (h0 : 0 ≤ i) (h : l[i.toNat]? = some d) : pick l i = some d := by
  have e : ((i.toNat : Nat) : Int) = i := by omega
  rw [← e]; exact pick_nat h
theorem pick_0 {a : PyData} {l : List PyData} : pick (a :: l) 0 = some a := pick_k (by decide) rfl
theorem pick_1 {a b : PyData} {l : List PyData} : pick (a :: b :: l) 1 = some b := pick_k (by decide) rfl
theorem pick_2 {a b c : PyData} {l : List PyData} : pick (a :: b :: c :: l) 2 = some c := pick_k (by decide) rfl
theorem pick_3 {a b c d : PyData} {l : List PyData} : pick (a :: b :: c :: d :: l) 3 = some d := pick_k (by decide) rfl
/-! slices -/
theorem cut_lo {α : Type} {xs : List α} {k : Int} (h : 0 ≤ k) : cutD xs (some k) none = xs.drop k.toNat := by
  obtain ⟨n, rfl⟩ : ∃ n : Nat, k = n := ⟨k.toNat, by omega⟩
  unfold cutD
  rw [HT.sIx_nat, HT.sIx_none, Int.toNat_natCast]
  by_cases h : n ≤ xs.length
  · rw [Nat.min_eq_left h, List.take_of_length_le (by rw [List.length_drop]; exact Nat.le_refl _)]
  · rw [Nat.min_eq_right (by omega), List.drop_of_length_le (Nat.le_refl _), List.drop_of_length_le (by omega)]; simp
theorem cut_1 {α : Type} {xs : List α} : cutD xs (some 1) none = xs.drop 1 := cut_lo (by decide)
/-- the last one -/
theorem cut_m1 {α : Type} {xs : List α} : cutD xs (some (-1)) none = xs.drop (xs.length - 1) := by
  unfold cutD HT.sIx
  simp only
  rw [if_pos (by decide)]
  have e : ((-1 : Int) + (xs.length : Int)).toNat = xs.length - 1 := by omega
  rw [e, List.take_of_length_le (by rw [List.length_drop]; exact Nat.le_refl _)]
theorem zip_ints (xs ys : List Int) : zipD [xs.map .int, ys.map .int] = (xs.zip ys).map pr := by
  show List.zipWith (fun a b => PyData.tuple [a, b]) (xs.map .int) (ys.map .int) = _
  induction xs generalizing ys with
  | nil => rfl
  | cons x xs ih => cases ys with
    | nil => rfl
    | cons y ys => simp only [List.map_cons, List.zipWith_cons_cons, List.zip_cons_cons, ih]; rfl
theorem truth_none : truth .none = (false) := nr rfl
theorem truth_bool {a : Bool} : truth (.bool a) = (a) := nr rfl
theorem truth_int {a : Int} : truth (.int a) = ((a != 0)) := nr rfl
theorem truth_str {a : Str} : truth (.str a) = (((a.length : Int) != 0)) := nr rfl
theorem truth_list {a : List PyData} : truth (.list a) = (!a.isEmpty) := nr rfl
theorem truth_tuple {a : List PyData} : truth (.tuple a) = (!a.isEmpty) := nr rfl
theorem truth_dict {a : List (PyData × PyData)} : truth (.dict a) = (!a.isEmpty) := nr rfl
theorem strFits_none : strFits .none = true := nr rfl
theorem strFits_bool {a : Bool} : strFits (.bool a) = true := nr rfl
theorem strFits_int {a : Int} : strFits (.int a) = true := nr rfl
theorem strFits_str {a : Str} : strFits (.str a) = decide (a.length ≤ LIM) := nr rfl
theorem strFits_list {a : List PyData} : strFits (.list a) = true := nr rfl
theorem strFits_tuple {a : List PyData} : strFits (.tuple a) = true := nr rfl
theorem strFits_dict {a : List (PyData × PyData)} : strFits (.dict a) = false := nr rfl
theorem slR_sh {i : Nat} {d : PyData} : slR i (some (.sh d)) = some (.v d) := nr rfl
theorem slR_ol {i : Nat} {d : List PyData} : slR i (some (.ol d)) = some (.pl i) := nr rfl
theorem slR_od {i : Nat} {t : Bool} {d : List (PyData × PyData)} : slR i (some (.od t d)) = some (.pl i) := nr rfl
theorem slR_dk {i k : Nat} : slR i (some (.dk k)) = some (.dk k) := nr rfl
theorem vOf_v {d : PyData} : vOf (.v d) = some d := nr rfl
theorem bOf_b {d : Bool} : bOf (.v (.bool d)) = some d := nr rfl
theorem noPD_v {d : PyData} : noPD (.v d) = true := nr rfl
theorem noPD_fl {d : List PyData} : noPD (.fl d) = true := nr rfl
theorem noPD_fd {t : Bool} {d : List (PyData × PyData)} : noPD (.fd t d) = true := nr rfl
theorem deref_v {e : Env} {d : PyData} : deref e (.v d) = some d := nr rfl
theorem deref_fl {e : Env} {d : List PyData} : deref e (.fl d) = some (.list d) := nr rfl
theorem deref_fd {e : Env} {t : Bool} {d : List (PyData × PyData)} : deref e (.fd t d) = some (.dict d) := nr rfl
theorem slotD_ol {d : List PyData} : slotD (some (.ol d)) = some (.list d) := nr rfl
theorem slotD_od {t : Bool} {d : List (PyData × PyData)} : slotD (some (.od t d)) = some (.dict d) := nr rfl
theorem slotD_sh {d : PyData} : slotD (some (.sh d)) = some d := nr rfl
theorem derefs_nil {e : Env} : derefs e [] = some [] := nr rfl
theorem derefs_c {e : Env} {r : R} {rs : List R} : derefs e (r :: rs) = (deref e r).bind fun d => (derefs e rs).bind fun ds => some (d :: ds) := by
  show (match deref e r, derefs e rs with
    | some d, some ds => some (d :: ds)
    | _, _ => none) = _
  cases deref e r with
  | none => rfl
  | some d => cases derefs e rs <;> rfl
theorem esc_v {e : Env} {d : PyData} : esc e (.v d) = some (d, e) := nr rfl
theorem esc_fl {e : Env} {d : List PyData} : esc e (.fl d) = some (.list d, e) := nr rfl
theorem esc_fd {e : Env} {t : Bool} {d : List (PyData × PyData)} : esc e (.fd t d) = some (.dict d, e) := nr rfl
def escS (e : Env) (i : Nat) : Option Slot → Option (PyData × Env)
  | some (.ol ds) => some (.list ds, e.set i (.sh (.list ds)))
  | some (.od _ kvs) => some (.dict kvs, e.set i (.sh (.dict kvs)))
  | some (.sh d) => some (d, e)
  | _ => none
theorem esc_pl {e : Env} {i : Nat} : esc e (.pl i) = escS e i e[i]? := by
  cases h : e[i]? with
  | none => simp [esc, escS, h]
  | some sl => cases sl <;> simp [esc, escS, h]
theorem escS_ol {e : Env} {i : Nat} {d : List PyData} : escS e i (some (.ol d)) = some (.list d, e.set i (.sh (.list d))) := nr rfl
theorem escS_od {e : Env} {i : Nat} {t : Bool} {d : List (PyData × PyData)} : escS e i (some (.od t d)) = some (.dict d, e.set i (.sh (.dict d))) := nr rfl
theorem escS_sh {e : Env} {i : Nat} {d : PyData} : escS e i (some (.sh d)) = some (d, e) := nr rfl
theorem escs_nil {e : Env} : escs e [] = some ([], e) := nr rfl
theorem escs_c {e : Env} {r : R} {rs : List R} : escs e (r :: rs) = (esc e r).bind fun p => (escs p.2 rs).bind fun q => some (p.1 :: q.1, q.2) := by
  show (match esc e r with
    | some (d, e1) => match escs e1 rs with
      | some (ds, e2) => some (d :: ds, e2)
      | none => none
    | none => none) = _
  cases esc e r with
  | none => rfl
  | some p =>
    obtain ⟨d, e1⟩ := p
    show (match escs e1 rs with
      | some (ds, e2) => some (d :: ds, e2)
      | none => none) = (escs e1 rs).bind _
    cases escs e1 rs <;> rfl
theorem toArgs_nil {e : Env} : toArgs e [] = some [] := nr rfl
theorem toArgs_dk {e : Env} {rs : List R} {k : Nat} : toArgs e (.dk k :: rs) = (toArgs e rs).map (.dk k :: ·) := nr rfl
def shA (d : PyData) (o : Option (List Arg)) : Option (List Arg) := o.map (.sh d :: ·)
theorem toArgs_v {e : Env} {d : PyData} {rs : List R} : toArgs e (.v d :: rs) = (toArgs e rs).map (.sh d :: ·) := by
  show (match deref e (.v d), toArgs e rs with
    | some d, some ds => some (Arg.sh d :: ds)
    | _, _ => none) = _
  cases toArgs e rs <;> rfl
theorem toArgs_fl {e : Env} {d : List PyData} {rs : List R} : toArgs e (.fl d :: rs) = (toArgs e rs).map (.sh (.list d) :: ·) := by
  show (match deref e (.fl d), toArgs e rs with
    | some d, some ds => some (Arg.sh d :: ds)
    | _, _ => none) = _
  cases toArgs e rs <;> rfl
theorem toArgs_fd {e : Env} {t : Bool} {d : List (PyData × PyData)} {rs : List R} : toArgs e (.fd t d :: rs) = (toArgs e rs).map (.sh (.dict d) :: ·) := by
  show (match deref e (.fd t d), toArgs e rs with
    | some d, some ds => some (Arg.sh d :: ds)
    | _, _ => none) = _
  cases toArgs e rs <;> rfl
theorem toArgs_pl {e : Env} {i : Nat} {rs : List R} : toArgs e (.pl i :: rs) = (slotD e[i]?).bind fun d => (toArgs e rs).map (.sh d :: ·) := by
  show (match deref e (.pl i), toArgs e rs with
    | some d, some ds => some (Arg.sh d :: ds)
    | _, _ => none) = _
  rw [deref_pl]
  cases slotD e[i]? with
  | none => rfl
  | some d => cases toArgs e rs <;> rfl
theorem setR_v {e : Env} {i : Nat} {d : PyData} : setR i (.v d) e = some (e.set i (.sh d)) := nr rfl
theorem setR_fl {e : Env} {i : Nat} {d : List PyData} : setR i (.fl d) e = some (e.set i (.ol d)) := nr rfl
theorem setR_fd {e : Env} {i : Nat} {t : Bool} {d : List (PyData × PyData)} : setR i (.fd t d) e = some (e.set i (.od t d)) := nr rfl
theorem setR_dk {e : Env} {i k : Nat} : setR i (.dk k) e = some (e.set i (.dk k)) := nr rfl
theorem setR_pl {e : Env} {i j : Nat} : setR i (.pl j) e = (escS e j e[j]?).map fun p => p.2.set i (.sh p.1) := by
  show (match esc e (.pl j) with
    | some (d, e1) => some (e1.set i (.sh d))
    | none => none) = _
  rw [esc_pl]
  cases escS e j e[j]? <;> rfl
theorem setRs_nil {e : Env} : setRs [] [] e = some e := nr rfl
theorem setRs_c {e : Env} {i : Nat} {is : List Nat} {r : R} {rs : List R} : setRs (i :: is) (r :: rs) e = (setR i r e).bind fun e1 => setRs is rs e1 := by
  show (match setR i r e with
    | some e1 => setRs is rs e1
    | none => none) = _
  cases setR i r e <;> rfl
theorem items_l {e : Env} {d : List PyData} : items e (.v (.list d)) = some (d, none) := nr rfl
theorem items_t {e : Env} {d : List PyData} : items e (.v (.tuple d)) = some (d, none) := nr rfl
theorem items_fl {e : Env} {d : List PyData} : items e (.fl d) = some (d, none) := nr rfl
def itS (i : Nat) : Option Slot → Option (List PyData × Src)
  | some (.ol ds) => some (ds, some (i, ds))
  | some (.sh (.list ds)) => some (ds, none)
  | _ => none
theorem items_pl {e : Env} {i : Nat} : items e (.pl i) = itS i e[i]? := by
  cases h : e[i]? with
  | none => simp [items, itS, h]
  | some sl => cases sl with
    | sh d => cases d <;> simp [items, itS, h]
    | _ => simp [items, itS, h]
theorem itS_ol {i : Nat} {d : List PyData} : itS i (some (.ol d)) = some (d, some (i, d)) := nr rfl
theorem itS_sh {i : Nat} {d : List PyData} : itS i (some (.sh (.list d))) = some (d, none) := nr rfl
theorem isOwn_ol {d : List PyData} : isOwn (some (.ol d)) = true := nr rfl
theorem isOwn_od {t : Bool} {d : List (PyData × PyData)} : isOwn (some (.od t d)) = true := nr rfl
theorem isOwn_sh {d : PyData} : isOwn (some (.sh d)) = false := nr rfl
theorem isOwn_un : isOwn (some .un) = false := nr rfl
theorem isOwn_dk {k : Nat} : isOwn (some (.dk k)) = false := nr rfl
theorem isOwn_no : isOwn none = false := nr rfl
theorem olAt_ol {d : List PyData} : olAt (some (.ol d)) = some d := nr rfl
theorem finS_ol {d : List PyData} : finS (some (.ol d)) = some (.fl d) := nr rfl
theorem finS_od {t : Bool} {d : List (PyData × PyData)} : finS (some (.od t d)) = some (.fd t d) := nr rfl
theorem finS_sh {d : PyData} : finS (some (.sh d)) = some (.v d) := nr rfl
theorem zipR_tt {a b : List PyData} : zipR [.v (.tuple a), .v (.tuple b)] = some (a, b) := nr rfl
theorem zipR_ll {a b : List PyData} : zipR [.v (.list a), .v (.list b)] = some (a, b) := nr rfl
theorem zipR_ff {a b : List PyData} : zipR [.fl a, .fl b] = some (a, b) := nr rfl
theorem zipR_lf {a b : List PyData} : zipR [.v (.list a), .fl b] = some (a, b) := nr rfl
theorem zipR_fl {a b : List PyData} : zipR [.fl a, .v (.list b)] = some (a, b) := nr rfl
theorem zipL_ll {a b : List PyData} : zipL [.v (.list a), .v (.list b)] = some (a, b) := nr rfl
theorem zipL_ff {a b : List PyData} : zipL [.fl a, .fl b] = some (a, b) := nr rfl
theorem zipL_lf {a b : List PyData} : zipL [.v (.list a), .fl b] = some (a, b) := nr rfl
theorem zipL_fl {a b : List PyData} : zipL [.fl a, .v (.list b)] = some (a, b) := nr rfl
theorem noPl_nil : noPl [] = true := nr rfl
theorem noPl_v {d : PyData} {rs : List R} : noPl (.v d :: rs) = noPl rs := nr rfl
theorem noPl_fl {d : List PyData} {rs : List R} : noPl (.fl d :: rs) = noPl rs := nr rfl
theorem noPl_fd {t : Bool} {d : List (PyData × PyData)} {rs : List R} : noPl (.fd t d :: rs) = noPl rs := nr rfl
theorem noPl_dk {rs : List R} {k : Nat} : noPl (.dk k :: rs) = noPl rs := nr rfl
theorem hasPl_nil : hasPl [] = false := nr rfl
theorem hasPl_v {d : PyData} {rs : List R} : hasPl (.v d :: rs) = hasPl rs := nr rfl
theorem hasPl_fl {d : List PyData} {rs : List R} : hasPl (.fl d :: rs) = hasPl rs := nr rfl
theorem hasPl_fd {t : Bool} {d : List (PyData × PyData)} {rs : List R} : hasPl (.fd t d :: rs) = hasPl rs := nr rfl
theorem hasPl_dk {rs : List R} {k : Nat} : hasPl (.dk k :: rs) = hasPl rs := nr rfl
theorem hasPl_pl {i : Nat} {rs : List R} : hasPl (.pl i :: rs) = true := nr rfl
theorem flatR_v {d : PyData} : flatR (.v d) = flat d := nr rfl
theorem bind1_nm {e : Env} {i : Nat} {d : PyData} : bind1 e (.nm i) d = some (e.set i (.sh d)) := by simp [bind1]
theorem bind1_tp {e : Env} {ts : Tgs} {ds : List PyData} : bind1 e (.tp ts) (.tuple ds) = bindL e ts ds := by simp [bind1]
theorem bind1_tl {e : Env} {ts : Tgs} {ds : List PyData} : bind1 e (.tp ts) (.list ds) = bindL e ts ds := by simp [bind1]
theorem bindL_nil {e : Env} : bindL e .nil [] = some e := by simp [bindL]
theorem bindL_c {e : Env} {t : Tg} {ts : Tgs} {d : PyData} {ds : List PyData} : bindL e (.cons t ts) (d :: ds) = (bind1 e t d).bind fun e1 => bindL e1 ts ds := by
  rw [bindL]
  cases bind1 e t d <;> rfl

theorem nodup_len {α : Type} [DecidableEq α] : ∀ {xs ys : List α}, xs.Nodup → (∀ x ∈ xs, x ∈ ys) → xs.length ≤ ys.length
  | [], _, _, _ => Nat.zero_le _
  | x :: xs, ys, nd, h => by
    have hx := h x List.mem_cons_self
    obtain ⟨n1, n2⟩ := List.nodup_cons.mp nd
    have := nodup_len (xs := xs) (ys := ys.erase x) n2 fun y hy => (List.mem_erase_of_ne (fun z => by subst z; exact n1 hy)).mpr (h y (List.mem_cons_of_mem _ hy))
    rw [List.length_erase_of_mem hx] at this
    have := List.length_pos_of_mem hx
    rw [List.length_cons]; omega
theorem flat_b {b : Bool} : flat (.bool b) = true := nr rfl
theorem flat_i {b : Int} : flat (.int b) = true := nr rfl
theorem flat_s {b : Str} : flat (.str b) = true := nr rfl
theorem flat_n : flat .none = true := nr rfl
theorem enum_map {α : Type} {f : α → PyData} {xs : List α} : enumD 0 (xs.map f) = (xs.zipIdx).map fun p => .tuple [.int (p.2 : Int), f p.1] := by
  unfold enumD
  rw [List.zipIdx_map, List.map_map]
  refine List.map_congr_left fun p _ => ?_
  show PyData.tuple [.int (0 + (p.2 : Int)), f p.1] = _
  rw [Int.zero_add]
theorem cast0 : ((0 : Nat) : Int) = 0 := nr rfl
theorem cast1 : ((1 : Nat) : Int) = 1 := nr rfl
theorem cast2 : ((2 : Nat) : Int) = 2 := nr rfl
theorem cast3 : ((3 : Nat) : Int) = 3 := nr rfl
theorem cast4 : ((4 : Nat) : Int) = 4 := nr rfl
theorem cast5 : ((5 : Nat) : Int) = 5 := nr rfl
theorem cast6 : ((6 : Nat) : Int) = 6 := nr rfl
theorem cast7 : ((7 : Nat) : Int) = 7 := nr rfl
theorem cast8 : ((8 : Nat) : Int) = 8 := nr rfl
theorem cast9 : ((9 : Nat) : Int) = 9 := nr rfl
theorem cast10 : ((10 : Nat) : Int) = 10 := nr rfl
theorem cast11 : ((11 : Nat) : Int) = 11 := nr rfl
theorem cast12 : ((12 : Nat) : Int) = 12 := nr rfl
end PV

/-! PV: dicts, plainly -/
namespace PV
open PySem
section
variable {κ α : Type} [DecidableEq κ]
def aget (st : List (κ × α)) (k : κ) : Option α := (st.find? fun p => decide (p.1 = k)).map (·.2)
def enP (f : κ → PyData) (g : α → PyData) (p : κ × α) : PyData × PyData := (f p.1, g p.2)
variable {f : κ → PyData} {g : α → PyData}
end
section
variable {α : Type} {g : α → PyData}
/-- a dict from settings -/
abbrev dT (g : α → PyData) (st : List (List Int × α)) : List (PyData × PyData) := st.map (enP tuI g)
/-- a dict from whole numbers -/
abbrev dI (g : α → PyData) (st : List (Int × α)) : List (PyData × PyData) := st.map (enP .int g)
end
noncomputable def pget : Option Slot → PyData → Option R
  | some (.sh d), a => getD1 [d, a]
  | some (.od t kvs), a => match (if keyOk t a = true then some (R.v ((look kvs a).getD .none)) else none) with
    | some r => some r
    | none => getD1 [.dict kvs, a]
  | _, _ => none
end PV

/-! PV: dict comprehensions; dicts as sets of numbers -/
namespace PV
open PySem Classical
/-- a dict that stands for a set of numbers -/
def tk (x : Int) : PyData × PyData := (.int x, .bool true)
def addS (ks : List Int) (x : Int) : List Int := if x ∈ ks then ks else ks ++ [x]
def addSs (ks more : List Int) : List Int := more.foldl addS ks
end PV

/-! PV: sorted(set(xs)), xs a list of tuples of whole numbers -/
namespace PV
open PySem PySem.Spec PyProof.Rows L2 NtL
/-- strictly ascending -/
abbrev AscL (l : List (List Int)) : Prop := l.Pairwise fun a b => leL a b = true ∧ a ≠ b
theorem AscL.nd {l : List (List Int)} (h : AscL l) : l.Nodup := h.imp fun z => z.2
def rSortS (K : PySem.W.Frag) (P : Program) (w : World) : List V → Hp → VK → Prop := fun vs H Q => ∃ (a : Addr) (L : List (Addr × List Int)), vs = [V.ref a] ∧ H a = some (SetTO P w a L) ∧ (∀ p ∈ L, SqT K H p.1 (p.2.map V.int) ∧ Dp K H (.ref p.1) (tuI p.2)) ∧ ((∀ p ∈ L, p.2 ≠ []) ∨ ∀ p ∈ L, ∀ q ∈ L, p = q) ∧
  ∀ (L' : List (Addr × List Int)) (p : Addr), L'.Perm L → AscL (L'.map (·.2)) → L'.length < 64 → H p = none → Q (.ref p) (upd H p (.lst (L'.map fun q => V.ref q.1)))
def rST (K : PySem.W.Frag) (P : Program) (w : World) : V → Hp → VK → Prop := fun x H Q => ∃ (O : AP) (a : Addr) (ks : List (Addr × List Int)), x = .ref a ∧ (SqL K H a (ks.map fun p => V.ref p.1) ∨ SqT K H a (ks.map fun p => V.ref p.1)) ∧ (∀ p ∈ ks, Sh K O H (.ref p.1) (tuI p.2)) ∧ ks.length < 64 ∧ ((∀ p ∈ ks, p.2 ≠ []) ∨ ks.length ≤ 1) ∧
  ∀ p L q (L' : List (Addr × List Int)), H p = none → upd H p (SetTO P w p L) q = none → AscL (L'.map (·.2)) → L'.length < 64 → (∀ r ∈ L', r ∈ ks) → (∀ r ∈ ks, r.2 ∈ L'.map (·.2)) → Q (.ref q) (upd (upd H p (SetTO P w p L)) q (.lst (L'.map fun q => V.ref q.1)))
def rSB (K : PySem.W.Frag) (P : Program) (w : World) : V → Hp → VK → Prop := fun x H Q => rSS K w x H Q ∨ rST K P w x H Q
def rSetB (K : PySem.W.Frag) (P : Program) (w : World) : List V → Hp → VK → Prop := fun xs H Q => rSetTI K w xs H Q ∨ rSetOfT K P w xs H Q ∨ rSetOfTT K P w xs H Q
def rSortX (K : PySem.W.Frag) (P : Program) (w : World) : List V → Hp → VK → Prop := fun xs H Q => rSortedSet w xs H Q ∨ rSortS K P w xs H Q
section
variable {X : Cx} {xc : XC} {W : WX} {cl : Nat → List Arg → DS → FRes} {k : Nat} {a : Expr} {ea : PV.E} {p p2 pos pos2 : Pos}
end
end PV

/-! PV: len(set(t)), t a tuple of whole numbers -/
namespace PV
open PySem PySem.Spec PyProof.Rows L2
def rLenS (w : World) : List V → Hp → VK → Prop := fun vs H Q => ∃ (a : Addr) (S : Int → Bool) (n : Nat), vs = [V.ref a] ∧ H a = some (SetO w a S n) ∧ n < 64 ∧ ∀ ms : List Int, ms.Nodup → (∀ k : Int, k ∈ ms ↔ S k = true) → ms.length = n → Q (.int n) H
def rLS (K : PySem.W.Frag) (w : World) : V → Hp → VK → Prop := fun x H Q => ∃ (a : Addr) (ns : List Int), x = .ref a ∧ SqT K H a (ns.map V.int) ∧ ns.length < 64 ∧ ∀ p c, H p = none → Q (.int ((isd ns).length : Nat)) (upd H p (SetO w p (fun j => decide (j ∈ ns)) c))
section
variable {X : Cx} {xc : XC} {W : WX} {cl : Nat → List Arg → DS → FRes} {k : Nat} {a : Expr} {ea : PV.E} {p p2 pos pos2 : Pos}
end
end PV

/-! PV: dict(xs), xs a list of pairs with plain keys -/
namespace PV
open PySem PySem.Spec PyProof.Rows L2
def rDictP (K : PySem.W.Frag) : List V → Hp → VK → Prop := fun xs H Q => ∃ (a : Addr) (ps : List Addr) (kvs : List (Key × V)), xs = [.ref a] ∧ SqL K H a (ps.map V.ref) ∧ Paired (fun p kv => SqT K H p [kV kv.1, kv.2]) ps kvs ∧
    ∀ p, H p = none → Q (.ref p) (upd H p (.dK (mergeK [] kvs)))
section
variable {X : Cx} {xc : XC} {W : WX} {cl : Nat → List Arg → DS → FRes} {k : Nat} {e : Expr} {as : Es} {p pos : Pos}
end
end PV

/-! PV: values of any kind (dicts with plain keys too) that are shown -/
namespace PV
open PySem PySem.Spec L2

mutual
def il (N : Nat) : PyData → Bool
  | .none => true
  | .bool _ => true
  | .int i => decide (i.natAbs ≤ N)
  | .str x => x.cps.toList.all fun c => decide (c < 16 ^ 8)
  | .list xs => ilA N xs
  | .tuple xs => ilA N xs
  | .dict kvs => ilK N kvs
def ilA (N : Nat) : List PyData → Bool
  | [] => true
  | x :: xs => il N x && ilA N xs
def ilK (N : Nat) : List (PyData × PyData) → Bool
  | [] => true
  | p :: xs => il N p.1 && il N p.2 && ilK N xs
end
mutual
theorem il_mono {a b : Nat} (h : a ≤ b) : ∀ d : PyData, il a d = true → il b d = true
  | .none, _ => rfl
  | .bool _, _ => rfl
  | .int i, z => decide_eq_true (Nat.le_trans (of_decide_eq_true (show decide (i.natAbs ≤ a) = true from z)) h)
  | .str x, z => z
  | .list xs, z => il_monoA h xs z
  | .tuple xs, z => il_monoA h xs z
  | .dict kvs, z => il_monoK h kvs z
theorem il_monoA {a b : Nat} (h : a ≤ b) : ∀ xs : List PyData, ilA a xs = true → ilA b xs = true
  | [], _ => rfl
  | x :: xs, z => by
    simp only [ilA, Bool.and_eq_true] at z ⊢
    exact ⟨il_mono h x z.1, il_monoA h xs z.2⟩
theorem il_monoK {a b : Nat} (h : a ≤ b) : ∀ xs : List (PyData × PyData), ilK a xs = true → ilK b xs = true
  | [], _ => rfl
  | (k, v) :: xs, z => by
    simp only [ilK, Bool.and_eq_true] at z ⊢
    exact ⟨⟨il_mono h k z.1.1, il_mono h v z.1.2⟩, il_monoK h xs z.2⟩
end
theorem int_short {i : Int} (h : i.natAbs < 10 ^ 33) : (PyData.shown (.int i)).length ≤ 34 := by
  have e := int_text_length_le10 (k := 33) (by decide) h
  show (Str.ofString (toString i)).length ≤ 34
  rw [ofString_length]; exact e
theorem int_log {i : Int} (h : i.natAbs < 10 ^ 33) : i.natAbs.log2 < 110 := by
  by_cases z : i.natAbs = 0
  · rw [z]; decide
  · exact (Nat.log2_lt z).mpr (Nat.lt_trans h (by decide))
mutual
theorem il_ok {N : Nat} (h : N < 10 ^ 33) : ∀ d : PyData, il N d = true → d.leavesShort 34 = true ∧ d.showable = true
  | .none, _ => ⟨rfl, rfl⟩
  | .bool _, _ => ⟨rfl, rfl⟩
  | .int i, z => by
    have z : i.natAbs ≤ N := of_decide_eq_true (show decide (i.natAbs ≤ N) = true from z)
    exact ⟨decide_eq_true (int_short (by omega)), decide_eq_true (Nat.lt_trans (int_log (i := i) (by omega)) (by decide))⟩
  | .str x, z => ⟨z, rfl⟩
  | .list xs, z => il_okA h xs z
  | .tuple xs, z => il_okA h xs z
  | .dict kvs, z => il_okK h kvs z
theorem il_okA {N : Nat} (h : N < 10 ^ 33) : ∀ xs : List PyData, ilA N xs = true → PyData.leavesShortAll 34 xs = true ∧ PyData.showableAll xs = true
  | [], _ => ⟨rfl, rfl⟩
  | x :: xs, z => by
    simp only [ilA, Bool.and_eq_true] at z
    simp only [PyData.leavesShortAll, PyData.showableAll, Bool.and_eq_true]
    have a := il_ok h x z.1
    have b := il_okA h xs z.2
    exact ⟨⟨a.1, b.1⟩, a.2, b.2⟩
theorem il_okK {N : Nat} (h : N < 10 ^ 33) : ∀ xs : List (PyData × PyData), ilK N xs = true → PyData.leavesShortKv 34 xs = true ∧ PyData.showableKv xs = true
  | [], _ => ⟨rfl, rfl⟩
  | (k, v) :: xs, z => by
    simp only [ilK, Bool.and_eq_true] at z
    simp only [PyData.leavesShortKv, PyData.showableKv, Bool.and_eq_true]
    have a := il_ok h k z.1.1
    have a2 := il_ok h v z.1.2
    have b := il_okK h xs z.2
    exact ⟨⟨⟨a.1, a2.1⟩, b.1⟩, ⟨a.2, a2.2⟩, b.2⟩
end
structure Rq (N w k : Nat) (d : PyData) : Prop where
  il : il N d = true
  ok : rok d = true
  wt : d.weight ≤ w
  dp : d.depth ≤ k
/-- a row of such -/
structure RqA (N w k : Nat) (xs : List PyData) : Prop where
  il : ilA N xs = true
  ok : rokA xs = true
  wt : PyData.weightAll xs ≤ w
  dp : PyData.depthAll xs ≤ k
section
variable {N N' w k w' k' : Nat} {d : PyData} {xs ys : List PyData}
theorem Rq.mono (h : Rq N w k d) (hw : w ≤ w') (hk : k ≤ k') : Rq N w' k' d := ⟨h.il, h.ok, Nat.le_trans h.wt hw, Nat.le_trans h.dp hk⟩
theorem Rq.up (h : Rq N w k d) (hn : N ≤ N') : Rq N' w k d := ⟨il_mono hn d h.il, h.ok, h.wt, h.dp⟩
theorem RqA.mono (h : RqA N w k xs) (hw : w ≤ w') (hk : k ≤ k') : RqA N w' k' xs := ⟨h.il, h.ok, Nat.le_trans h.wt hw, Nat.le_trans h.dp hk⟩
theorem RqA.up (h : RqA N w k xs) (hn : N ≤ N') : RqA N' w k xs := ⟨il_monoA hn xs h.il, h.ok, h.wt, h.dp⟩
theorem RqA.nil : RqA N 0 0 [] := ⟨rfl, rfl, Nat.le_refl _, Nat.le_refl _⟩
theorem RqA.cons (h : Rq N w k d) (t : RqA N w' k xs) : RqA N (w + 1 + w') k (d :: xs) :=
  ⟨by simp [ilA, h.il, t.il], by simp [rokA, h.ok, t.ok], by
    show PyData.weight d + 1 + PyData.weightAll xs ≤ _
    have := h.wt; have := t.wt; omega, by
    show max (PyData.depth d) (PyData.depthAll xs) ≤ k
    have := h.dp; have := t.dp; omega⟩
theorem Rq.tupA (h : RqA N w k xs) : Rq N w (k + 1) (.tuple xs) := ⟨h.il, by simpa [rok] using h.ok, h.wt, Nat.succ_le_succ h.dp⟩
theorem Rq.listA (h : RqA N w k xs) : Rq N w (k + 1) (.list xs) := ⟨h.il, by simpa [rok] using h.ok, h.wt, Nat.succ_le_succ h.dp⟩
theorem Rq.ofT (h : Rq N w (k + 1) (.tuple xs)) : RqA N w k xs := ⟨h.il, by simpa [rok] using h.ok, h.wt, Nat.le_of_succ_le_succ h.dp⟩
theorem Rq.int {i : Int} (h : i.natAbs ≤ N) (hN : N < 10 ^ 33) : Rq N 111 0 (.int i) := ⟨decide_eq_true h, rfl, by
  show (if i == 0 then 0 else i.natAbs.log2 + 1) ≤ 111
  have := int_log (i := i) (by omega)
  split <;> omega, Nat.le_refl _⟩
theorem Rq.bool {b : Bool} : Rq N 0 0 (.bool b) := ⟨rfl, rfl, Nat.le_refl _, Nat.le_refl _⟩
theorem RqA.len (h : RqA N w k xs) : xs.length ≤ w := by
  have key : ∀ xs : List PyData, xs.length ≤ PyData.weightAll xs := by
    intro xs
    induction xs with
    | nil => exact Nat.le_refl _
    | cons x xs ih =>
      show xs.length + 1 ≤ PyData.weight x + 1 + PyData.weightAll xs
      omega
  exact Nat.le_trans (key xs) h.wt
theorem wA_app : ∀ xs ys : List PyData, PyData.weightAll (xs ++ ys) = PyData.weightAll xs + PyData.weightAll ys
  | [], ys => by simp [PyData.weightAll]
  | x :: xs, ys => by
    show PyData.weight x + 1 + PyData.weightAll (xs ++ ys) = PyData.weight x + 1 + PyData.weightAll xs + PyData.weightAll ys
    rw [wA_app xs ys]; omega
theorem iA_app : ∀ xs ys : List PyData, ilA N (xs ++ ys) = (ilA N xs && ilA N ys)
  | [], ys => by simp [ilA]
  | x :: xs, ys => by
    show ilA N (x :: (xs ++ ys)) = _
    simp only [ilA, iA_app xs ys, Bool.and_assoc]
theorem kA_app : ∀ xs ys : List PyData, rokA (xs ++ ys) = (rokA xs && rokA ys)
  | [], ys => by simp [rokA]
  | x :: xs, ys => by
    show rokA (x :: (xs ++ ys)) = _
    simp only [rokA, kA_app xs ys, Bool.and_assoc]
theorem dA_app : ∀ xs ys : List PyData, PyData.depthAll (xs ++ ys) = max (PyData.depthAll xs) (PyData.depthAll ys)
  | [], ys => by simp [PyData.depthAll]
  | x :: xs, ys => by
    show max (PyData.depth x) (PyData.depthAll (xs ++ ys)) = max (max (PyData.depth x) (PyData.depthAll xs)) (PyData.depthAll ys)
    rw [dA_app xs ys]; omega
theorem RqA.app (h : RqA N w k xs) (t : RqA N w' k ys) : RqA N (w + w') k (xs ++ ys) :=
  ⟨by rw [iA_app, h.il, t.il]; rfl, by rw [kA_app, h.ok, t.ok]; rfl, by rw [wA_app]; exact Nat.add_le_add h.wt t.wt, by rw [dA_app]; exact Nat.max_le.mpr ⟨h.dp, t.dp⟩⟩
theorem RqA.uncons {x : PyData} (h : RqA N w k (x :: xs)) : Rq N (PyData.weight x) k x ∧ RqA N (PyData.weightAll xs) k xs ∧ PyData.weight x + 1 + PyData.weightAll xs ≤ w := by
  obtain ⟨h1, h3, h4, h5⟩ := h
  simp only [ilA, Bool.and_eq_true] at h1
  simp only [rokA, Bool.and_eq_true] at h3
  have h4 : PyData.weight x + 1 + PyData.weightAll xs ≤ w := h4
  have h5 : max (PyData.depth x) (PyData.depthAll xs) ≤ k := h5
  exact ⟨⟨h1.1, h3.1, Nat.le_refl _, by omega⟩, ⟨h1.2, h3.2, Nat.le_refl _, by omega⟩, h4⟩
theorem RqA.all (h : RqA N w k xs) : ∀ x ∈ xs, Rq N w k x := by
  induction xs generalizing w with
  | nil => exact fun _ m => nomatch m
  | cons x xs ih =>
    obtain ⟨a, b, c⟩ := h.uncons
    intro y m
    rcases List.mem_cons.mp m with rfl | m
    · exact a.mono (by omega) (Nat.le_refl _)
    · exact (ih b y m).mono (by omega) (Nat.le_refl _)
theorem RqA.of : ∀ {xs : List PyData}, (∀ x ∈ xs, Rq N w k x) → RqA N (xs.length * (w + 1)) k xs
  | [], _ => ⟨rfl, rfl, Nat.zero_le _, Nat.zero_le _⟩
  | x :: xs, h => by
    have t := RqA.of fun x hx => h x (List.mem_cons_of_mem _ hx)
    refine (RqA.cons (h x List.mem_cons_self) t).mono ?_ (Nat.le_refl _)
    rw [List.length_cons, Nat.succ_mul]; omega
theorem RqA.sub (h : RqA N w k xs) (s : ys.Sublist xs) : RqA N w k ys := by
  induction s generalizing w with
  | slnil => exact h
  | cons x s ih =>
    obtain ⟨a, b, c⟩ := h.uncons
    exact (ih b).mono (by omega) (Nat.le_refl _)
  | cons_cons x s ih =>
    obtain ⟨a, b, c⟩ := h.uncons
    exact (RqA.cons a (ih b)).mono (by omega) (Nat.le_refl _)
theorem RqA.self (h : RqA N w k xs) : RqA N (PyData.weightAll xs) k xs := ⟨h.il, h.ok, Nat.le_refl _, h.dp⟩
theorem RqA.rev (h : RqA N w k xs) : RqA N w k xs.reverse := by
  induction xs generalizing w with
  | nil => exact h
  | cons x xs ih =>
    obtain ⟨a, b, c⟩ := h.uncons
    rw [List.reverse_cons]
    exact (RqA.app (ih b) (RqA.cons a (RqA.nil.mono (Nat.le_refl _) (Nat.zero_le k)))).mono (by omega) (Nat.le_refl _)
theorem Rq.repr (h : Rq N w k d) (hN : N < 10 ^ 33) (hw : w ≤ 400000) (hk : k ≤ 60) : reprD [d] = some (.v (.str d.shown)) := by
  obtain ⟨h1, h2⟩ := il_ok hN d h.il
  have := PyData.shown_le 34 (by decide) d h1
  have hl : d.shown.length ≤ LIM := by have := h.wt; unfold LIM; omega
  show (if d.showable = true ∧ rok d = true ∧ d.shown.length ≤ LIM ∧ d.depth ≤ 60 then some (R.v (.str d.shown)) else Option.none) = _
  rw [if_pos ⟨h2, h.ok, hl, Nat.le_trans h.dp hk⟩]
def rqB (N w k : Nat) (d : PyData) : Bool := PV.il N d && rok d && decide (d.weight ≤ w) && decide (d.depth ≤ k)
theorem Rq.of (h : rqB N w k d = true) : Rq N w k d := by
  simp only [rqB, Bool.and_eq_true, decide_eq_true_eq] at h
  exact ⟨h.1.1.1, h.1.1.2, h.1.2, h.2⟩
theorem Rq.tuI {S : List Int} {n : Nat} (h : ∀ x ∈ S, x.natAbs ≤ N) (hN : N < 10 ^ 33) (hl : S.length ≤ n) : Rq N (n * 112) 1 (.tuple (S.map .int)) := by
  have a : RqA N ((S.map PyData.int).length * 112) 0 (S.map .int) := RqA.of (w := 111) fun x hx => by
    obtain ⟨i, hi, rfl⟩ := List.mem_map.mp hx
    exact .int (h i hi) hN
  refine (Rq.tupA a).mono ?_ (Nat.le_refl _)
  rw [List.length_map]; exact Nat.mul_le_mul_right _ hl
end
end PV

/-! U.5: conditions of the later words -/
namespace PV
open PySem PySem.Spec PyProof.Rows L2
section
variable {cl : Nat → List Arg → DS → FRes} {m : M}
theorem V_dcT {Q : R → M → Prop} {E : Nat → Option PyData → M → Prop} {t : Tg} {it : It} {c : T} {k v : PV.E} {own : List Nat} : RS (ev cl (.dcT t it c k v own) m) Q E = RS (evI cl it m) (fun p m1 => ownOk m1.e own ∧ p.1.length ≤ LIM ∧ RS (dcL p.2 own (bdT cl t c) (fun m => ev cl k m) (fun m => ev cl v m) true p.1 [] ⟨clear m1.e own, m1.s⟩) (fun acc m2 => Q (.fd true acc) ⟨back m2.e m1.e own, m2.s⟩) fun _ _ _ => False) E := by
  rw [show ev cl (.dcT t it c k v own) m = match evI cl it m with
      | .ok (ds, src) m1 => if own.all (fun i => !isOwn m1.e[i]?) = true ∧ ds.length ≤ LIM then match dcL src own (bdT cl t c) (fun m => ev cl k m) (fun m => ev cl v m) true ds [] ⟨clear m1.e own, m1.s⟩ with
        | .ok acc m2 => .ok (.fd true acc) ⟨back m2.e m1.e own, m2.s⟩
        | _ => .bad
        else .bad
      | .rz c f m1 => .rz c f m1
      | .bad => .bad from rfl]
  cases evI cl it m with
  | ok p m1 =>
    obtain ⟨ds, src⟩ := p
    simp only [RS_ok, ownOk]
    by_cases h : own.all (fun i => !isOwn m1.e[i]?) = true ∧ ds.length ≤ LIM
    · rw [if_pos h]
      simp only [h.1, h.2, true_and]
      cases dcL src own (bdT cl t c) (fun m => ev cl k m) (fun m => ev cl v m) true ds [] ⟨clear m1.e own, m1.s⟩ <;> rfl
    · rw [if_neg h, eq_iff_iff]
      exact ⟨fun z => z.elim, fun z => h ⟨z.1, z.2.1⟩⟩
  | rz _ _ _ => rfl
  | bad => rfl
def odTAt : Option Slot → Option (List (PyData × PyData))
  | some (.od true kvs) => some kvs
  | _ => none
theorem odTAt_od {kvs : List (PyData × PyData)} : odTAt (some (.od true kvs)) = some kvs := nr rfl
def fdTOf : R → Option (List (PyData × PyData))
  | .fd true kvs => some kvs
  | _ => none
theorem fdTOf_fd {kvs : List (PyData × PyData)} : fdTOf (.fd true kvs) = some kvs := nr rfl
theorem V_updT {Q : R → M → Prop} {E : Nat → Option PyData → M → Prop} {i : Nat} {e : PV.E} : RS (ev cl (.updT i e) m) Q E = OS (odTAt m.e[i]?) fun _ => RS (ev cl e m) (fun r m1 => OS (fdTOf r) fun more => OS (odTAt m1.e[i]?) fun kvs =>
    (kvs.length + more.length ≤ LIM ∧ (kvs ≠ [] ∨ apartT more)) ∧ Q (.v .none) ⟨m1.e.set i (.od true (mergeD kvs more)), m1.s⟩) E := by
  unfold ev
  cases m.e[i]? with
  | none => rfl
  | some sl => cases sl with
    | od t kvs0 => cases t with
      | false => rfl
      | true =>
        simp only [odTAt, OS_some]
        cases ev cl e m with
        | rz _ _ _ => rfl
        | bad => rfl
        | ok r m1 => cases r with
          | fd t more => cases t with
            | false => rfl
            | true =>
              simp only [RS_ok, fdTOf, OS_some]
              cases m1.e[i]? with
              | none => rfl
              | some sl => cases sl with
                | od t kvs => cases t with
                  | false => rfl
                  | true =>
                    simp only [OS_some]
                    by_cases h : kvs.length + more.length ≤ LIM ∧ (kvs ≠ [] ∨ apartT more)
                    · rw [if_pos h]; simp only [h, true_and]; rfl
                    · rw [if_neg h]; simp only [h, false_and]; rfl
                | _ => rfl
          | _ => rfl
    | _ => rfl
def strOf : R → Option Str
  | .v (.str x) => some x
  | _ => none
theorem strOf_s {x : Str} : strOf (.v (.str x)) = some x := nr rfl
def sgs (x : Str) : List PyData := x.cps.toList.map fun c => .str (sgn c)
theorem VI_txt {Q : List PyData × Src → M → Prop} {E : Nat → Option PyData → M → Prop} {e : PV.E} : RS (evI cl (.txt e) m) Q E = RS (ev cl e m) (fun r m1 => OS (strOf r) fun x => Q (sgs x, none) m1) E := by
  unfold evI
  cases ev cl e m with
  | rz _ _ _ => rfl
  | bad => rfl
  | ok r m1 => cases r with
    | v d => cases d <;> rfl
    | _ => rfl
theorem VI_rg3 {Q : List PyData × Src → M → Prop} {E : Nat → Option PyData → M → Prop} {es : Es} : RS (evI cl (.rg3 es) m) Q E = RS (evs cl es m) (fun rs m1 => OS (rg3D rs) fun ds => Q (ds, none) m1) E := by
  unfold evI
  cases evs cl es m with
  | rz _ _ _ => rfl
  | bad => rfl
  | ok rs m1 =>
    simp only [RS_ok]
    cases rg3D rs <;> rfl
end
end PV

namespace Rk
open PySem PySem.Spec PyProof.Rows L2 PV
def topS (i : Nat) : Stmt := PySem.Challenge.pw_treelamps_k66_slides_parsed.main.body.getD i (.Pass ⟨0, 0, 0, 0⟩)
abbrev st_joined_or_none : Stmt := topS 9
abbrev N_joined_or_none : List Str := ["words"]
theorem sc_joined_or_none : FnScope N_joined_or_none ["words"] (defScope st_joined_or_none) := ⟨rfl, rfl, rfl, by decide +kernel, rfl, by decide +kernel, by decide +kernel⟩
abbrev st_slides_text : Stmt := topS 10
abbrev N_slides_text : List Str := ["slides", "u", "v"]
theorem sc_slides_text : FnScope N_slides_text ["slides"] (defScope st_slides_text) := ⟨rfl, rfl, rfl, by decide +kernel, rfl, by decide +kernel, by decide +kernel⟩
abbrev st_parse_number : Stmt := topS 11
abbrev N_parse_number : List Str := ["word", "figure"]
theorem sc_parse_number : FnScope N_parse_number ["word"] (defScope st_parse_number) := ⟨rfl, rfl, rfl, by decide +kernel, rfl, by decide +kernel, by decide +kernel⟩
abbrev st_parse_pair : Stmt := topS 12
abbrev N_parse_pair : List Str := ["word", "sign", "pair", "part"]
theorem sc_parse_pair : FnScope N_parse_pair ["word", "sign"] (defScope st_parse_pair) := ⟨rfl, rfl, rfl, by decide +kernel, rfl, by decide +kernel, by decide +kernel⟩
abbrev st_parse_slides : Stmt := topS 13
abbrev N_parse_slides : List Str := ["text", "slides", "index", "word", "pair"]
theorem sc_parse_slides : FnScope N_parse_slides ["text"] (defScope st_parse_slides) := ⟨rfl, rfl, rfl, by decide +kernel, rfl, by decide +kernel, by decide +kernel⟩
abbrev st__law_deck : Stmt := topS 15
abbrev N__law_deck : List Str := ["_law_script", "_law_cell"]
theorem sc__law_deck : FnScope N__law_deck ["_law_script"] (defScope st__law_deck) := ⟨rfl, rfl, rfl, by decide +kernel, rfl, by decide +kernel, by decide +kernel⟩
abbrev st__law_draw : Stmt := topS 16
abbrev N__law_draw : List Str := ["_law_deck_here", "_law_many", "_law_cell", "_law_place"]
theorem sc__law_draw : FnScope N__law_draw ["_law_deck_here", "_law_many"] (defScope st__law_draw) := ⟨rfl, rfl, rfl, by decide +kernel, rfl, by decide +kernel, by decide +kernel⟩
abbrev st__law_same : Stmt := topS 17
abbrev N__law_same : List Str := ["_law_found", "_law_due_here", "_law_one", "_law_other"]
theorem sc__law_same : FnScope N__law_same ["_law_found", "_law_due_here"] (defScope st__law_same) := ⟨rfl, rfl, rfl, by decide +kernel, rfl, by decide +kernel, by decide +kernel⟩
abbrev st__law_pairs_text : Stmt := topS 18
abbrev N__law_pairs_text : List Str := ["_law_pairs", "_law_sign", "_law_one", "_law_two"]
theorem sc__law_pairs_text : FnScope N__law_pairs_text ["_law_pairs", "_law_sign"] (defScope st__law_pairs_text) := ⟨rfl, rfl, rfl, by decide +kernel, rfl, by decide +kernel, by decide +kernel⟩
abbrev st__law_odd : Stmt := topS 19
abbrev N__law_odd : List Str := ["_law_deck_here", "_law_some"]
theorem sc__law_odd : FnScope N__law_odd ["_law_deck_here"] (defScope st__law_odd) := ⟨rfl, rfl, rfl, by decide +kernel, rfl, by decide +kernel, by decide +kernel⟩
abbrev st__law_bent : Stmt := topS 20
abbrev N__law_bent : List Str := ["_law_deck_here", "_law_text", "_law_words", "_law_at", "_law_way", "_law_place", "_law_sign"]
theorem sc__law_bent : FnScope N__law_bent ["_law_deck_here", "_law_text"] (defScope st__law_bent) := ⟨rfl, rfl, rfl, by decide +kernel, rfl, by decide +kernel, by decide +kernel⟩
abbrev st__law_number : Stmt := topS 21
abbrev N__law_number : List Str := ["_law_part", "_law_sign"]
theorem sc__law_number : FnScope N__law_number ["_law_part"] (defScope st__law_number) := ⟨rfl, rfl, rfl, by decide +kernel, rfl, by decide +kernel, by decide +kernel⟩
abbrev st__law_due : Stmt := topS 22
abbrev N__law_due : List Str := ["_law_text", "_law_found", "_law_index", "_law_word", "_law_pair", "_law_part"]
theorem sc__law_due : FnScope N__law_due ["_law_text"] (defScope st__law_due) := ⟨rfl, rfl, rfl, by decide +kernel, rfl, by decide +kernel, by decide +kernel⟩
abbrev st__law_told : Stmt := topS 23
abbrev N__law_told : List Str := ["_law_text", "error"]
theorem sc__law_told : FnScope N__law_told ["_law_text"] (defScope st__law_told) := ⟨rfl, rfl, rfl, by decide +kernel, rfl, by decide +kernel, by decide +kernel⟩
abbrev st_law : Stmt := topS 24
abbrev N_law : List Str := ["_law_script", "_law_deck_here", "_law_things", "_law_k", "_law_thing", "_law_row", "_law_text", "_law_turn", "_law_kept"]
theorem sc_law : FnScope N_law ["_law_script"] (defScope st_law) := ⟨rfl, rfl, rfl, by decide +kernel, rfl, by decide +kernel, by decide +kernel⟩
abbrev st_ini_BadText : Stmt := inClass (topS 4) 0
theorem sc_ini_BadText : FnScope ["self", "index"] ["self", "index"] (defScope st_ini_BadText) := ⟨rfl, rfl, rfl, by decide +kernel, rfl, by decide +kernel, by decide +kernel⟩
def xfn : Nat → Option Str
  | 18 => some "index"
  | _ => none
def xcF (C : Nat → Addr) : XC := fun c => match c with
  | 18 => some (.ref (C 18), some "index")
  | _ => none
theorem xcF_mem {C : Nat → Addr} {c : Nat} {p : Value × Option Str} (h : xcF C c = some p) : c = 18 := by
  unfold xcF at h
  split at h
  · exact rfl
  · cases h
structure Xf (P : Program) (w : World) (K : PySem.W.Frag) (mg : Str → Option Value) (base : Heap) (C : Nat → Addr) : Prop where
  k_BadText_LampError : PySem.W.kitOne K (.ref (C 18)) (.ref (C 0)) = some true
  kt_BadText_BadForest_BadSlides_LookupError : PySem.W.kitAny K (.ref (C 18)) [.ref (C 14), .ref (C 10), .type "LookupError"] = some false
  m_BadForest : mg "BadForest" = some (.ref (C 14))
  m_BadSlides : mg "BadSlides" = some (.ref (C 10))
  m_BadText : mg "BadText" = some (.ref (C 18))
  m_LampError : mg "LampError" = some (.ref (C 0))
  s_BadText_BadText : PySem.W.exmOne K (.ref (C 18)) (.ref (C 18)) = some true
  e_BadText : ExI P w K mg base "BadText" "index" (C 18)
  x_BadText : Xcl K (C 18)
def ws__law_told_0 : List Nat := []
def hc__law_told_0 : Nat → Bool
  | 18 => true
  | _ => false
def su__law_told_0 : Nat → Addr → Addr → Ss
  | 18 => fun a b => (.cons (.ite (.or (.not (.e (xiE 1 a b "index" true))) (.e (xiE 1 a b "index" false))) (.cons (.ret (.c (.str "other"))) .nil) .nil) (.cons (.ret (.tup (.cons (.c (.str "BadText")) (.cons (.xf 1 a b "index") .nil)))) .nil))
  | _ => fun _ _ => .nil
theorem hw__law_told_0 : ∀ c a b j, asgSs (su__law_told_0 c a b) j = true → ws__law_told_0.contains j = true := by
  intro c a b j
  unfold su__law_told_0
  split <;> simp [asgSs, asgS, asgT, ws__law_told_0] <;> intros <;> simp_all
theorem hx__law_told_0 {P : Program} {w : World} {K : PySem.W.Frag} {mg : Str → Option Value} {base : Heap} {C : Nat → Addr} (XF : Xf P w K mg base C) : ∀ c cls m, xcF C c = some (cls, m) → PySem.W.exmOne K cls (.ref (C 18)) = some (hc__law_told_0 c) ∧ xfn c = m := by
  intro c cls m h
  rcases xcF_mem h with rfl
  · cases h; exact ⟨XF.s_BadText_BadText, rfl⟩
def B_joined_or_none : Ss := (.cons (.ret (.or2 (.op (.g 12) (.cons (.c (.str " ")) (.cons (.x 0) .nil))) (.c (.str "none")))) .nil)
def B_slides_text : Ss := (.cons (.ret (.call 218 (.cons (.lc (.tp (.cons (.nm 1) (.cons (.nm 2) .nil))) (.e (.x 0)) .yes (.op (.g 13) (.cons (.op (.g 14) (.cons (.x 1) .nil)) (.cons (.c (.str ">")) (.cons (.op (.g 14) (.cons (.x 2) .nil)) .nil)))) [1, 2]) .nil))) .nil)
def B_parse_number : Ss := (.cons (.ite (.or (.not (.e (.chn .le .le (.c (.int 1)) (.op .len (.cons (.x 0) .nil)) (.c (.int 2))))) (.not (.e (.op .all (.cons (.lc (.nm 1) (.txt (.x 0)) .yes (.op (.g 18) (.cons (.x 1) (.cons (.c (.str "0123456789")) .nil))) [1]) .nil))))) (.cons (.ret (.c .none)) .nil) .nil) (.cons (.ite (.and (.e (.op .eq (.cons (.op (.g 20) (.cons (.x 0) (.cons (.c (.int 0)) .nil))) (.cons (.c (.str "0")) .nil)))) (.e (.op .ne (.cons (.x 0) (.cons (.c (.str "0")) .nil))))) (.cons (.ret (.c .none)) .nil) .nil) (.cons (.ret (.op (.g 24) (.cons (.x 0) .nil))) .nil)))
def B_parse_pair : Ss := (.cons (.set (.nm 2) (.op .tuple (.cons (.lc (.nm 3) (.e (.op (.g 15) (.cons (.x 0) (.cons (.x 1) .nil)))) .yes (.call 337 (.cons (.x 3) .nil)) [3]) .nil))) (.cons (.ret (.ite (.and (.e (.op .eq (.cons (.op .len (.cons (.x 2) .nil)) (.cons (.c (.int 2)) .nil)))) (.e (.op .notin (.cons (.c .none) (.cons (.x 2) .nil))))) (.x 2) (.c .none))) .nil))
def B_parse_slides : Ss := (.cons (.ite (.not (.e (.op (.isi 2) (.cons (.x 0) .nil)))) (.cons (.raise 18 (.cons (.c .none) .nil)) .nil) .nil) (.cons (.ite (.e (.op .eq (.cons (.x 0) (.cons (.c (.str "none")) .nil)))) (.cons (.ret (.tup .nil)) .nil) .nil) (.cons (.set (.nm 1) (.lst .nil)) (.cons (.lop (.tp (.cons (.nm 2) (.cons (.nm 3) .nil))) (.enm (.op (.g 15) (.cons (.x 0) (.cons (.c (.str " ")) .nil))) 0) (.cons (.set (.nm 4) (.call 340 (.cons (.x 3) (.cons (.c (.str ">")) .nil)))) (.cons (.ite (.e (.op .isN (.cons (.x 4) .nil))) (.cons (.raise 18 (.cons (.x 2) .nil)) .nil) .nil) (.cons (.ex (.mut .app 1 (.cons (.x 4) .nil))) .nil)))) (.cons (.ret (.op .tuple (.cons (.x 1) .nil))) .nil)))))
def B__law_same : Ss := (.cons (.ite (.e (.op (.isi 3) (.cons (.x 1) .nil))) (.cons (.ite (.or (.not (.e (.op (.isi 3) (.cons (.x 0) .nil)))) (.e (.op .ne (.cons (.op .len (.cons (.x 0) .nil)) (.cons (.op .len (.cons (.x 1) .nil)) .nil))))) (.cons (.ret (.c (.bool false))) .nil) .nil) (.cons (.ret (.op .eq (.cons (.lc (.tp (.cons (.nm 2) (.cons (.nm 3) .nil))) (.zip (.cons (.x 0) (.cons (.x 1) .nil))) (.not (.e (.call 213 (.cons (.x 2) (.cons (.x 3) .nil))))) (.c (.int 1)) [2, 3]) (.cons (.lst .nil) .nil)))) .nil)) .nil) (.cons (.ite (.e (.op .isN (.cons (.x 1) .nil))) (.cons (.ret (.op .isN (.cons (.x 0) .nil))) .nil) .nil) (.cons (.ite (.e (.op (.isi 2) (.cons (.x 1) .nil))) (.cons (.ret (.and2 (.op (.isi 2) (.cons (.x 0) .nil)) (.op .eq (.cons (.x 0) (.cons (.x 1) .nil))))) .nil) .nil) (.cons (.ret (.and2 (.op (.isi 0) (.cons (.x 0) .nil)) (.and2 (.op .eq (.cons (.op (.isi 1) (.cons (.x 0) .nil)) (.cons (.op (.isi 1) (.cons (.x 1) .nil)) .nil))) (.op .eq (.cons (.x 0) (.cons (.x 1) .nil)))))) .nil))))
def B__law_pairs_text : Ss := (.cons (.ret (.op (.g 12) (.cons (.c (.str " ")) (.cons (.op .add (.cons (.lc (.tp (.cons (.nm 2) (.cons (.nm 3) .nil))) (.e (.x 0)) .yes (.op .add (.cons (.op .add (.cons (.op .str (.cons (.x 2) .nil)) (.cons (.x 1) .nil))) (.cons (.op .str (.cons (.x 3) .nil)) .nil))) [2, 3]) (.cons (.op .mul (.cons (.lst (.cons (.c (.str "none")) .nil)) (.cons (.op .int (.cons (.op .eq (.cons (.op .len (.cons (.x 0) .nil)) (.cons (.c (.int 0)) .nil))) .nil)) .nil))) .nil))) .nil)))) .nil)
def B__law_odd : Ss := (.cons (.set (.nm 1) (.lst (.cons (.c .none) (.cons (.c (.bool true)) (.cons (.c (.bool false)) (.cons (.c (.int 0)) (.cons (.op .neg (.cons (.c (.int 1)) .nil)) (.cons (.op .pow (.cons (.c (.int 10)) (.cons (.c (.int 29)) .nil))) (.cons (.tup .nil) (.cons (.lst .nil) (.cons (.emp false) (.cons (.tup (.cons (.c (.int 2)) (.cons (.tup (.cons (.tup (.cons (.c (.int 0)) (.cons (.c (.int 1)) .nil))) .nil)) .nil))) (.cons (.lst (.cons (.c (.str "2: 0-1")) .nil)) (.cons (.tup (.cons (.c (.str "2: 0-1")) .nil)) .nil)))))))))))))) (.cons (.ret (.op .idx (.cons (.x 1) (.cons (.call 183 (.cons (.x 0) (.cons (.c (.int 12)) .nil))) .nil)))) .nil))
def B__law_bent : Ss := (.cons (.set (.nm 2) (.op (.g 15) (.cons (.x 1) (.cons (.c (.str " ")) .nil)))) (.cons (.set (.nm 3) (.call 183 (.cons (.x 0) (.cons (.op .len (.cons (.x 2) .nil)) .nil)))) (.cons (.set (.nm 4) (.call 183 (.cons (.x 0) (.cons (.c (.int 5)) .nil)))) (.cons (.ite (.e (.op .eq (.cons (.x 4) (.cons (.c (.int 0)) .nil)))) (.cons (.ret (.op (.g 12) (.cons (.c (.str " ")) (.cons (.op .add (.cons (.op .add (.cons (.op (.sl false true) (.cons (.x 2) (.cons (.x 3) .nil))) (.cons (.op (.sl true true) (.cons (.x 2) (.cons (.op .idi (.cons (.x 3) .nil)) (.cons (.op .add (.cons (.x 3) (.cons (.c (.int 1)) .nil))) .nil)))) .nil))) (.cons (.op (.sl true false) (.cons (.x 2) (.cons (.x 3) .nil))) .nil))) .nil)))) .nil) .nil) (.cons (.ite (.e (.op .eq (.cons (.x 4) (.cons (.c (.int 1)) .nil)))) (.cons (.ret (.op (.g 12) (.cons (.c (.str " ")) (.cons (.op .add (.cons (.op (.sl false true) (.cons (.x 2) (.cons (.c (.int 1)) .nil))) (.cons (.op .rev (.cons (.op (.sl true false) (.cons (.x 2) (.cons (.c (.int 1)) .nil))) .nil)) .nil))) .nil)))) .nil) .nil) (.cons (.ite (.e (.op .eq (.cons (.x 4) (.cons (.c (.int 2)) .nil)))) (.cons (.ret (.op (.g 12) (.cons (.c (.str " ")) (.cons (.op .add (.cons (.op (.sl false true) (.cons (.x 2) (.cons (.x 3) .nil))) (.cons (.op (.sl true false) (.cons (.x 2) (.cons (.op .add (.cons (.x 3) (.cons (.c (.int 1)) .nil))) .nil))) .nil))) .nil)))) .nil) .nil) (.cons (.set (.nm 5) (.call 183 (.cons (.x 0) (.cons (.op .add (.cons (.op .len (.cons (.x 1) .nil)) (.cons (.c (.int 1)) .nil))) .nil)))) (.cons (.set (.nm 6) (.op .idx (.cons (.lst (.cons (.c (.str "0")) (.cons (.c (.str "1")) (.cons (.c (.str "2")) (.cons (.c (.str "-")) (.cons (.c (.str " ")) (.cons (.c (.str ":")) (.cons (.c (.str ">")) (.cons (.c (.str "x")) (.cons (.c (.str "\n")) (.cons (.c (.str "none")) (.cons (.c (.str "3")) .nil)))))))))))) (.cons (.call 183 (.cons (.x 0) (.cons (.c (.int 11)) .nil))) .nil)))) (.cons (.ret (.op .add (.cons (.op .add (.cons (.op (.g 22) (.cons (.x 1) (.cons (.x 5) .nil))) (.cons (.op (.g 25) (.cons (.x 6) (.cons (.call 183 (.cons (.x 0) (.cons (.c (.int 2)) .nil))) .nil))) .nil))) (.cons (.op (.g 21) (.cons (.x 1) (.cons (.op .add (.cons (.x 5) (.cons (.call 183 (.cons (.x 0) (.cons (.c (.int 2)) .nil))) .nil))) .nil))) .nil)))) .nil)))))))))
def B__law_number : Ss := (.cons (.ite (.or (.e (.op .eq (.cons (.x 0) (.cons (.c (.str "")) .nil)))) (.or (.e (.op .gt (.cons (.op .len (.cons (.x 0) .nil)) (.cons (.c (.int 2)) .nil)))) (.e (.op .ne (.cons (.lc (.nm 1) (.txt (.x 0)) (.e (.op (.g 19) (.cons (.x 1) (.cons (.c (.str "0123456789")) .nil)))) (.x 1) [1]) (.cons (.lst .nil) .nil)))))) (.cons (.ret (.c .none)) .nil) .nil) (.cons (.ret (.ite (.and (.e (.op .eq (.cons (.op (.g 20) (.cons (.x 0) (.cons (.c (.int 0)) .nil))) (.cons (.c (.str "0")) .nil)))) (.e (.op .ne (.cons (.x 0) (.cons (.c (.str "0")) .nil))))) (.c .none) (.op (.g 24) (.cons (.x 0) .nil)))) .nil))
def B__law_due : Ss := (.cons (.ite (.not (.e (.op (.isi 2) (.cons (.x 0) .nil)))) (.cons (.ret (.tup (.cons (.c (.str "BadText")) (.cons (.c .none) .nil)))) .nil) .nil) (.cons (.set (.nm 1) (.tup .nil)) (.cons (.lop (.tp (.cons (.nm 2) (.cons (.nm 3) .nil))) (.enm (.op (.g 15) (.cons (.x 0) (.cons (.c (.str " ")) .nil))) 0) (.cons (.ite (.e (.op .ne (.cons (.x 0) (.cons (.c (.str "none")) .nil)))) (.cons (.set (.nm 4) (.op .tuple (.cons (.lc (.nm 5) (.e (.op (.g 15) (.cons (.x 3) (.cons (.c (.str ">")) .nil)))) .yes (.call 313 (.cons (.x 5) .nil)) [5]) .nil))) (.cons (.ite (.or (.e (.op .ne (.cons (.op .len (.cons (.x 4) .nil)) (.cons (.c (.int 2)) .nil)))) (.e (.op .inn (.cons (.c .none) (.cons (.x 4) .nil))))) (.cons (.ret (.tup (.cons (.c (.str "BadText")) (.cons (.x 2) .nil)))) .nil) .nil) (.cons (.set (.nm 1) (.op .add (.cons (.x 1) (.cons (.tup (.cons (.x 4) .nil)) .nil)))) .nil))) .nil) .nil)) (.cons (.ret (.x 1)) .nil))))
def B__law_told : Ss := (.cons (.tr (.cons (.ret (.call 214 (.cons (.x 0) .nil))) .nil) 1 ws__law_told_0 hc__law_told_0 xfn su__law_told_0) .nil)
def B_law : Ss := (.cons (.set (.nm 2) (.lst (.cons (.c (.str "")) (.cons (.c (.str " ")) (.cons (.c (.str "none")) (.cons (.c (.str "none none")) (.cons (.c (.str "none ")) (.cons (.c (.str "0>1")) (.cons (.c (.str "1>0")) (.cons (.c (.str "0>0")) (.cons (.c (.str "99>99")) (.cons (.c (.str "100>1")) (.cons (.c (.str "1>100")) (.cons (.c (.str "00>1")) (.cons (.c (.str "0>01")) .nil))))))))))))))) (.cons (.set (.nm 2) (.op .add (.cons (.x 2) (.cons (.lst (.cons (.c (.str ">")) (.cons (.c (.str "0>")) (.cons (.c (.str ">1")) (.cons (.c (.str "0>1>2")) (.cons (.c (.str "0>>1")) (.cons (.c (.str "0-1")) (.cons (.c (.str "0>1  1>2")) (.cons (.c (.str " 0>1")) (.cons (.c (.str "0>1 ")) (.cons (.c (.str "0>1\n")) (.cons (.c (.str "0>1 none")) .nil)))))))))))) .nil)))) (.cons (.ex (.mut .app 2 (.cons (.c (.str "0>1,1>2")) .nil))) (.cons (.set (.nm 2) (.op .add (.cons (.x 2) (.cons (.lst (.cons (.c (.str "+0>1")) (.cons (.c (.str "0>-1")) (.cons (.c (.str "0>1 x")) (.cons (.c (.str "0 > 1")) (.cons (.c (.str "2>3 0>1 2>3")) (.cons (.c (.str "0>1 0>1")) (.cons (.c (.str "11>12 12>11")) (.cons (.c (.str "a>b")) (.cons (.c (.str "0>1.")) (.cons (.c (.str "None")) .nil))))))))))) .nil)))) (.cons (.lop (.nm 3) (.rng (.cons (.c (.int 3)) .nil)) (.cons (.set (.nm 5) (.op .tuple (.cons (.lc (.nm 3) (.rng (.cons (.call 183 (.cons (.x 1) (.cons (.c (.int 21)) .nil))) .nil)) .yes (.tup (.cons (.call 183 (.cons (.x 1) (.cons (.c (.int 12)) .nil))) (.cons (.call 183 (.cons (.x 1) (.cons (.c (.int 100)) .nil))) .nil))) [3]) .nil))) (.cons (.set (.nm 6) (.call 206 (.cons (.x 5) (.cons (.c (.str ">")) .nil)))) (.cons (.ite (.or (.not (.e (.call 213 (.cons (.call 214 (.cons (.x 6) .nil)) (.cons (.x 5) .nil))))) (.e (.op .ne (.cons (.call 215 (.cons (.x 5) .nil)) (.cons (.x 6) .nil))))) (.cons (.ret (.c (.bool false))) .nil) .nil) (.cons (.lop (.nm 7) (.rng (.cons (.c (.int 7)) .nil)) (.cons (.set (.nm 2) (.op .add (.cons (.x 2) (.cons (.lst (.cons (.call 209 (.cons (.x 1) (.cons (.x 6) .nil))) (.cons (.call 209 (.cons (.x 1) (.cons (.call 209 (.cons (.x 1) (.cons (.x 6) .nil))) .nil))) .nil))) .nil)))) .nil)) (.cons (.set (.nm 2) (.op .add (.cons (.x 2) (.cons (.lst (.cons (.lst (.cons (.x 6) .nil)) (.cons (.x 5) (.cons (.call 210 (.cons (.x 1) .nil)) .nil)))) .nil)))) .nil)))))) (.cons (.lop (.nm 4) (.e (.op .add (.cons (.x 2) (.cons (.lst (.cons (.c .none) (.cons (.c (.int 3)) (.cons (.c (.bool true)) (.cons (.tup (.cons (.c (.str "0>1")) .nil)) .nil))))) .nil)))) (.cons (.set (.nm 8) (.op .repr (.cons (.x 4) .nil))) (.cons (.ite (.or (.not (.e (.call 213 (.cons (.call 217 (.cons (.x 4) .nil)) (.cons (.call 216 (.cons (.x 4) .nil)) .nil))))) (.e (.op .ne (.cons (.op .repr (.cons (.x 4) .nil)) (.cons (.x 8) .nil))))) (.cons (.ret (.c (.bool false))) .nil) .nil) .nil))) (.cons (.ret (.c (.bool true))) .nil)))))))
section
variable {P : Program} {w : World} {K : PySem.W.Frag} {mg : Str → Option Value} {base : Heap} {xc : XC} {C : Nat → Addr} {CB : Addr} {cl : Nat → List PV.Arg → DS → FRes} {k : Nat}
theorem w_joined_or_none (c_NONE : ∃ t, mg "NONE" = some (.str "none" t)) : WalkB P w K mg base N_joined_or_none "joined_or_none" st_joined_or_none (xcF C) cl k B_joined_or_none := fun f cdv A outer s H E b =>
  (ds_cons (ds_ret (de_or (d_join (d_v 0)) (de_one (d_cstr c_NONE))))
  ds_nil)
theorem w_slides_text (h_joined_or_none : FnT P w K mg base (xcF C) cl k "joined_or_none" 218 1) : WalkB P w K mg base N_slides_text "slides_text" st_slides_text (xcF C) cl k B_slides_text := fun f cdv A outer s H E b =>
  (ds_cons (ds_ret (d_call b h_joined_or_none (da_cons (d_lc b [("u", 1), ("v", 2)] (di_e (d_v 0)) (fun b' => (g_tp b' (dgs_cons (g_nm b' 1) (dgs_cons (g_nm b' 2) dgs_nil)))) (fun b' => dts_nil) (fun b' => (d_fs (pj_fmt (d_v 1) (pj_const (pj_fmt (d_v 2) pj_nil)))))) da_nil)))
  ds_nil)
theorem w_parse_number (z_all : mg "all" = none) (z_int : mg "int" = none) (z_len : mg "len" = none) (c_FIGURES : ∃ t, mg "FIGURES" = some (.str "0123456789" t)) (c_LONGEST : ∃ t, mg "LONGEST" = some (.int 2 t)) : WalkB P w K mg base N_parse_number "parse_number" st_parse_number (xcF C) cl k B_parse_number := fun f cdv A outer s H E b =>
  (ds_cons (ds_if (dt_pw (dw_or (dt_not (t_chn (o_le b.ok.un1) v_le (o_le b.ok.un1) v_le (b_chn cmpR_b) de_int (d_len b z_len (da_cons (d_v 0) da_nil)) (d_cint c_LONGEST))) (dw_or1 (dt_not (dt_tru (d_all1 b z_all (da_cons (d_lc b [("figure", 1)] (i_txt (d_v 0)) (fun b' => (g_nm b' 1)) (fun b' => dts_nil) (fun b' => (d_inS (d_v 1) (d_cstr c_FIGURES)))) da_nil))))))) (ds_cons (ds_ret de_non)
  ds_nil) ds_nil)
  (ds_cons (ds_if (dt_pw (dw_and (t_eq b (d_ixS (d_v 0) de_int) de_str) (dw_and1 (t_ne b (d_v 0) de_str)))) (ds_cons (ds_ret de_non)
  ds_nil) ds_nil)
  (ds_cons (ds_ret (d_intS b z_int (da_cons (d_v 0) da_nil)))
  ds_nil)))
theorem w_parse_pair (z_len : mg "len" = none) (z_tuple : mg "tuple" = none) (h_parse_number : FnT P w K mg base (xcF C) cl k "parse_number" 337 1) : WalkB P w K mg base N_parse_pair "parse_pair" st_parse_pair (xcF C) cl k B_parse_pair := fun f cdv A outer s H E b =>
  (ds_cons (s_set b 2 (d_tuple b z_tuple (da_cons (d_lc b [("part", 3)] (di_e (d_splitV 1 (d_v 0))) (fun b' => (g_nm b' 3)) (fun b' => dts_nil) (fun b' => (d_call b' h_parse_number (da_cons (d_v 3) da_nil)))) da_nil)))
  (ds_cons (ds_ret (de_ite (dt_pw (dw_and (t_eq b (d_len b z_len (da_cons (d_v 2) da_nil)) de_int) (dw_and1 (t_notin b de_non (d_v 2))))) (d_v 2) de_non))
  ds_nil))
theorem w_parse_slides (z_enumerate : mg "enumerate" = none) (z_isinstance : mg "isinstance" = none) (z_str : mg "str" = none) (z_tuple : mg "tuple" = none) (c_NONE : ∃ t, mg "NONE" = some (.str "none" t)) (hk : 2 ≤ k) (XF : Xf P w K mg base C) (h_parse_pair : FnT P w K mg base (xcF C) cl k "parse_pair" 340 2) : WalkB P w K mg base N_parse_slides "parse_slides" st_parse_slides (xcF C) cl k B_parse_slides := fun f cdv A outer s H E b =>
  (ds_cons (ds_if (dt_not (dt_tru (d_isi2 z_isinstance z_str (d_v 0)))) (ds_cons (d_raise b hk XF.e_BadText rfl de_non)
  ds_nil) ds_nil)
  (ds_cons (ds_if (t_eq b (d_v 0) (d_cstr c_NONE)) (ds_cons (ds_ret (de_tup da_nil))
  ds_nil) ds_nil)
  (ds_cons (s_set b 1 (de_lst da_nil))
  (ds_cons (s_for b (i_enm z_enumerate (d_splitC (d_v 0))) (g_tp b (dgs_cons (g_nm b 2) (dgs_cons (g_nm b 3) dgs_nil))) (ds_cons (s_set b 4 (d_call b h_parse_pair (da_cons (d_v 3) (da_cons de_str da_nil))))
  (ds_cons (ds_if (t_isN b (d_v 4)) (ds_cons (d_raise b hk XF.e_BadText rfl (d_v 2))
  ds_nil) ds_nil)
  (ds_cons (s_app b 1 (d_v 4))
  ds_nil))))
  (ds_cons (ds_ret (d_tuple b z_tuple (da_cons (d_v 1) da_nil)))
  ds_nil)))))
theorem w__law_same (z_bool : mg "bool" = none) (z_int : mg "int" = none) (z_isinstance : mg "isinstance" = none) (z_len : mg "len" = none) (z_str : mg "str" = none) (z_tuple : mg "tuple" = none) (z_zip : mg "zip" = none) (h__law_same : FnT P w K mg base (xcF C) cl k "_law_same" 213 2) : WalkB P w K mg base N__law_same "_law_same" st__law_same (xcF C) cl k B__law_same := fun f cdv A outer s H E b =>
  (ds_cons (ds_if (dt_tru (d_isi3 z_isinstance z_tuple (d_v 1))) (ds_cons (ds_if (dt_pw (dw_or (dt_not (dt_tru (d_isi3 z_isinstance z_tuple (d_v 0)))) (dw_or1 (t_ne b (d_len b z_len (da_cons (d_v 0) da_nil)) (d_len b z_len (da_cons (d_v 1) da_nil)))))) (ds_cons (ds_ret de_bl)
  ds_nil) ds_nil)
  (ds_cons (ds_ret (d_eq b (d_lc b [("_law_one", 2), ("_law_other", 3)] (i_zip z_zip (d_v 0) (d_v 1)) (fun b' => (g_tp b' (dgs_cons (g_nm b' 2) (dgs_cons (g_nm b' 3) dgs_nil)))) (fun b' => (dts_one (dt_not (dt_tru (d_call b' h__law_same (da_cons (d_v 2) (da_cons (d_v 3) da_nil))))))) (fun b' => de_int)) (de_lst da_nil)))
  ds_nil)) ds_nil)
  (ds_cons (ds_if (t_isN b (d_v 1)) (ds_cons (ds_ret (d_isN b (d_v 0)))
  ds_nil) ds_nil)
  (ds_cons (ds_if (dt_tru (d_isi2 z_isinstance z_str (d_v 1))) (ds_cons (ds_ret (de_and (d_isi2 z_isinstance z_str (d_v 0)) (de_one (d_eq b (d_v 0) (d_v 1)))))
  ds_nil) ds_nil)
  (ds_cons (ds_ret (de_and (d_isi0 z_isinstance z_int (d_v 0)) (de_and (d_eq b (d_isi1 z_isinstance z_bool (d_v 0)) (d_isi1 z_isinstance z_bool (d_v 1))) (de_one (d_eq b (d_v 0) (d_v 1))))))
  ds_nil))))
theorem w__law_pairs_text (z_int : mg "int" = none) (z_len : mg "len" = none) (z_str : mg "str" = none) : WalkB P w K mg base N__law_pairs_text "_law_pairs_text" st__law_pairs_text (xcF C) cl k B__law_pairs_text := fun f cdv A outer s H E b =>
  (ds_cons (ds_ret (d_join (d_add (d_lc b [("_law_one", 2), ("_law_two", 3)] (di_e (d_v 0)) (fun b' => (g_tp b' (dgs_cons (g_nm b' 2) (dgs_cons (g_nm b' 3) dgs_nil)))) (fun b' => dts_nil) (fun b' => (d_add (d_add (d_str1 b' z_str (da_cons (d_v 2) da_nil)) (d_v 1)) (d_str1 b' z_str (da_cons (d_v 3) da_nil))))) (d_mul (de_lst (da_cons de_str da_nil)) (d_int1 b z_int (da_cons (d_eq b (d_len b z_len (da_cons (d_v 0) da_nil)) de_int) da_nil))))))
  ds_nil)
theorem w__law_odd (h__law_draw : FnT P w K mg base (xcF C) cl k "_law_draw" 183 2) : WalkB P w K mg base N__law_odd "_law_odd" st__law_odd (xcF C) cl k B__law_odd := fun f cdv A outer s H E b =>
  (ds_cons (s_set b 1 (de_lst (da_cons de_non (da_cons de_bl (da_cons de_bl (da_cons de_int (da_cons (de_neg de_int) (da_cons (d_pow de_int de_int) (da_cons (de_tup da_nil) (da_cons (de_lst da_nil) (da_cons d_empK (da_cons (de_tup (da_cons de_int (da_cons (de_tup (da_cons (de_tup (da_cons de_int (da_cons de_int da_nil))) da_nil)) da_nil))) (da_cons (de_lst (da_cons de_str da_nil)) (da_cons (de_tup (da_cons de_str da_nil)) da_nil))))))))))))))
  (ds_cons (ds_ret (d_ix b (d_v 1) (d_call b h__law_draw (da_cons (d_v 0) (da_cons de_int da_nil)))))
  ds_nil))
theorem w__law_bent (z_len : mg "len" = none) (h__law_draw : FnT P w K mg base (xcF C) cl k "_law_draw" 183 2) : WalkB P w K mg base N__law_bent "_law_bent" st__law_bent (xcF C) cl k B__law_bent := fun f cdv A outer s H E b =>
  (ds_cons (s_set b 2 (d_splitC (d_v 1)))
  (ds_cons (s_set b 3 (d_call b h__law_draw (da_cons (d_v 0) (da_cons (d_len b z_len (da_cons (d_v 2) da_nil)) da_nil))))
  (ds_cons (s_set b 4 (d_call b h__law_draw (da_cons (d_v 0) (da_cons de_int da_nil))))
  (ds_cons (ds_if (t_eq b (d_v 4) de_int) (ds_cons (ds_ret (d_join (d_add (d_add (de_sl01 (d_v 2) (d_v 3)) (de_sl11 (d_v 2) (d_v 3) (d_add (d_v 3) de_int))) (de_sl10 (d_v 2) (d_v 3)))))
  ds_nil) ds_nil)
  (ds_cons (ds_if (t_eq b (d_v 4) de_int) (ds_cons (ds_ret (d_join (d_add (de_sl01 (d_v 2) de_int) (de_rev (de_sl10 (d_v 2) de_int)))))
  ds_nil) ds_nil)
  (ds_cons (ds_if (t_eq b (d_v 4) de_int) (ds_cons (ds_ret (d_join (d_add (de_sl01 (d_v 2) (d_v 3)) (de_sl10 (d_v 2) (d_add (d_v 3) de_int)))))
  ds_nil) ds_nil)
  (ds_cons (s_set b 5 (d_call b h__law_draw (da_cons (d_v 0) (da_cons (d_add (d_len b z_len (da_cons (d_v 1) da_nil)) de_int) da_nil))))
  (ds_cons (s_set b 6 (d_ix b (de_lst (da_cons de_str (da_cons de_str (da_cons de_str (da_cons de_str (da_cons de_str (da_cons de_str (da_cons de_str (da_cons de_str (da_cons de_str (da_cons de_str (da_cons de_str da_nil)))))))))))) (d_call b h__law_draw (da_cons (d_v 0) (da_cons de_int da_nil)))))
  (ds_cons (ds_ret (d_add (d_add (d_sl01S (d_v 1) (d_v 5)) (d_mulS (d_v 6) (d_call b h__law_draw (da_cons (d_v 0) (da_cons de_int da_nil))))) (d_sl10S (d_v 1) (d_add (d_v 5) (d_call b h__law_draw (da_cons (d_v 0) (da_cons de_int da_nil)))))))
  ds_nil)))))))))
theorem w__law_number (z_int : mg "int" = none) (z_len : mg "len" = none) : WalkB P w K mg base N__law_number "_law_number" st__law_number (xcF C) cl k B__law_number := fun f cdv A outer s H E b =>
  (ds_cons (ds_if (dt_pw (dw_or (t_eq b (d_v 0) de_str) (dw_or (t_gt b (d_len b z_len (da_cons (d_v 0) da_nil)) de_int) (dw_or1 (t_ne b (d_lc b [("_law_sign", 1)] (i_txt (d_v 0)) (fun b' => (g_nm b' 1)) (fun b' => (dts_one (t_notinS (d_v 1) de_str))) (fun b' => (d_v 1))) (de_lst da_nil)))))) (ds_cons (ds_ret de_non)
  ds_nil) ds_nil)
  (ds_cons (ds_ret (de_ite (dt_pw (dw_and (t_eq b (d_ixS (d_v 0) de_int) de_str) (dw_and1 (t_ne b (d_v 0) de_str)))) de_non (d_intS b z_int (da_cons (d_v 0) da_nil))))
  ds_nil))
theorem w__law_due (z_enumerate : mg "enumerate" = none) (z_isinstance : mg "isinstance" = none) (z_len : mg "len" = none) (z_str : mg "str" = none) (z_tuple : mg "tuple" = none) (h__law_number : FnT P w K mg base (xcF C) cl k "_law_number" 313 1) : WalkB P w K mg base N__law_due "_law_due" st__law_due (xcF C) cl k B__law_due := fun f cdv A outer s H E b =>
  (ds_cons (ds_if (dt_not (dt_tru (d_isi2 z_isinstance z_str (d_v 0)))) (ds_cons (ds_ret (de_tup (da_cons de_str (da_cons de_non da_nil))))
  ds_nil) ds_nil)
  (ds_cons (s_set b 1 (de_tup da_nil))
  (ds_cons (s_for b (i_enm z_enumerate (d_splitC (d_v 0))) (g_tp b (dgs_cons (g_nm b 2) (dgs_cons (g_nm b 3) dgs_nil))) (ds_cons (ds_if (t_ne b (d_v 0) de_str) (ds_cons (s_set b 4 (d_tuple b z_tuple (da_cons (d_lc b [("_law_part", 5)] (di_e (d_splitC (d_v 3))) (fun b' => (g_nm b' 5)) (fun b' => dts_nil) (fun b' => (d_call b' h__law_number (da_cons (d_v 5) da_nil)))) da_nil)))
  (ds_cons (ds_if (dt_pw (dw_or (t_ne b (d_len b z_len (da_cons (d_v 4) da_nil)) de_int) (dw_or1 (t_in b de_non (d_v 4))))) (ds_cons (ds_ret (de_tup (da_cons de_str (da_cons (d_v 2) da_nil))))
  ds_nil) ds_nil)
  (ds_cons (s_set b 1 (d_add (d_v 1) (de_tup (da_cons (d_v 4) da_nil))))
  ds_nil))) ds_nil)
  ds_nil))
  (ds_cons (ds_ret (d_v 1))
  ds_nil))))
theorem w__law_told (z_LookupError : mg "LookupError" = none) (z_isinstance : mg "isinstance" = none) (hk : 2 ≤ k) (XF : Xf P w K mg base C) (h_parse_slides : FnT P w K mg base (xcF C) cl k "parse_slides" 214 1) : WalkB P w K mg base N__law_told "_law_told" st__law_told (xcF C) cl k B__law_told := fun f cdv A outer s H E b =>
  (ds_cons (d_try b 1 (fun b' => (ds_cons (ds_ret (d_call b' h_parse_slides (da_cons (d_v 0) da_nil)))
  ds_nil)) (by
    intro c a bb dd oe pn cls hh hx h0 hd hz hf bs
    rcases xcF_mem hx with rfl
    · cases hx
      have T : Exh (CxD P w K mg base N__law_told "_law_told" st__law_told f cdv A outer s H E) a (C 18) bb dd oe := ⟨XF.x_BadText, hz, hf, hd _ rfl⟩
      exact (ds_cons (ds_if (dt_pw (dw_or (dt_not (dt_tru (z_is 1 T z_isinstance (pc_own XF.m_LampError) XF.k_BadText_LampError))) (dw_or1 (dt_tru (z_isT 1 T z_isinstance (pcs_cons (pc_own XF.m_BadForest) (pcs_cons (pc_own XF.m_BadSlides) (pcs_cons (pc_blt z_LookupError rfl) pcs_nil))) XF.kt_BadText_BadForest_BadSlides_LookupError))))) (ds_cons (ds_ret de_str)
  ds_nil) ds_nil)
  (ds_cons (ds_ret (de_tup (da_cons de_str (da_cons (z_xf 1 T XF.e_BadText.no) da_nil))))
  ds_nil))) ⟨by rfl, by decide, .inl XF.m_BadText⟩ (hx__law_told_0 XF) hw__law_told_0)
  ds_nil)
theorem w__law_deck (z_abs : mg "abs" = none) {f : Addr} {cdv : Value} {A : Around} {outer : List PySem.Env} {s : Shared} {H : Hp} {E : XK} : PSs (CxD P w K mg base N__law_deck "_law_deck" st__law_deck f cdv A outer s H E) (defBody st__law_deck) (tDeck K 63) :=
  pss_one (ps_ret (pe_lst (pa_cons (pe_lc rfl sc__law_deck.nd (pi_list (pe_slice sl_list (pv 0) po_none (po_some pe_int))) (blkOk_by (own := [("_law_cell", 1)]) (by with_unfolding_all rfl)) (fun s H C cx fp => pg_name (i := 1) sc__law_deck.nd rfl (.inl rfl)) (fun s H C cx fp => pts_nil) (fun s H C cx fp => pe_callB call_abs (by rfl) z_abs (by rfl) (pa_cons (pv 1) pa_nil))) (pa_cons pe_int pa_nil))))
theorem w__law_draw (z_len : mg "len" = none) {f : Addr} {cdv : Value} {A : Around} {outer : List PySem.Env} {s : Shared} {H : Hp} {E : XK} : PSs (CxD P w K mg base N__law_draw "_law_draw" st__law_draw f cdv A outer s H E) (defBody st__law_draw) (tDrawE K) :=
  pss_cons (ps_asg (pe_op op_add (pe_ix ix_list (pv 0) pe_int (by intro _ _; rfl)) pe_int) (pg_sub (pv 0) pe_int set_list))
  (pss_cons (ps_set (i := 2) sc__law_draw.nd rfl (.inl rfl) pe_int)
  (pss_cons (ps_set (i := 3) sc__law_draw.nd rfl (.inl rfl) (pe_un un_neg pe_int))
  (pss_cons (ps_if (pt_cmpR op_gt (pe_callB call_len (by rfl) z_len (by rfl) (pa_cons (pe_ix ix_list (pv 0) pe_int (by intro _ _; rfl)) pa_nil)) pe_int (nomark _))
      (pss_cons (ps_set (i := 3) sc__law_draw.nd rfl (.inl rfl) (pe_op op_mod (pe_ix ix_list (pv 0) pe_int (by intro _ _; rfl)) (pe_callB call_len (by rfl) z_len (by rfl) (pa_cons (pe_ix ix_list (pv 0) pe_int (by intro _ _; rfl)) pa_nil))))
        (pss_one (ps_set (i := 2) sc__law_draw.nd rfl (.inl rfl) (pe_ix ix_list (pe_ix ix_list (pv 0) pe_int (by intro _ _; rfl)) (pv 3) (by intro _ _; rfl))))) pss_nil)
  (pss_cons (ps_if (pt_cmpR op_ge (pv 2) (pe_op op_pow pe_int pe_int) (nomark _))
      (pss_cons (ps_asg (pe_op op_fdiv (pv 2) (pv 1)) (pg_sub (pe_ix ix_list (pv 0) pe_int (by intro _ _; rfl)) (pv 3) set_list)) (pss_one (ps_ret (pe_op op_mod (pv 2) (pv 1))))) pss_nil)
  (pss_one (ps_ret (pe_op op_mod (pe_op op_mod (pe_op op_pow (pe_op op_add (pe_op op_add (pe_op op_mod (pv 2) pe_int) (pe_op op_mul pe_int (pe_ix ix_list (pv 0) pe_int (by intro _ _; rfl)))) pe_int) pe_int) pe_int) (pv 1))))))))
end
def tb : Nat → Option FSem
  | 218 => some (.df ⟨1, 1, B_joined_or_none⟩)
  | 215 => some (.df ⟨3, 1, B_slides_text⟩)
  | 337 => some (.df ⟨2, 1, B_parse_number⟩)
  | 340 => some (.df ⟨4, 2, B_parse_pair⟩)
  | 214 => some (.df ⟨5, 1, B_parse_slides⟩)
  | 213 => some (.df ⟨4, 2, B__law_same⟩)
  | 206 => some (.df ⟨4, 2, B__law_pairs_text⟩)
  | 210 => some (.df ⟨2, 1, B__law_odd⟩)
  | 209 => some (.df ⟨7, 2, B__law_bent⟩)
  | 313 => some (.df ⟨2, 1, B__law_number⟩)
  | 216 => some (.df ⟨6, 1, B__law_due⟩)
  | 217 => some (.df ⟨2, 1, B__law_told⟩)
  | 183 => some (.prim drawE)
  | _ => none
section
variable {P : Program} {w : World} {K : PySem.W.Frag} {mg : Str → Option Value} {base : Heap} {C : Nat → Addr}
structure Txt (K : PySem.W.Frag) (mg : Str → Option Value) (C : Nat → Addr) : Prop where
  f_joined_or_none : ∃ fa fd, Fun K "joined_or_none" "joined_or_none" st_joined_or_none fa fd ∧ mg "joined_or_none" = some (.ref fa) ∧ Binds K fd ["words"] []
  f_slides_text : ∃ fa fd, Fun K "slides_text" "slides_text" st_slides_text fa fd ∧ mg "slides_text" = some (.ref fa) ∧ Binds K fd ["slides"] []
  f_parse_number : ∃ fa fd, Fun K "parse_number" "parse_number" st_parse_number fa fd ∧ mg "parse_number" = some (.ref fa) ∧ Binds K fd ["word"] []
  f_parse_pair : ∃ fa fd, Fun K "parse_pair" "parse_pair" st_parse_pair fa fd ∧ mg "parse_pair" = some (.ref fa) ∧ Binds K fd ["word", "sign"] []
  f_parse_slides : ∃ fa fd, Fun K "parse_slides" "parse_slides" st_parse_slides fa fd ∧ mg "parse_slides" = some (.ref fa) ∧ Binds K fd ["text"] []
  f__law_same : ∃ fa fd, Fun K "_law_same" "_law_same" st__law_same fa fd ∧ mg "_law_same" = some (.ref fa) ∧ Binds K fd ["_law_found", "_law_due_here"] []
  f__law_pairs_text : ∃ fa fd, Fun K "_law_pairs_text" "_law_pairs_text" st__law_pairs_text fa fd ∧ mg "_law_pairs_text" = some (.ref fa) ∧ Binds K fd ["_law_pairs", "_law_sign"] []
  f__law_odd : ∃ fa fd, Fun K "_law_odd" "_law_odd" st__law_odd fa fd ∧ mg "_law_odd" = some (.ref fa) ∧ Binds K fd ["_law_deck_here"] []
  f__law_bent : ∃ fa fd, Fun K "_law_bent" "_law_bent" st__law_bent fa fd ∧ mg "_law_bent" = some (.ref fa) ∧ Binds K fd ["_law_deck_here", "_law_text"] []
  f__law_number : ∃ fa fd, Fun K "_law_number" "_law_number" st__law_number fa fd ∧ mg "_law_number" = some (.ref fa) ∧ Binds K fd ["_law_part"] []
  f__law_due : ∃ fa fd, Fun K "_law_due" "_law_due" st__law_due fa fd ∧ mg "_law_due" = some (.ref fa) ∧ Binds K fd ["_law_text"] []
  f__law_told : ∃ fa fd, Fun K "_law_told" "_law_told" st__law_told fa fd ∧ mg "_law_told" = some (.ref fa) ∧ Binds K fd ["_law_text"] []
  f__law_draw : ∃ fa fd, Fun K "_law_draw" "_law_draw" st__law_draw fa fd ∧ mg "_law_draw" = some (.ref fa) ∧ Binds K fd ["_law_deck_here", "_law_many"] []
  f__law_deck : ∃ fa fd, Fun K "_law_deck" "_law_deck" st__law_deck fa fd ∧ mg "_law_deck" = some (.ref fa) ∧ Binds K fd ["_law_script"] []
  f_law : ∃ fa fd, Fun K "law" "law" st_law fa fd ∧ mg "law" = some (.ref fa) ∧ Binds K fd ["_law_script"] []
  z_LookupError : mg "LookupError" = none
  z_abs : mg "abs" = none
  z_all : mg "all" = none
  z_bool : mg "bool" = none
  z_enumerate : mg "enumerate" = none
  z_int : mg "int" = none
  z_isinstance : mg "isinstance" = none
  z_len : mg "len" = none
  z_range : mg "range" = none
  z_repr : mg "repr" = none
  z_str : mg "str" = none
  z_tuple : mg "tuple" = none
  z_zip : mg "zip" = none
  c_FIGURES : ∃ t, mg "FIGURES" = some (.str "0123456789" t)
  c_LONGEST : ∃ t, mg "LONGEST" = some (.int 2 t)
  c_NONE : ∃ t, mg "NONE" = some (.str "none" t)
  k_BadText_LampError : PySem.W.kitOne K (.ref (C 18)) (.ref (C 0)) = some true
  kt_BadText_BadForest_BadSlides_LookupError : PySem.W.kitAny K (.ref (C 18)) [.ref (C 14), .ref (C 10), .type "LookupError"] = some false
  m_BadForest : mg "BadForest" = some (.ref (C 14))
  m_BadSlides : mg "BadSlides" = some (.ref (C 10))
  m_BadText : mg "BadText" = some (.ref (C 18))
  m_LampError : mg "LampError" = some (.ref (C 0))
  s_BadText_BadText : PySem.W.exmOne K (.ref (C 18)) (.ref (C 18)) = some true
  o_BadText : OexC K (C 18)
  n_BadText : PySem.W.findIn K (.ref (C 18)) "index" = some none
  x_BadText : Xcl K (C 18)
  i_BadText : ∃ fI fd, Fun K "__init__" "BadText.__init__" st_ini_BadText fI fd ∧ PySem.W.findIn K (.ref (C 18)) "__init__" = some (some (.ref fI)) ∧ PySem.W.typeIn K (.ref fI) = some (.type "function") ∧ Binds K fd ["self", "index"] []
theorem ini_BadText {fI : Addr} {fd : FuncData} (F : Fun K "__init__" "BadText.__init__" st_ini_BadText fI fd) : FnOk P w K mg base CX0 1 fI fd ["self", "index"] (spIni K "index") :=
  F.ok sc_ini_BadText (fun vs H Q E ⟨a, C, y, e, _⟩ => by rw [e]; rfl) fun cdv A outer s H vs Q E hr h => ⟨_, pss_one (ps_ost (pv 0) (pv 1)), ini_body rfl h⟩
theorem xf_of (T : Txt K mg C) : Xf P w K mg base C := by
  obtain ⟨fI_BadText, fd_BadText, F_BadText, a_BadText, b_BadText, g_BadText⟩ := T.i_BadText
  exact ⟨T.k_BadText_LampError, T.kt_BadText_BadForest_BadSlides_LookupError, T.m_BadForest, T.m_BadSlides, T.m_BadText, T.m_LampError, T.s_BadText_BadText, ⟨⟨fI_BadText, fd_BadText, _, T.o_BadText, a_BadText, b_BadText, ini_BadText F_BadText, g_BadText⟩, T.m_BadText, T.n_BadText⟩, T.x_BadText⟩
structure Tab (P : Program) (w : World) (K : PySem.W.Frag) (mg : Str → Option Value) (base : Heap) (C : Nat → Addr) (k : Nat) : Prop where
  h_joined_or_none : FnT P w K mg base (xcF C) (run tb k) (k + 2) "joined_or_none" 218 1
  h_slides_text : FnT P w K mg base (xcF C) (run tb k) (k + 2) "slides_text" 215 1
  h_parse_number : FnT P w K mg base (xcF C) (run tb k) (k + 2) "parse_number" 337 1
  h_parse_pair : FnT P w K mg base (xcF C) (run tb k) (k + 2) "parse_pair" 340 2
  h_parse_slides : FnT P w K mg base (xcF C) (run tb k) (k + 2) "parse_slides" 214 1
  h__law_same : FnT P w K mg base (xcF C) (run tb k) (k + 2) "_law_same" 213 2
  h__law_pairs_text : FnT P w K mg base (xcF C) (run tb k) (k + 2) "_law_pairs_text" 206 2
  h__law_odd : FnT P w K mg base (xcF C) (run tb k) (k + 2) "_law_odd" 210 1
  h__law_bent : FnT P w K mg base (xcF C) (run tb k) (k + 2) "_law_bent" 209 2
  h__law_number : FnT P w K mg base (xcF C) (run tb k) (k + 2) "_law_number" 313 1
  h__law_due : FnT P w K mg base (xcF C) (run tb k) (k + 2) "_law_due" 216 1
  h__law_told : FnT P w K mg base (xcF C) (run tb k) (k + 2) "_law_told" 217 1
  h__law_draw : FnT P w K mg base (xcF C) (run tb k) (k + 2) "_law_draw" 183 2
theorem tab (T : Txt K mg C) : ∀ k, Tab P w K mg base C k
  | 0 => by
    refine ⟨?_, ?_, ?_, ?_, ?_, ?_, ?_, ?_, ?_, ?_, ?_, ?_, ?_⟩
    · obtain ⟨fa, fd, F, m, b⟩ := T.f_joined_or_none; exact FnT.zeroJ F m b
    · obtain ⟨fa, fd, F, m, b⟩ := T.f_slides_text; exact FnT.zeroJ F m b
    · obtain ⟨fa, fd, F, m, b⟩ := T.f_parse_number; exact FnT.zeroJ F m b
    · obtain ⟨fa, fd, F, m, b⟩ := T.f_parse_pair; exact FnT.zeroJ F m b
    · obtain ⟨fa, fd, F, m, b⟩ := T.f_parse_slides; exact FnT.zeroJ F m b
    · obtain ⟨fa, fd, F, m, b⟩ := T.f__law_same; exact FnT.zeroJ F m b
    · obtain ⟨fa, fd, F, m, b⟩ := T.f__law_pairs_text; exact FnT.zeroJ F m b
    · obtain ⟨fa, fd, F, m, b⟩ := T.f__law_odd; exact FnT.zeroJ F m b
    · obtain ⟨fa, fd, F, m, b⟩ := T.f__law_bent; exact FnT.zeroJ F m b
    · obtain ⟨fa, fd, F, m, b⟩ := T.f__law_number; exact FnT.zeroJ F m b
    · obtain ⟨fa, fd, F, m, b⟩ := T.f__law_due; exact FnT.zeroJ F m b
    · obtain ⟨fa, fd, F, m, b⟩ := T.f__law_told; exact FnT.zeroJ F m b
    · obtain ⟨fa, fd, F, m, b⟩ := T.f__law_draw; exact FnT.zeroJ F m b
  | k + 1 => by
    have I := tab T k
    have XF : Xf P w K mg base C := xf_of T
    refine ⟨?_, ?_, ?_, ?_, ?_, ?_, ?_, ?_, ?_, ?_, ?_, ?_, ?_⟩
    · obtain ⟨fa, fd, F, m, b⟩ := T.f_joined_or_none; exact FnT.walkJ F m b sc_joined_or_none rfl (w_joined_or_none T.c_NONE)
    · obtain ⟨fa, fd, F, m, b⟩ := T.f_slides_text; exact FnT.walkJ F m b sc_slides_text rfl (w_slides_text I.h_joined_or_none)
    · obtain ⟨fa, fd, F, m, b⟩ := T.f_parse_number; exact FnT.walkJ F m b sc_parse_number rfl (w_parse_number T.z_all T.z_int T.z_len T.c_FIGURES T.c_LONGEST)
    · obtain ⟨fa, fd, F, m, b⟩ := T.f_parse_pair; exact FnT.walkJ F m b sc_parse_pair rfl (w_parse_pair T.z_len T.z_tuple I.h_parse_number)
    · obtain ⟨fa, fd, F, m, b⟩ := T.f_parse_slides; exact FnT.walkJ F m b sc_parse_slides rfl (w_parse_slides T.z_enumerate T.z_isinstance T.z_str T.z_tuple T.c_NONE (by omega) XF I.h_parse_pair)
    · obtain ⟨fa, fd, F, m, b⟩ := T.f__law_same; exact FnT.walkJ F m b sc__law_same rfl (w__law_same T.z_bool T.z_int T.z_isinstance T.z_len T.z_str T.z_tuple T.z_zip I.h__law_same)
    · obtain ⟨fa, fd, F, m, b⟩ := T.f__law_pairs_text; exact FnT.walkJ F m b sc__law_pairs_text rfl (w__law_pairs_text T.z_int T.z_len T.z_str)
    · obtain ⟨fa, fd, F, m, b⟩ := T.f__law_odd; exact FnT.walkJ F m b sc__law_odd rfl (w__law_odd I.h__law_draw)
    · obtain ⟨fa, fd, F, m, b⟩ := T.f__law_bent; exact FnT.walkJ F m b sc__law_bent rfl (w__law_bent T.z_len I.h__law_draw)
    · obtain ⟨fa, fd, F, m, b⟩ := T.f__law_number; exact FnT.walkJ F m b sc__law_number rfl (w__law_number T.z_int T.z_len)
    · obtain ⟨fa, fd, F, m, b⟩ := T.f__law_due; exact FnT.walkJ F m b sc__law_due rfl (w__law_due T.z_enumerate T.z_isinstance T.z_len T.z_str T.z_tuple I.h__law_number)
    · obtain ⟨fa, fd, F, m, b⟩ := T.f__law_told; exact FnT.walkJ F m b sc__law_told rfl (w__law_told T.z_LookupError T.z_isinstance (by omega) XF I.h_parse_slides)
    · obtain ⟨fa, fd, F, m, b⟩ := T.f__law_draw; exact FnT.more (FnT.prim F m b sc__law_draw rfl rfl (fun _ _ h => drawE_len h) fun cdv A outer s H E bd => ⟨_, w__law_draw T.z_len, fun vs Q h => drawE_body rfl h⟩) (by omega)
def LawOk (ns : List Int) : Prop := ∃ m, exs (run tb 10) B_law ⟨(List.replicate 9 Slot.un).set 1 (.dk 0), ⟨ns.map absI, 0, [], []⟩⟩ = .ok (.rt (.v (.bool true))) m
theorem ok_deck (T : Txt K mg C) : ∃ fa fd, FnG P w K mg base (L2.CX P w) 1 fa fd ["_law_script"] (spDeck K) ∧ mg "_law_deck" = some (.ref fa) ∧ PySem.W.keepIn K (.ref fa) = true ∧ Binds K fd ["_law_script"] [] := by
  obtain ⟨fa, fd, F, m, b⟩ := T.f__law_deck
  exact ⟨fa, fd, FnG.walk F sc__law_deck (fun vs H Q E ⟨a, ns, e, _⟩ => by rw [e]; rfl) fun cdv A outer s H E bd => ⟨_, w__law_deck T.z_abs, fun vs Q h => deck_body rfl h⟩, m, F.kp, b⟩
theorem w_law (z_range : mg "range" = none) (z_repr : mg "repr" = none) (z_tuple : mg "tuple" = none) (h__law_bent : FnT P w K mg base (xcF C) (run tb 10) 12 "_law_bent" 209 2) (h__law_draw : FnT P w K mg base (xcF C) (run tb 10) 12 "_law_draw" 183 2) (h__law_due : FnT P w K mg base (xcF C) (run tb 10) 12 "_law_due" 216 1) (h__law_odd : FnT P w K mg base (xcF C) (run tb 10) 12 "_law_odd" 210 1) (h__law_pairs_text : FnT P w K mg base (xcF C) (run tb 10) 12 "_law_pairs_text" 206 2) (h__law_same : FnT P w K mg base (xcF C) (run tb 10) 12 "_law_same" 213 2) (h__law_told : FnT P w K mg base (xcF C) (run tb 10) 12 "_law_told" 217 1) (h_parse_slides : FnT P w K mg base (xcF C) (run tb 10) 12 "parse_slides" 214 1) (h_slides_text : FnT P w K mg base (xcF C) (run tb 10) 12 "slides_text" 215 1) {f : Addr} {cdv : Value} {A : Around} {outer : List PySem.Env} {s : Shared} {H : Hp} {E : XK} (b : Bd (CxD P w K mg base N_law "law" st_law f cdv A outer s H E) (fun c d _ H => E c d H) 12) : DSs (CxD P w K mg base N_law "law" st_law f cdv A outer s H E) (xcF C) (fun c d _ H => E c d H) (run tb 10) (defBody st_law).tail B_law :=
  (ds_cons (s_set b 2 (de_lst (da_cons de_str (da_cons de_str (da_cons de_str (da_cons de_str (da_cons de_str (da_cons de_str (da_cons de_str (da_cons de_str (da_cons de_str (da_cons de_str (da_cons de_str (da_cons de_str (da_cons de_str da_nil)))))))))))))))
  (ds_cons (s_set b 2 (d_add (d_v 2) (de_lst (da_cons de_str (da_cons de_str (da_cons de_str (da_cons de_str (da_cons de_str (da_cons de_str (da_cons de_str (da_cons de_str (da_cons de_str (da_cons de_str (da_cons de_str da_nil))))))))))))))
  (ds_cons (s_app b 2 de_str)
  (ds_cons (s_set b 2 (d_add (d_v 2) (de_lst (da_cons de_str (da_cons de_str (da_cons de_str (da_cons de_str (da_cons de_str (da_cons de_str (da_cons de_str (da_cons de_str (da_cons de_str (da_cons de_str da_nil)))))))))))))
  (ds_cons (s_for b (i_rng1 b z_range de_int) (g_nm b 3) (ds_cons (s_set b 5 (d_tuple b z_tuple (da_cons (d_lc b [("_law_k", 3)] (i_rng1 b z_range (d_call b h__law_draw (da_cons (d_v 1) (da_cons de_int da_nil)))) (fun b' => (g_nm b' 3)) (fun b' => dts_nil) (fun b' => (de_tup (da_cons (d_call b' h__law_draw (da_cons (d_v 1) (da_cons de_int da_nil))) (da_cons (d_call b' h__law_draw (da_cons (d_v 1) (da_cons de_int da_nil))) da_nil))))) da_nil)))
  (ds_cons (s_set b 6 (d_call b h__law_pairs_text (da_cons (d_v 5) (da_cons de_str da_nil))))
  (ds_cons (ds_if (dt_pw (dw_or (dt_not (dt_tru (d_call b h__law_same (da_cons (d_call b h_parse_slides (da_cons (d_v 6) da_nil)) (da_cons (d_v 5) da_nil))))) (dw_or1 (t_ne b (d_call b h_slides_text (da_cons (d_v 5) da_nil)) (d_v 6))))) (ds_cons (ds_ret de_bl)
  ds_nil) ds_nil)
  (ds_cons (s_for b (i_rng1 b z_range de_int) (g_nm b 7) (ds_cons (s_set b 2 (d_add (d_v 2) (de_lst (da_cons (d_call b h__law_bent (da_cons (d_v 1) (da_cons (d_v 6) da_nil))) (da_cons (d_call b h__law_bent (da_cons (d_v 1) (da_cons (d_call b h__law_bent (da_cons (d_v 1) (da_cons (d_v 6) da_nil))) da_nil))) da_nil)))))
  ds_nil))
  (ds_cons (s_set b 2 (d_add (d_v 2) (de_lst (da_cons (de_lst (da_cons (d_v 6) da_nil)) (da_cons (d_v 5) (da_cons (d_call b h__law_odd (da_cons (d_v 1) da_nil)) da_nil))))))
  ds_nil))))))
  (ds_cons (s_for b (di_e (d_add (d_v 2) (de_lst (da_cons de_non (da_cons de_int (da_cons de_bl (da_cons (de_tup (da_cons de_str da_nil)) da_nil))))))) (g_nm b 4) (ds_cons (s_set b 8 (d_repr b z_repr (da_cons (d_v 4) da_nil)))
  (ds_cons (ds_if (dt_pw (dw_or (dt_not (dt_tru (d_call b h__law_same (da_cons (d_call b h__law_told (da_cons (d_v 4) da_nil)) (da_cons (d_call b h__law_due (da_cons (d_v 4) da_nil)) da_nil))))) (dw_or1 (t_ne b (d_repr b z_repr (da_cons (d_v 4) da_nil)) (d_v 8))))) (ds_cons (ds_ret de_bl)
  ds_nil) ds_nil)
  ds_nil)))
  (ds_cons (ds_ret de_bl)
  ds_nil)))))))
theorem ok_law (T : Txt K mg C) {fa : Addr} {fd : FuncData} (F : Fun K "law" "law" st_law fa fd) : FnG P w K mg base (L2.CX P w) 13 fa fd ["_law_script"] (spLaw K LawOk) := by
  obtain ⟨fd1, fx1, G, hm, hk, hb⟩ := ok_deck (P := P) (w := w) (base := base) T
  have I := tab (P := P) (w := w) (base := base) T 10
  refine FnG.walk F sc_law (fun vs H Q E ⟨a, ns, e, _⟩ => by rw [e]; rfl) fun cdv A outer s H E b => ⟨_, pss_cons (ps_set (i := 1) sc_law.nd rfl (by first | exact Or.inl rfl | exact Or.inr rfl) (pe_callG (E := fun σ c d H => E c d H) G b.ok.gd (b.room.mono (by decide)) (by rfl) hm hk hb (fun σ => L2.passAt b.takes σ) (pa_cons (pv 0) pa_nil))) (w_law T.z_range T.z_repr T.z_tuple I.h__law_bent I.h__law_draw I.h__law_due I.h__law_odd I.h__law_pairs_text I.h__law_same I.h__law_told I.h_parse_slides I.h_slides_text b), fun vs Q h => ?_⟩
  exact law_body (N := N_law) (by decide) (by decide) h
end
def mkC (C_BadForest C_BadSlides C_BadText C_LampError : Addr) : Nat → Addr
  | 14 => C_BadForest
  | 10 => C_BadSlides
  | 18 => C_BadText
  | 0 => C_LampError
  | _ => 0
theorem all_mk {P : Program} {w : World} {K : PySem.W.Frag} {h : Heap} {mg : Str → Option Value} {fa : Addr} {f0 : Addr} {f1 : Addr} {f2 : Addr} {f3 : Addr} {f4 : Addr} {f5 : Addr} {f6 : Addr} {f7 : Addr} {f8 : Addr} {f9 : Addr} {f10 : Addr} {f11 : Addr} {f12 : Addr} {f13 : Addr} {f14 : Addr} (X : K.In h) (G : h.Ns mainGlobals mg) (hfa : mg "law" = some (.ref fa))
    {od0 an0 : Option Addr} {sl0 : Array (Option Value)} {oc0 kV0 dc0 pm0 cd0 ct0 : Value}
    {od1 an1 : Option Addr} {sl1 : Array (Option Value)} {oc1 kV1 dc1 pm1 cd1 ct1 : Value}
    {od2 an2 : Option Addr} {sl2 : Array (Option Value)} {oc2 kV2 dc2 pm2 cd2 ct2 : Value}
    {od3 an3 : Option Addr} {sl3 : Array (Option Value)} {oc3 kV3 dc3 pm3 cd3 ct3 : Value}
    {od4 an4 : Option Addr} {sl4 : Array (Option Value)} {oc4 kV4 dc4 pm4 cd4 ct4 : Value}
    {od5 an5 : Option Addr} {sl5 : Array (Option Value)} {oc5 kV5 dc5 pm5 cd5 ct5 : Value}
    {od6 an6 : Option Addr} {sl6 : Array (Option Value)} {oc6 kV6 dc6 pm6 cd6 ct6 : Value}
    {od7 an7 : Option Addr} {sl7 : Array (Option Value)} {oc7 kV7 dc7 pm7 cd7 ct7 : Value}
    {od8 an8 : Option Addr} {sl8 : Array (Option Value)} {oc8 kV8 dc8 pm8 cd8 ct8 : Value}
    {od9 an9 : Option Addr} {sl9 : Array (Option Value)} {oc9 kV9 dc9 pm9 cd9 ct9 : Value}
    {od10 an10 : Option Addr} {sl10 : Array (Option Value)} {oc10 kV10 dc10 pm10 cd10 ct10 : Value}
    {od11 an11 : Option Addr} {sl11 : Array (Option Value)} {oc11 kV11 dc11 pm11 cd11 ct11 : Value}
    {od12 an12 : Option Addr} {sl12 : Array (Option Value)} {oc12 kV12 dc12 pm12 cd12 ct12 : Value}
    {od13 an13 : Option Addr} {sl13 : Array (Option Value)} {oc13 kV13 dc13 pm13 cd13 ct13 : Value}
    {od14 an14 : Option Addr} {sl14 : Array (Option Value)} {oc14 kV14 dc14 pm14 cd14 ct14 : Value}
    (a0 : PySem.W.nsIn K mainGlobals "joined_or_none" = some (some (.ref f0))) (l0 : K.lookup f0 = some ⟨oc0, od0, .func (PySem.W.fnOf "joined_or_none" "joined_or_none" (defArgs st_joined_or_none) (defBody st_joined_or_none) (defScope st_joined_or_none) .none kV0 dc0 pm0 an0 cd0 ct0), sl0⟩) (c0 : PySem.W.codeIn K cd0 "joined_or_none" = true) (k0 : PySem.W.keepIn K (.ref f0) = true)
    (a1 : PySem.W.nsIn K mainGlobals "slides_text" = some (some (.ref f1))) (l1 : K.lookup f1 = some ⟨oc1, od1, .func (PySem.W.fnOf "slides_text" "slides_text" (defArgs st_slides_text) (defBody st_slides_text) (defScope st_slides_text) .none kV1 dc1 pm1 an1 cd1 ct1), sl1⟩) (c1 : PySem.W.codeIn K cd1 "slides_text" = true) (k1 : PySem.W.keepIn K (.ref f1) = true)
    (a2 : PySem.W.nsIn K mainGlobals "parse_number" = some (some (.ref f2))) (l2 : K.lookup f2 = some ⟨oc2, od2, .func (PySem.W.fnOf "parse_number" "parse_number" (defArgs st_parse_number) (defBody st_parse_number) (defScope st_parse_number) .none kV2 dc2 pm2 an2 cd2 ct2), sl2⟩) (c2 : PySem.W.codeIn K cd2 "parse_number" = true) (k2 : PySem.W.keepIn K (.ref f2) = true)
    (a3 : PySem.W.nsIn K mainGlobals "parse_pair" = some (some (.ref f3))) (l3 : K.lookup f3 = some ⟨oc3, od3, .func (PySem.W.fnOf "parse_pair" "parse_pair" (defArgs st_parse_pair) (defBody st_parse_pair) (defScope st_parse_pair) .none kV3 dc3 pm3 an3 cd3 ct3), sl3⟩) (c3 : PySem.W.codeIn K cd3 "parse_pair" = true) (k3 : PySem.W.keepIn K (.ref f3) = true)
    (a4 : PySem.W.nsIn K mainGlobals "parse_slides" = some (some (.ref f4))) (l4 : K.lookup f4 = some ⟨oc4, od4, .func (PySem.W.fnOf "parse_slides" "parse_slides" (defArgs st_parse_slides) (defBody st_parse_slides) (defScope st_parse_slides) .none kV4 dc4 pm4 an4 cd4 ct4), sl4⟩) (c4 : PySem.W.codeIn K cd4 "parse_slides" = true) (k4 : PySem.W.keepIn K (.ref f4) = true)
    (a5 : PySem.W.nsIn K mainGlobals "_law_same" = some (some (.ref f5))) (l5 : K.lookup f5 = some ⟨oc5, od5, .func (PySem.W.fnOf "_law_same" "_law_same" (defArgs st__law_same) (defBody st__law_same) (defScope st__law_same) .none kV5 dc5 pm5 an5 cd5 ct5), sl5⟩) (c5 : PySem.W.codeIn K cd5 "_law_same" = true) (k5 : PySem.W.keepIn K (.ref f5) = true)
    (a6 : PySem.W.nsIn K mainGlobals "_law_pairs_text" = some (some (.ref f6))) (l6 : K.lookup f6 = some ⟨oc6, od6, .func (PySem.W.fnOf "_law_pairs_text" "_law_pairs_text" (defArgs st__law_pairs_text) (defBody st__law_pairs_text) (defScope st__law_pairs_text) .none kV6 dc6 pm6 an6 cd6 ct6), sl6⟩) (c6 : PySem.W.codeIn K cd6 "_law_pairs_text" = true) (k6 : PySem.W.keepIn K (.ref f6) = true)
    (a7 : PySem.W.nsIn K mainGlobals "_law_odd" = some (some (.ref f7))) (l7 : K.lookup f7 = some ⟨oc7, od7, .func (PySem.W.fnOf "_law_odd" "_law_odd" (defArgs st__law_odd) (defBody st__law_odd) (defScope st__law_odd) .none kV7 dc7 pm7 an7 cd7 ct7), sl7⟩) (c7 : PySem.W.codeIn K cd7 "_law_odd" = true) (k7 : PySem.W.keepIn K (.ref f7) = true)
    (a8 : PySem.W.nsIn K mainGlobals "_law_bent" = some (some (.ref f8))) (l8 : K.lookup f8 = some ⟨oc8, od8, .func (PySem.W.fnOf "_law_bent" "_law_bent" (defArgs st__law_bent) (defBody st__law_bent) (defScope st__law_bent) .none kV8 dc8 pm8 an8 cd8 ct8), sl8⟩) (c8 : PySem.W.codeIn K cd8 "_law_bent" = true) (k8 : PySem.W.keepIn K (.ref f8) = true)
    (a9 : PySem.W.nsIn K mainGlobals "_law_number" = some (some (.ref f9))) (l9 : K.lookup f9 = some ⟨oc9, od9, .func (PySem.W.fnOf "_law_number" "_law_number" (defArgs st__law_number) (defBody st__law_number) (defScope st__law_number) .none kV9 dc9 pm9 an9 cd9 ct9), sl9⟩) (c9 : PySem.W.codeIn K cd9 "_law_number" = true) (k9 : PySem.W.keepIn K (.ref f9) = true)
    (a10 : PySem.W.nsIn K mainGlobals "_law_due" = some (some (.ref f10))) (l10 : K.lookup f10 = some ⟨oc10, od10, .func (PySem.W.fnOf "_law_due" "_law_due" (defArgs st__law_due) (defBody st__law_due) (defScope st__law_due) .none kV10 dc10 pm10 an10 cd10 ct10), sl10⟩) (c10 : PySem.W.codeIn K cd10 "_law_due" = true) (k10 : PySem.W.keepIn K (.ref f10) = true)
    (a11 : PySem.W.nsIn K mainGlobals "_law_told" = some (some (.ref f11))) (l11 : K.lookup f11 = some ⟨oc11, od11, .func (PySem.W.fnOf "_law_told" "_law_told" (defArgs st__law_told) (defBody st__law_told) (defScope st__law_told) .none kV11 dc11 pm11 an11 cd11 ct11), sl11⟩) (c11 : PySem.W.codeIn K cd11 "_law_told" = true) (k11 : PySem.W.keepIn K (.ref f11) = true)
    (a12 : PySem.W.nsIn K mainGlobals "_law_draw" = some (some (.ref f12))) (l12 : K.lookup f12 = some ⟨oc12, od12, .func (PySem.W.fnOf "_law_draw" "_law_draw" (defArgs st__law_draw) (defBody st__law_draw) (defScope st__law_draw) .none kV12 dc12 pm12 an12 cd12 ct12), sl12⟩) (c12 : PySem.W.codeIn K cd12 "_law_draw" = true) (k12 : PySem.W.keepIn K (.ref f12) = true)
    (a13 : PySem.W.nsIn K mainGlobals "_law_deck" = some (some (.ref f13))) (l13 : K.lookup f13 = some ⟨oc13, od13, .func (PySem.W.fnOf "_law_deck" "_law_deck" (defArgs st__law_deck) (defBody st__law_deck) (defScope st__law_deck) .none kV13 dc13 pm13 an13 cd13 ct13), sl13⟩) (c13 : PySem.W.codeIn K cd13 "_law_deck" = true) (k13 : PySem.W.keepIn K (.ref f13) = true)
    (a14 : PySem.W.nsIn K mainGlobals "law" = some (some (.ref f14))) (l14 : K.lookup f14 = some ⟨oc14, od14, .func (PySem.W.fnOf "law" "law" (defArgs st_law) (defBody st_law) (defScope st_law) .none kV14 dc14 pm14 an14 cd14 ct14), sl14⟩) (c14 : PySem.W.codeIn K cd14 "law" = true) (k14 : PySem.W.keepIn K (.ref f14) = true)
    (z0 : PySem.W.nsIn K mainGlobals "LookupError" = some none)
    (z1 : PySem.W.nsIn K mainGlobals "abs" = some none)
    (z2 : PySem.W.nsIn K mainGlobals "all" = some none)
    (z3 : PySem.W.nsIn K mainGlobals "bool" = some none)
    (z4 : PySem.W.nsIn K mainGlobals "enumerate" = some none)
    (z5 : PySem.W.nsIn K mainGlobals "int" = some none)
    (z6 : PySem.W.nsIn K mainGlobals "isinstance" = some none)
    (z7 : PySem.W.nsIn K mainGlobals "len" = some none)
    (z8 : PySem.W.nsIn K mainGlobals "range" = some none)
    (z9 : PySem.W.nsIn K mainGlobals "repr" = some none)
    (z10 : PySem.W.nsIn K mainGlobals "str" = some none)
    (z11 : PySem.W.nsIn K mainGlobals "tuple" = some none)
    (z12 : PySem.W.nsIn K mainGlobals "zip" = some none)
    {t0 : Tok} (q0 : PySem.W.nsIn K mainGlobals "FIGURES" = some (some (.str "0123456789" t0)))
    {t1 : Tok} (q1 : PySem.W.nsIn K mainGlobals "LONGEST" = some (some (.int 2 t1)))
    {t2 : Tok} (q2 : PySem.W.nsIn K mainGlobals "NONE" = some (some (.str "none" t2)))
    {C_BadForest : Addr} {C_BadSlides : Addr} {C_BadText : Addr} {C_LampError : Addr}
    (m_BadForest : PySem.W.nsIn K mainGlobals "BadForest" = some (some (.ref C_BadForest)))
    (m_BadSlides : PySem.W.nsIn K mainGlobals "BadSlides" = some (some (.ref C_BadSlides)))
    (m_BadText : PySem.W.nsIn K mainGlobals "BadText" = some (some (.ref C_BadText)))
    (m_LampError : PySem.W.nsIn K mainGlobals "LampError" = some (some (.ref C_LampError)))
    (hn : PySem.W.specialIn K (.builtin "object.__class__") "__get__" = some (some (.builtin "getset_descriptor.__get__"))) (ht : PySem.W.takesIn K (.builtin "object.__class__") = some true)
    (xb_BadText : PySem.W.subIn K (.ref C_BadText) (.type "BaseException") = some true) (xd_BadText : PySem.W.hasDictIn K C_BadText = true) (xt_BadText : PySem.W.typeIn K (.ref C_BadText) = some (.type "type"))
    (k_BadText_LampError : PySem.W.kitOne K (.ref C_BadText) (.ref C_LampError) = some true)
    (kt_BadText_BadForest_BadSlides_LookupError : PySem.W.kitAny K (.ref C_BadText) [.ref C_BadForest, .ref C_BadSlides, .type "LookupError"] = some false)
    (s_BadText_BadText : PySem.W.subIn K (.ref C_BadText) (.ref C_BadText) = some true)
    {nm_BadText qn_BadText : Str} {N_BadText : Addr} {bs_BadText bm_BadText sub_BadText : List Value} {sn_BadText : List Str} {ab_BadText : Bool} {col_BadText : Option Bool} {dd_BadText : Option Addr} {k0_BadText k1_BadText k2_BadText k3_BadText k5_BadText : Option Value}
    (oL_BadText : K.lookup C_BadText = some (excClassObj nm_BadText qn_BadText C_BadText N_BadText bs_BadText bm_BadText true sn_BadText sub_BadText ab_BadText col_BadText dd_BadText k0_BadText k1_BadText k2_BadText k3_BadText k5_BadText "ValueError.__new__")) (v_BadText : PySem.HandSPX.refsVE bm_BadText = true)
    (sa_BadText : PySem.W.findIn K (.ref C_BadText) "__setattr__" = some (some (.builtin "object.__setattr__"))) (eb_BadText : PySem.W.subIn K (.ref C_BadText) (.type "BaseException") = some true) (ty_BadText : PySem.W.typeIn K (.ref C_BadText) = some (.type "type")) (kc_BadText : PySem.W.keepIn K (.ref C_BadText) = true) (n_BadText : PySem.W.findIn K (.ref C_BadText) "index" = some none)
    (cl_BadText : PySem.W.isClsIn K C_BadText = true) (ga_BadText : PySem.W.findIn K (.ref C_BadText) "__getattribute__" = some (some (.builtin "BaseException.__getattribute__"))) (gg_BadText : PySem.W.findIn K (.ref C_BadText) "__getattr__" = some none) (ha_BadText : PySem.W.findIn K (.ref C_BadText) "__class__" = some (some (.builtin "object.__class__"))) (hm_BadText : PySem.W.mroIn K C_BadText (.type "object") = some true) (hd_BadText : PySem.W.hasDictIn K C_BadText = true)
    {fI_BadText : Addr} {iod_BadText ian_BadText : Option Addr} {isl_BadText : Array (Option Value)} {ioc_BadText ikV_BadText idc_BadText ipm_BadText icd_BadText ict_BadText : Value} (ii_BadText : PySem.W.findIn K (.ref C_BadText) "__init__" = some (some (.ref fI_BadText))) (ti_BadText : PySem.W.typeIn K (.ref fI_BadText) = some (.type "function"))
    (li_BadText : K.lookup fI_BadText = some ⟨ioc_BadText, iod_BadText, .func (PySem.W.fnOf "__init__" "BadText.__init__" (defArgs st_ini_BadText) (defBody st_ini_BadText) (defScope st_ini_BadText) .none ikV_BadText idc_BadText ipm_BadText ian_BadText icd_BadText ict_BadText), isl_BadText⟩) (ci_BadText : PySem.W.codeIn K icd_BadText "BadText.__init__" = true) (ki_BadText : PySem.W.keepIn K (.ref fI_BadText) = true)
    : ∃ fd : FuncData, (∀ (s : Shared) (v : Value), BindsTo s fd ⟨[v], []⟩ [("_law_script", v)]) ∧ ∀ base : Heap, K.In base → base.Ns mainGlobals mg → FnG P w K mg base (L2.CX P w) 13 fa fd ["_law_script"] (spLaw K LawOk) := by
  have e := hfa.symm.trans (PySem.W.mg_of X G a14)
  cases e
  have T : Txt K mg (mkC C_BadForest C_BadSlides C_BadText C_LampError) := ⟨⟨_, _, fun_mk (st := st_joined_or_none) l0 c0 k0, PySem.W.mg_of X G a0, (fun_mk (st := st_joined_or_none) l0 c0 k0).binds (ps := ["words"]) fun _ _ _ _ _ _ us hl => match us, hl with | [_], _ => rfl⟩,
    ⟨_, _, fun_mk (st := st_slides_text) l1 c1 k1, PySem.W.mg_of X G a1, (fun_mk (st := st_slides_text) l1 c1 k1).binds (ps := ["slides"]) fun _ _ _ _ _ _ us hl => match us, hl with | [_], _ => rfl⟩,
    ⟨_, _, fun_mk (st := st_parse_number) l2 c2 k2, PySem.W.mg_of X G a2, (fun_mk (st := st_parse_number) l2 c2 k2).binds (ps := ["word"]) fun _ _ _ _ _ _ us hl => match us, hl with | [_], _ => rfl⟩,
    ⟨_, _, fun_mk (st := st_parse_pair) l3 c3 k3, PySem.W.mg_of X G a3, (fun_mk (st := st_parse_pair) l3 c3 k3).binds (ps := ["word", "sign"]) fun _ _ _ _ _ _ us hl => match us, hl with | [_, _], _ => rfl⟩,
    ⟨_, _, fun_mk (st := st_parse_slides) l4 c4 k4, PySem.W.mg_of X G a4, (fun_mk (st := st_parse_slides) l4 c4 k4).binds (ps := ["text"]) fun _ _ _ _ _ _ us hl => match us, hl with | [_], _ => rfl⟩,
    ⟨_, _, fun_mk (st := st__law_same) l5 c5 k5, PySem.W.mg_of X G a5, (fun_mk (st := st__law_same) l5 c5 k5).binds (ps := ["_law_found", "_law_due_here"]) fun _ _ _ _ _ _ us hl => match us, hl with | [_, _], _ => rfl⟩,
    ⟨_, _, fun_mk (st := st__law_pairs_text) l6 c6 k6, PySem.W.mg_of X G a6, (fun_mk (st := st__law_pairs_text) l6 c6 k6).binds (ps := ["_law_pairs", "_law_sign"]) fun _ _ _ _ _ _ us hl => match us, hl with | [_, _], _ => rfl⟩,
    ⟨_, _, fun_mk (st := st__law_odd) l7 c7 k7, PySem.W.mg_of X G a7, (fun_mk (st := st__law_odd) l7 c7 k7).binds (ps := ["_law_deck_here"]) fun _ _ _ _ _ _ us hl => match us, hl with | [_], _ => rfl⟩,
    ⟨_, _, fun_mk (st := st__law_bent) l8 c8 k8, PySem.W.mg_of X G a8, (fun_mk (st := st__law_bent) l8 c8 k8).binds (ps := ["_law_deck_here", "_law_text"]) fun _ _ _ _ _ _ us hl => match us, hl with | [_, _], _ => rfl⟩,
    ⟨_, _, fun_mk (st := st__law_number) l9 c9 k9, PySem.W.mg_of X G a9, (fun_mk (st := st__law_number) l9 c9 k9).binds (ps := ["_law_part"]) fun _ _ _ _ _ _ us hl => match us, hl with | [_], _ => rfl⟩,
    ⟨_, _, fun_mk (st := st__law_due) l10 c10 k10, PySem.W.mg_of X G a10, (fun_mk (st := st__law_due) l10 c10 k10).binds (ps := ["_law_text"]) fun _ _ _ _ _ _ us hl => match us, hl with | [_], _ => rfl⟩,
    ⟨_, _, fun_mk (st := st__law_told) l11 c11 k11, PySem.W.mg_of X G a11, (fun_mk (st := st__law_told) l11 c11 k11).binds (ps := ["_law_text"]) fun _ _ _ _ _ _ us hl => match us, hl with | [_], _ => rfl⟩,
    ⟨_, _, fun_mk (st := st__law_draw) l12 c12 k12, PySem.W.mg_of X G a12, (fun_mk (st := st__law_draw) l12 c12 k12).binds (ps := ["_law_deck_here", "_law_many"]) fun _ _ _ _ _ _ us hl => match us, hl with | [_, _], _ => rfl⟩,
    ⟨_, _, fun_mk (st := st__law_deck) l13 c13 k13, PySem.W.mg_of X G a13, (fun_mk (st := st__law_deck) l13 c13 k13).binds (ps := ["_law_script"]) fun _ _ _ _ _ _ us hl => match us, hl with | [_], _ => rfl⟩,
    ⟨_, _, fun_mk (st := st_law) l14 c14 k14, PySem.W.mg_of X G a14, (fun_mk (st := st_law) l14 c14 k14).binds (ps := ["_law_script"]) fun _ _ _ _ _ _ us hl => match us, hl with | [_], _ => rfl⟩,
    PySem.W.mg_none_of X G z0,
    PySem.W.mg_none_of X G z1,
    PySem.W.mg_none_of X G z2,
    PySem.W.mg_none_of X G z3,
    PySem.W.mg_none_of X G z4,
    PySem.W.mg_none_of X G z5,
    PySem.W.mg_none_of X G z6,
    PySem.W.mg_none_of X G z7,
    PySem.W.mg_none_of X G z8,
    PySem.W.mg_none_of X G z9,
    PySem.W.mg_none_of X G z10,
    PySem.W.mg_none_of X G z11,
    PySem.W.mg_none_of X G z12,
    ⟨_, PySem.W.mg_of X G q0⟩,
    ⟨_, PySem.W.mg_of X G q1⟩,
    ⟨_, PySem.W.mg_of X G q2⟩,
    k_BadText_LampError,
    kt_BadText_BadForest_BadSlides_LookupError,
    PySem.W.mg_of X G m_BadForest,
    PySem.W.mg_of X G m_BadSlides,
    PySem.W.mg_of X G m_BadText,
    PySem.W.mg_of X G m_LampError,
    PySem.W.exm_ref xb_BadText xd_BadText xt_BadText s_BadText_BadText,
    ⟨⟨nm_BadText, qn_BadText, N_BadText, bs_BadText, bm_BadText, sn_BadText, sub_BadText, ab_BadText, col_BadText, dd_BadText, k0_BadText, k1_BadText, k2_BadText, k3_BadText, k5_BadText, oL_BadText, v_BadText⟩, sa_BadText, eb_BadText, ty_BadText, kc_BadText⟩,
    n_BadText,
    ⟨cl_BadText, ga_BadText, gg_BadText, eb_BadText, ha_BadText, hn, ht, hm_BadText, hd_BadText⟩,
    ⟨fI_BadText, _, (fun_mk (st := st_ini_BadText) li_BadText ci_BadText ki_BadText), ii_BadText, ti_BadText, (fun_mk (st := st_ini_BadText) li_BadText ci_BadText ki_BadText).binds (ps := ["self", "index"]) fun _ _ _ _ _ _ us hl => match us, hl with | [_, _], _ => rfl⟩⟩
  exact ⟨_, fun s v => .of_eq rfl, fun base _ _ => ok_law T (fun_mk (st := st_law) l14 c14 k14)⟩
/-- a number between low and high -/
def isNum (v : PyData) (lo hi : Int) : Bool := match v with
  | .int i => decide (lo ≤ i) && decide (i ≤ hi)
  | _ => false
/-- a forest: its vertices, its edges -/
structure Fr where
  n : Int
  es : List (Int × Int)
def Fr.d (F : Fr) : PyData := .tuple [.int F.n, .tuple (F.es.map pr)]
theorem idxD_F0 {F : Fr} : idxD [F.d, .int 0] = some (.v (.int F.n)) := by
  unfold Fr.d; rw [idxD_t, pick_0]; rfl
theorem idxD_F1 {F : Fr} : idxD [F.d, .int 1] = some (.v (.tuple (F.es.map pr))) := by
  unfold Fr.d; rw [idxD_t, pick_1]; rfl
local macro_rules
  | `(tactic| simp! only) => `(tactic| simp only [PV.truth_none, PV.truth_bool, PV.truth_int, PV.truth_str, PV.truth_list, PV.truth_tuple, PV.truth_dict, PV.strFits_none, PV.strFits_bool, PV.strFits_int, PV.strFits_str, PV.strFits_list, PV.strFits_tuple, PV.strFits_dict, PV.slR_sh, PV.slR_ol, PV.slR_od, PV.slR_dk, PV.vOf_v, PV.bOf_b, PV.noPD_v, PV.noPD_fl, PV.noPD_fd, PV.deref_v, PV.deref_fl, PV.deref_fd, PV.slotD_ol, PV.slotD_od, PV.slotD_sh, PV.derefs_nil, PV.derefs_c, PV.esc_v, PV.esc_fl, PV.esc_fd, PV.esc_pl, PV.escS_ol, PV.escS_od, PV.escS_sh, PV.escs_nil, PV.escs_c, PV.toArgs_nil, PV.toArgs_dk, PV.toArgs_v, PV.toArgs_fl, PV.toArgs_fd, PV.toArgs_pl, PV.setR_v, PV.setR_fl, PV.setR_fd, PV.setR_dk, PV.setR_pl, PV.setRs_nil, PV.setRs_c, PV.items_l, PV.items_t, PV.items_fl, PV.items_pl, PV.itS_ol, PV.itS_sh, PV.isOwn_ol, PV.isOwn_od, PV.isOwn_sh, PV.isOwn_un, PV.isOwn_dk, PV.isOwn_no, PV.olAt_ol, PV.finS_ol, PV.finS_od, PV.finS_sh, PV.zipR_tt, PV.zipR_ll, PV.zipR_ff, PV.zipR_lf, PV.zipR_fl, PV.zipL_ll, PV.zipL_ff, PV.zipL_lf, PV.zipL_fl, PV.noPl_nil, PV.noPl_v, PV.noPl_fl, PV.noPl_fd, PV.noPl_dk, PV.hasPl_nil, PV.hasPl_v, PV.hasPl_fl, PV.hasPl_fd, PV.hasPl_dk, PV.hasPl_pl, PV.flatR_v, PV.bind1_nm, PV.bind1_tp, PV.bind1_tl, PV.bindL_nil, PV.bindL_c, PV.deref_pl, PV.eq_str, PV.ne_str, PV.flat_b, PV.flat_i, PV.flat_s, PV.flat_n, PV.V_c, PV.V_x, PV.V_op, PV.V_call, PV.V_tup, PV.V_lst, PV.V_emp, PV.V_and, PV.V_or, PV.V_ite, PV.V_mut, PV.M_app, PV.M_pop, PV.M_popAt, PV.M_ext, PV.M_rem, PV.M_ins, PV.V_ofT, PV.V_dsp, PV.V_chn, PV.V_lc, PV.V_dc, PV.bdT_eq, PV.bdS_eq, PV.ownOk, PV.VI_zip, PV.VI_zpl, PV.VI_zp3, PV.zip3R_t, PV.X_raise1, PV.V_xf, PV.xfR_s, PV.exSlot_s, PV.X_sub, PV.X_swp, PV.subR, PV.Vs_nil, PV.Vs_cons, PV.VT_yes, PV.VT_e, PV.VT_and, PV.VT_or, PV.VT_not, PV.VI_e, PV.VI_rng, PV.VI_enm, PV.X_nil, PV.X_cons, PV.X_set, PV.X_unp, PV.X_par, PV.X_ex, PV.X_ret, PV.X_retN, PV.X_ite, PV.X_lop, PV.X_pass, PV.X_brk, PV.X_cont, PV.V_dcT, PV.V_updT, PV.VI_txt, PV.VI_rg3, PV.odTAt_od, PV.fdTOf_fd, PV.strOf_s, PV.nxt_nx, PV.nxt_brk, PV.nxt_ct, PV.nxt_rt, PV.finF_nx, PV.finF_v, PV.finF_fl, PV.finF_fd, PV.finF_pl, PV.RS_ok, PV.RS_rz, PV.RS_bad, PV.FS_ok, PV.FS_rz, PV.FS_bad, PV.OS_some, PV.OS_none, PV.OS_map, PV.OS_ite, PV.callOk, PV.rzOk, PV.flatO, PV.opE_v2, PV.opE_vf, PV.opE_fv, PV.opE_ff, PV.opE_n_add, PV.opE_n_sub, PV.opE_n_mul, PV.opE_n_fdiv, PV.opE_n_mod, PV.opE_n_pow, PV.opE_n_neg, PV.opE_n_eq, PV.opE_n_ne, PV.opE_n_lt, PV.opE_n_le, PV.opE_n_gt, PV.opE_n_ge, PV.opE_n_isN, PV.opE_n_notN, PV.opE_n_len, PV.opE_n_tuple, PV.opE_n_list, PV.opE_n_lrng, PV.opE_n_sorted, PV.opE_n_abs, PV.opE_n_min2, PV.opE_n_max2, PV.opE_n_min1, PV.opE_n_max1, PV.opE_n_sum, PV.opE_n_any, PV.opE_n_all, PV.opE_n_int, PV.opE_n_str, PV.opE_n_repr, PV.opE_n_not, PV.opE_n_idi, PV.opE_n_rev, PV.opE_n_sl, PV.opE_n_isi, PV.opE_n_g, PV.opE_inp, PV.opE_notinp, PV.opE_idxp, PV.pidx_ol, PV.pinn_ol, PV.pnin_ol, PV.opD, PV.clear, PV.back, PV.mutOk, PV.srcFree, PV.slotA, PV.keyOk, PV.toKey, PV.addD, PV.subD, PV.negD, PV.cmpR, PV.cmpD, PV.isND, PV.notND, PV.isiD, PV.isKind, PV.notD, PV.lenD, PV.tupleD, PV.listD, PV.inD, PV.notinD, PV.idxD_t, PV.idxD_l, PV.eqD_nil0, PV.neD_nil0, PV.eqD_lI0, PV.neD_lI0, PV.eqD_lP0, PV.neD_lP0, PV.eqD_tI0, PV.neD_tI0, PV.eqD_tP0, PV.neD_tP0, PV.eqD_p, PV.neD_p, PV.eqD_b2, PV.neD_b2, PV.eqD_int, PV.neD_int, PV.eqD_tI, PV.neD_tI, PV.eqD_lI, PV.neD_lI, PV.eqD_tP, PV.neD_tP, PV.eqD_lP, PV.neD_lP, PV.gD, PV.isBD, PV.hasD_tI, PV.hasD_lI, PV.hasD_tP', PV.hasD_lP', PV.lim0, PV.lim1, PV.lim2, PV.lim3, PV.lim4, PV.lim5, PV.lim6, PV.lim7, PV.lim8, PV.lim9, PV.lim10, PV.lim11, PV.lim12, PV.lim17, PV.lim26, PV.pr, PV.srcOk, PV.min2D, PV.max2D, PV.rng_1, PV.rng_2, PV.lrng_1, PV.slD, PV.cut_1, PV.cut_m1, PV.zip_ints, PV.enum_map, PV.allD, PV.anyD, PV.toBls_map, PV.pick_0, PV.pick_1, PV.pick_2, PV.pick_3, PV.srt_ints, PV.srt_prs, PV.sortedD, PV.toInts_ints, Option.isSome_some, Option.isSome_none, List.all_cons, List.all_nil, List.getElem?_cons_zero, List.getElem?_cons_succ, List.set_cons_zero, List.set_cons_succ, List.map_cons, List.map_nil, List.length_cons, List.length_nil, List.replicate_succ, List.replicate_zero, List.append_nil, List.nil_append, List.cons_append, Option.map_some, Option.map_none, Option.bind_some, Option.bind_none, Option.getD_some, Bool.not_true, Bool.not_false, Bool.false_or, Bool.true_or, Bool.or_true, Bool.or_false, Bool.true_and, Bool.false_and, Bool.and_true, Bool.and_false, BEq.rfl, not_true_eq_false, forall_const, true_implies, false_implies, and_true, true_and, and_self, Bool.false_eq_true, reduceCtorEq, ne_eq, not_false_eq_true, decide_true, decide_false, decide_eq_true_eq, decide_eq_false_iff_not, PV.cast0, PV.cast1, PV.cast2, PV.cast3, PV.cast4, PV.cast5, PV.cast6, PV.cast7, PV.cast8, PV.cast9, PV.cast10, PV.cast11, PV.cast12, Int.reduceEq, Int.reduceLT, Int.reduceLE, Int.reduceGT, Int.reduceGE, Int.reduceAdd, Int.reduceSub, Int.reduceNeg, Int.reduceNe, Nat.reduceSub, Nat.reduceAdd, if_true, if_false, ite_true, ite_false, reduceIte, implies_true, Rk.idxD_F0, Rk.idxD_F1])
  | `(tactic| simp! only [$xs,*]) => `(tactic| simp only [$xs,*, PV.truth_none, PV.truth_bool, PV.truth_int, PV.truth_str, PV.truth_list, PV.truth_tuple, PV.truth_dict, PV.strFits_none, PV.strFits_bool, PV.strFits_int, PV.strFits_str, PV.strFits_list, PV.strFits_tuple, PV.strFits_dict, PV.slR_sh, PV.slR_ol, PV.slR_od, PV.slR_dk, PV.vOf_v, PV.bOf_b, PV.noPD_v, PV.noPD_fl, PV.noPD_fd, PV.deref_v, PV.deref_fl, PV.deref_fd, PV.slotD_ol, PV.slotD_od, PV.slotD_sh, PV.derefs_nil, PV.derefs_c, PV.esc_v, PV.esc_fl, PV.esc_fd, PV.esc_pl, PV.escS_ol, PV.escS_od, PV.escS_sh, PV.escs_nil, PV.escs_c, PV.toArgs_nil, PV.toArgs_dk, PV.toArgs_v, PV.toArgs_fl, PV.toArgs_fd, PV.toArgs_pl, PV.setR_v, PV.setR_fl, PV.setR_fd, PV.setR_dk, PV.setR_pl, PV.setRs_nil, PV.setRs_c, PV.items_l, PV.items_t, PV.items_fl, PV.items_pl, PV.itS_ol, PV.itS_sh, PV.isOwn_ol, PV.isOwn_od, PV.isOwn_sh, PV.isOwn_un, PV.isOwn_dk, PV.isOwn_no, PV.olAt_ol, PV.finS_ol, PV.finS_od, PV.finS_sh, PV.zipR_tt, PV.zipR_ll, PV.zipR_ff, PV.zipR_lf, PV.zipR_fl, PV.zipL_ll, PV.zipL_ff, PV.zipL_lf, PV.zipL_fl, PV.noPl_nil, PV.noPl_v, PV.noPl_fl, PV.noPl_fd, PV.noPl_dk, PV.hasPl_nil, PV.hasPl_v, PV.hasPl_fl, PV.hasPl_fd, PV.hasPl_dk, PV.hasPl_pl, PV.flatR_v, PV.bind1_nm, PV.bind1_tp, PV.bind1_tl, PV.bindL_nil, PV.bindL_c, PV.deref_pl, PV.eq_str, PV.ne_str, PV.flat_b, PV.flat_i, PV.flat_s, PV.flat_n, PV.V_c, PV.V_x, PV.V_op, PV.V_call, PV.V_tup, PV.V_lst, PV.V_emp, PV.V_and, PV.V_or, PV.V_ite, PV.V_mut, PV.M_app, PV.M_pop, PV.M_popAt, PV.M_ext, PV.M_rem, PV.M_ins, PV.V_ofT, PV.V_dsp, PV.V_chn, PV.V_lc, PV.V_dc, PV.bdT_eq, PV.bdS_eq, PV.ownOk, PV.VI_zip, PV.VI_zpl, PV.VI_zp3, PV.zip3R_t, PV.X_raise1, PV.V_xf, PV.xfR_s, PV.exSlot_s, PV.X_sub, PV.X_swp, PV.subR, PV.Vs_nil, PV.Vs_cons, PV.VT_yes, PV.VT_e, PV.VT_and, PV.VT_or, PV.VT_not, PV.VI_e, PV.VI_rng, PV.VI_enm, PV.X_nil, PV.X_cons, PV.X_set, PV.X_unp, PV.X_par, PV.X_ex, PV.X_ret, PV.X_retN, PV.X_ite, PV.X_lop, PV.X_pass, PV.X_brk, PV.X_cont, PV.V_dcT, PV.V_updT, PV.VI_txt, PV.VI_rg3, PV.odTAt_od, PV.fdTOf_fd, PV.strOf_s, PV.nxt_nx, PV.nxt_brk, PV.nxt_ct, PV.nxt_rt, PV.finF_nx, PV.finF_v, PV.finF_fl, PV.finF_fd, PV.finF_pl, PV.RS_ok, PV.RS_rz, PV.RS_bad, PV.FS_ok, PV.FS_rz, PV.FS_bad, PV.OS_some, PV.OS_none, PV.OS_map, PV.OS_ite, PV.callOk, PV.rzOk, PV.flatO, PV.opE_v2, PV.opE_vf, PV.opE_fv, PV.opE_ff, PV.opE_n_add, PV.opE_n_sub, PV.opE_n_mul, PV.opE_n_fdiv, PV.opE_n_mod, PV.opE_n_pow, PV.opE_n_neg, PV.opE_n_eq, PV.opE_n_ne, PV.opE_n_lt, PV.opE_n_le, PV.opE_n_gt, PV.opE_n_ge, PV.opE_n_isN, PV.opE_n_notN, PV.opE_n_len, PV.opE_n_tuple, PV.opE_n_list, PV.opE_n_lrng, PV.opE_n_sorted, PV.opE_n_abs, PV.opE_n_min2, PV.opE_n_max2, PV.opE_n_min1, PV.opE_n_max1, PV.opE_n_sum, PV.opE_n_any, PV.opE_n_all, PV.opE_n_int, PV.opE_n_str, PV.opE_n_repr, PV.opE_n_not, PV.opE_n_idi, PV.opE_n_rev, PV.opE_n_sl, PV.opE_n_isi, PV.opE_n_g, PV.opE_inp, PV.opE_notinp, PV.opE_idxp, PV.pidx_ol, PV.pinn_ol, PV.pnin_ol, PV.opD, PV.clear, PV.back, PV.mutOk, PV.srcFree, PV.slotA, PV.keyOk, PV.toKey, PV.addD, PV.subD, PV.negD, PV.cmpR, PV.cmpD, PV.isND, PV.notND, PV.isiD, PV.isKind, PV.notD, PV.lenD, PV.tupleD, PV.listD, PV.inD, PV.notinD, PV.idxD_t, PV.idxD_l, PV.eqD_nil0, PV.neD_nil0, PV.eqD_lI0, PV.neD_lI0, PV.eqD_lP0, PV.neD_lP0, PV.eqD_tI0, PV.neD_tI0, PV.eqD_tP0, PV.neD_tP0, PV.eqD_p, PV.neD_p, PV.eqD_b2, PV.neD_b2, PV.eqD_int, PV.neD_int, PV.eqD_tI, PV.neD_tI, PV.eqD_lI, PV.neD_lI, PV.eqD_tP, PV.neD_tP, PV.eqD_lP, PV.neD_lP, PV.gD, PV.isBD, PV.hasD_tI, PV.hasD_lI, PV.hasD_tP', PV.hasD_lP', PV.lim0, PV.lim1, PV.lim2, PV.lim3, PV.lim4, PV.lim5, PV.lim6, PV.lim7, PV.lim8, PV.lim9, PV.lim10, PV.lim11, PV.lim12, PV.lim17, PV.lim26, PV.pr, PV.srcOk, PV.min2D, PV.max2D, PV.rng_1, PV.rng_2, PV.lrng_1, PV.slD, PV.cut_1, PV.cut_m1, PV.zip_ints, PV.enum_map, PV.allD, PV.anyD, PV.toBls_map, PV.pick_0, PV.pick_1, PV.pick_2, PV.pick_3, PV.srt_ints, PV.srt_prs, PV.sortedD, PV.toInts_ints, Option.isSome_some, Option.isSome_none, List.all_cons, List.all_nil, List.getElem?_cons_zero, List.getElem?_cons_succ, List.set_cons_zero, List.set_cons_succ, List.map_cons, List.map_nil, List.length_cons, List.length_nil, List.replicate_succ, List.replicate_zero, List.append_nil, List.nil_append, List.cons_append, Option.map_some, Option.map_none, Option.bind_some, Option.bind_none, Option.getD_some, Bool.not_true, Bool.not_false, Bool.false_or, Bool.true_or, Bool.or_true, Bool.or_false, Bool.true_and, Bool.false_and, Bool.and_true, Bool.and_false, BEq.rfl, not_true_eq_false, forall_const, true_implies, false_implies, and_true, true_and, and_self, Bool.false_eq_true, reduceCtorEq, ne_eq, not_false_eq_true, decide_true, decide_false, decide_eq_true_eq, decide_eq_false_iff_not, PV.cast0, PV.cast1, PV.cast2, PV.cast3, PV.cast4, PV.cast5, PV.cast6, PV.cast7, PV.cast8, PV.cast9, PV.cast10, PV.cast11, PV.cast12, Int.reduceEq, Int.reduceLT, Int.reduceLE, Int.reduceGT, Int.reduceGE, Int.reduceAdd, Int.reduceSub, Int.reduceNeg, Int.reduceNe, Nat.reduceSub, Nat.reduceAdd, if_true, if_false, ite_true, ite_false, reduceIte, implies_true, Rk.idxD_F0, Rk.idxD_F1])
/-- the neighbours -/
def nb (F : Fr) (v : Int) : List Int := (F.es.filter fun e => decide (e.2 = v)).map (·.1) ++ (F.es.filter fun e => decide (e.1 = v)).map (·.2)
/-- the lamps beside a vertex -/
def lb (F : Fr) (S : List Int) (v : Int) : List Int := (nb F v).filter fun o => decide (o ∈ S)
def sAft (S : List Int) (u v : Int) : List Int := (S.map fun l => if l = u then v else l).mergeSort leI
def psl1 (F : Fr) (S : List Int) (u : Int) : List (Int × Int) := ((nb F u).filter fun v => decide (lb F S v = [u])).map fun v => (u, v)
def psl (F : Fr) (S : List Int) : List (Int × Int) := S.flatMap (psl1 F S)
structure Fr.Wf (F : Fr) : Prop where
  n0 : 0 ≤ F.n
  n1 : F.n ≤ 12
  lo : ∀ e ∈ F.es, 0 ≤ e.1 ∧ e.1 < e.2 ∧ e.2 < F.n
  pw : F.es.Pairwise fun a b => a.1 < b.1 ∨ a.1 = b.1 ∧ a.2 < b.2
/-- a setting, of whole numbers -/
def isSet (F : Fr) (xs : List Int) : Bool := xs.all (fun i => decide (0 ≤ i) && decide (i ≤ F.n - 1)) && ((xs.zip (xs.drop 1)).all fun p => decide (p.1 < p.2)) && !(F.es.any fun e => decide (e.1 ∈ xs) && decide (e.2 ∈ xs))
def isSetD (F : Fr) (v : PyData) : Bool := match v with
  | .tuple ds => match toInts ds with
    | some xs => isSet F xs
    | none => false
  | _ => false
/-! family A: the law's own defs -/
def edg (a b : Int) : Int × Int := if a ≤ b then (a, b) else (b, a)
def near (F : Fr) (v : Int) : List Int := (rI F.n).filter fun o => decide (edg o v ∈ F.es)
def oth (F : Fr) (S : List Int) (u v : Int) : List Int := (near F v).filter fun o => decide (o ∈ S) && !decide (o = u)
def slsL1 (F : Fr) (S : List Int) (u : Int) : List (Int × Int) := ((near F u).filter fun v => decide (oth F S u v = [])).map fun v => (u, v)
def slsL (F : Fr) (S : List Int) : List (Int × Int) := S.flatMap (slsL1 F S)
def aftL (S : List Int) (p : Int × Int) : List Int := ((S.filter fun l => !decide (l = p.1)) ++ [p.2]).mergeSort leI
def eL (ns : List Int) (ks : List (Int × Int)) : List (Int × Int) := ks.map fun p => edg (ns.getD p.1.toNat 0) (ns.getD p.2.toNat 0)
/-- a drawn forest: what it is -/
structure FWf (m : Int) (F : Fr) (ns : List Int) (ks : List (Int × Int)) : Prop where
  n0 : 0 ≤ F.n
  n1 : F.n ≤ m
  names : ns.Perm (rI F.n)
  /-- each edge: a place, an earlier place -/
  ed : F.es.Perm (eL ns ks)
  pl : ∀ p ∈ ks, 0 ≤ p.2 ∧ p.2 < p.1 ∧ p.1 < F.n
  up : (ks.map (·.1)).Pairwise (· < ·)
  srt : F.es.Pairwise fun a b => leP a b = true
structure FJ (m n way rare : Int) (ns : List Int) (b : Nat) (done : List Int) (ks : List (Int × Int)) (s : DS) : Prop where
  k : ∀ p ∈ ks, (0 ≤ p.2 ∧ p.2 < p.1 ∧ p.1 < n) ∧ p.1 ∈ done
  up : (ks.map (·.1)).Pairwise (· < ·)
  l : ks.length ≤ done.length
  cb : CB (b + 2 * done.length) s
def FM (m n way rare : Int) (ns : List Int) (b : Nat) (done : List Int) (mm : PV.M) : Prop := ∃ (ks : List (Int × Int)) (a5 a8 : PV.Slot) (s : DS), mm = ⟨[(.dk 0), .sh (.int m), .sh (.int n), .ol (ns.map .int), .ol ((eL ns ks).map pr), a5, .sh (.int way), .sh (.int rare), a8], s⟩ ∧ FJ m n way rare ns b done ks s
theorem edg_comm (a b : Int) : edg a b = edg b a := by
  unfold edg
  split
  · split
    · have : a = b := by omega
      rw [this]
    · rfl
  · rw [if_pos (by omega)]
theorem edg_of {a b : Int} (h : a ≤ b) : edg a b = (a, b) := if_pos h
theorem edg_cases (a b : Int) : edg a b = (a, b) ∨ edg a b = (b, a) := by unfold edg; split <;> simp
/-- a setting -/
structure SetWf (F : Fr) (S : List Int) : Prop where
  rg : ∀ v ∈ S, 0 ≤ v ∧ v < F.n
  pw : S.Pairwise (· < ·)
  ind : ∀ u ∈ S, ∀ v ∈ S, edg u v ∉ F.es
/-! plain: neighbours, slides, settings -/
theorem asc_eq : ∀ {xs ys : List Int}, xs.Pairwise (· < ·) → ys.Pairwise (· < ·) → (∀ a, a ∈ xs ↔ a ∈ ys) → xs = ys := by
  intro xs ys hx hy h
  refine sorted_eq (le := leI) (fun _ _ => leI_anti) (hx.imp fun z => by simp [leI]; omega) (hy.imp fun z => by simp [leI]; omega) ?_
  exact (List.perm_ext_iff_of_nodup (hx.imp fun z => by omega) (hy.imp fun z => by omega)).mpr h
theorem mem_nb {F : Fr} {v o : Int} : o ∈ nb F v ↔ (o, v) ∈ F.es ∨ (v, o) ∈ F.es := by
  unfold nb
  rw [List.mem_append, List.mem_map, List.mem_map]
  constructor
  · rintro (⟨⟨a, b⟩, h, rfl⟩ | ⟨⟨a, b⟩, h, rfl⟩)
    · rw [List.mem_filter] at h
      obtain ⟨h1, h2⟩ := h
      simp at h2; subst h2
      exact .inl h1
    · rw [List.mem_filter] at h
      obtain ⟨h1, h2⟩ := h
      simp at h2; subst h2
      exact .inr h1
  · rintro (h | h)
    · exact .inl ⟨(o, v), by rw [List.mem_filter]; exact ⟨h, by simp⟩, rfl⟩
    · exact .inr ⟨(v, o), by rw [List.mem_filter]; exact ⟨h, by simp⟩, rfl⟩
theorem nb_comm {F : Fr} {v o : Int} : o ∈ nb F v ↔ v ∈ nb F o := by rw [mem_nb, mem_nb]; exact Or.comm
theorem edg_mem {F : Fr} (h : F.Wf) {o v : Int} : edg o v ∈ F.es ↔ (o, v) ∈ F.es ∨ (v, o) ∈ F.es := by
  constructor
  · intro z
    rcases edg_cases o v with e | e
    · rw [e] at z; exact .inl z
    · rw [e] at z; exact .inr z
  · rintro (z | z)
    · have := (h.lo _ z).2.1
      simp only at this
      rw [edg_of (by omega)]; exact z
    · have := (h.lo _ z).2.1
      simp only at this
      rw [edg_comm, edg_of (by omega)]; exact z
theorem nb_rg {F : Fr} (h : F.Wf) {o v : Int} (z : o ∈ nb F v) : 0 ≤ o ∧ o < F.n := by
  rcases mem_nb.mp z with z | z
  · have := h.lo _ z
    simp only at this; omega
  · have := h.lo _ z
    simp only at this; omega
theorem mem_lb {F : Fr} {S : List Int} {v o : Int} : o ∈ lb F S v ↔ o ∈ nb F v ∧ o ∈ S := by unfold lb; rw [List.mem_filter]; simp
theorem mem_psl1 {F : Fr} {S : List Int} {u : Int} {p : Int × Int} : p ∈ psl1 F S u ↔ p.1 = u ∧ p.2 ∈ nb F u ∧ lb F S p.2 = [u] := by
  unfold psl1
  rw [List.mem_map]
  constructor
  · rintro ⟨v, hv, rfl⟩
    rw [List.mem_filter] at hv
    exact ⟨rfl, hv.1, by simpa using hv.2⟩
  · rintro ⟨rfl, h1, h2⟩
    exact ⟨p.2, by rw [List.mem_filter]; exact ⟨h1, by simpa using h2⟩, rfl⟩
theorem mem_psl {F : Fr} {S : List Int} {p : Int × Int} : p ∈ psl F S ↔ p.1 ∈ S ∧ p.2 ∈ nb F p.1 ∧ lb F S p.2 = [p.1] := by
  unfold psl
  rw [List.mem_flatMap]
  constructor
  · rintro ⟨u, hu, h⟩
    obtain ⟨rfl, h1, h2⟩ := mem_psl1.mp h
    exact ⟨hu, h1, h2⟩
  · rintro ⟨h1, h2, h3⟩
    exact ⟨p.1, h1, mem_psl1.mpr ⟨rfl, h2, h3⟩⟩
theorem repl_perm : ∀ {S : List Int} {u v : Int}, S.Nodup → u ∈ S → (S.map fun l => if l = u then v else l).Perm ((S.filter fun l => !decide (l = u)) ++ [v])
  | [], _, _, _, h => nomatch h
  | x :: S, u, v, nd, h => by
    obtain ⟨n1, n2⟩ := List.nodup_cons.mp nd
    by_cases q : x = u
    · subst q
      have e1 : (S.map fun l => if l = x then v else l) = S := by
        conv => rhs; rw [← List.map_id S]
        refine List.map_congr_left fun y hy => ?_
        rw [if_neg fun z => n1 (by rw [← z]; exact hy)]; rfl
      have e2 : (S.filter fun l => !decide (l = x)) = S := by
        rw [List.filter_eq_self]
        intro y hy
        simp
        exact fun z => n1 (by rw [← z]; exact hy)
      rw [List.map_cons, if_pos rfl, e1, List.filter_cons, if_neg (by simp), e2]
      exact List.perm_append_comm (l₁ := [v]) (l₂ := S)
    · rw [List.map_cons, if_neg q, List.filter_cons, if_pos (by simp [q])]
      refine List.Perm.cons x (repl_perm n2 ?_)
      rcases List.mem_cons.mp h with z | z
      · exact absurd z.symm q
      · exact z
theorem sAft_eq {S : List Int} {u v : Int} (nd : S.Nodup) (hu : u ∈ S) : sAft S u v = aftL S (u, v) := sortI_eq (repl_perm nd hu)
theorem mem_sAft {S : List Int} {u v w : Int} (nd : S.Nodup) (hu : u ∈ S) : w ∈ sAft S u v ↔ (w ∈ S ∧ w ≠ u) ∨ w = v := by
  rw [sAft_eq nd hu]
  unfold aftL
  rw [(List.mergeSort_perm _ _).mem_iff, List.mem_append, List.mem_filter]
  simp
theorem SetWf.nd {F : Fr} {S : List Int} (h : SetWf F S) : S.Nodup := h.pw.imp fun z => by omega
theorem SetWf.no {F : Fr} (hF : F.Wf) {S : List Int} (h : SetWf F S) {u v : Int} (hu : u ∈ S) (hv : v ∈ nb F u) : v ∉ S := fun z =>
  h.ind u hu v z ((edg_mem hF).mpr (mem_nb.mp (nb_comm.mp hv)))
theorem SetWf.sl {F : Fr} (hF : F.Wf) {S : List Int} (h : SetWf F S) {p : Int × Int} (hp : p ∈ psl F S) : SetWf F (sAft S p.1 p.2) := by
  obtain ⟨h1, h2, h3⟩ := mem_psl.mp hp
  have nd := h.nd
  have hv : p.2 ∉ S := h.no hF h1 h2
  have mm := fun w => mem_sAft (v := p.2) (w := w) nd h1
  have key : ∀ w ∈ S, w ≠ p.1 → edg w p.2 ∉ F.es := fun w hw ne z => by
    have : w ∈ lb F S p.2 := mem_lb.mpr ⟨mem_nb.mpr ((edg_mem hF).mp z), hw⟩
    rw [h3] at this
    exact ne (List.mem_singleton.mp this)
  refine ⟨fun w hw => ?_, ?_, fun a ha b hb => ?_⟩
  · rcases (mm w).mp hw with ⟨z, _⟩ | rfl
    · exact h.rg w z
    · exact nb_rg hF h2
  · have n2 : (sAft S p.1 p.2).Nodup := by
      unfold sAft
      rw [(List.mergeSort_perm _ _).nodup_iff, (repl_perm nd h1).nodup_iff, List.Nodup, List.pairwise_append]
      refine ⟨List.Pairwise.filter _ nd, by simp, fun a ha b hb e => ?_⟩
      rw [List.mem_singleton.mp hb] at e
      subst e
      exact hv (List.mem_filter.mp ha).1
    refine (List.pairwise_and_iff.mpr ⟨sortI_pw _, n2⟩).imp fun {a b} z => ?_
    have := z.1
    simp only [leI, decide_eq_true_eq] at this
    have := z.2
    omega
  · rcases (mm a).mp ha with ⟨a1, a2⟩ | rfl <;> rcases (mm b).mp hb with ⟨b1, b2⟩ | rfl
    · exact h.ind a a1 b b1
    · exact key a a1 a2
    · rw [edg_comm]; exact key b b1 b2
    · intro z
      have := hF.lo _ z
      rw [edg_of (Int.le_refl _)] at this
      simp at this
theorem zip_asc {xs : List Int} (h : xs.Pairwise (· < ·)) : ((xs.zip (xs.drop 1)).all fun p => decide (p.1 < p.2)) = true := by
  cases xs with
  | nil => rfl
  | cons x xs =>
    induction xs generalizing x with
    | nil => rfl
    | cons y ys ih =>
      have h1 := List.pairwise_cons.mp h
      have := ih y h1.2
      simp only [List.drop_succ_cons, List.drop_zero, List.zip_cons_cons, List.all_cons] at this ⊢
      rw [this, Bool.and_true]
      simpa using h1.1 y List.mem_cons_self
theorem SetWf.is {F : Fr} (hF : F.Wf) {S : List Int} (h : SetWf F S) : isSet F S = true := by
  unfold isSet
  rw [Bool.and_eq_true, Bool.and_eq_true, zip_asc h.pw]
  refine ⟨⟨?_, rfl⟩, ?_⟩
  · rw [List.all_eq_true]
    intro v hv
    have := h.rg v hv
    simp; omega
  · rw [Bool.not_eq_true', Bool.eq_false_iff]
    intro z
    rw [List.any_eq_true] at z
    obtain ⟨e, he, z⟩ := z
    simp at z
    exact h.ind e.1 z.1 e.2 z.2 ((edg_mem hF).mpr (.inl he))
theorem SetWf.len {F : Fr} (hF : F.Wf) {S : List Int} (h : SetWf F S) : S.length ≤ 12 := by
  have := nodup_len h.nd (ys := PV.rI F.n) fun v hv => mem_rI.mpr (h.rg v hv)
  rw [rI_len] at this
  have := hF.n1
  omega
/-! shown -/
theorem rp_tI {S : List Int} {n : Nat} (h : ∀ v ∈ S, -1000 ≤ v ∧ v ≤ 1000) (hl : S.length ≤ n) : Rp (n * 41) 1 (.tuple (S.map .int)) :=
  Rp.tuple (w := 40) (k := 0) (fun x hx => by
    obtain ⟨v, hv, rfl⟩ := List.mem_map.mp hx
    have := h v hv
    exact Rp.int (by omega) (by omega)) (by rw [List.length_map]; exact hl)
theorem Fr.Wf.len {F : Fr} (h : F.Wf) : F.es.length ≤ 144 := by
  have l := nodup_len (xs := F.es) (ys := (PV.rI 12).flatMap fun a => (PV.rI 12).map fun b => (a, b)) (h.pw.imp fun {a b} z e => by subst e; omega) fun e he => by
    have := h.lo e he
    have := h.n1
    rw [List.mem_flatMap]
    exact ⟨e.1, mem_rI.mpr (by omega), List.mem_map.mpr ⟨e.2, mem_rI.mpr (by omega), rfl⟩⟩
  exact Nat.le_trans l (by decide)
/-! family E -/
theorem drawE_okS (k : Nat) {n : Int} {b : Nat} {s : DS} (h1 : 0 < n) (h2 : n < 1000000) (hs : CB b s) (hb : b ≤ 1000000) : FS (PV.runI tb (k + 1) 183 [(.dk 0), .sh (.int n)] s) (fun r s' => ∃ x : Int, r = .v (.int x) ∧ (0 ≤ x ∧ x < n) ∧ CB (b + 1) s') neverF := by
  obtain ⟨c1, c2⟩ := hs
  obtain ⟨r, s', e, q1, q2, q3⟩ := drawE_ok (n := n) (s := s) h1 (by omega) c1 (by omega)
  have e1 : PV.runI tb (k + 1) 183 = drawE := by rw [runI_eq]; rfl
  rw [e1, e, FS_ok]
  exact ⟨r, rfl, ⟨q1, q2⟩, by omega, by omega⟩
/-! texts of pairs -/
def iT (i : Int) : PySem.Str := toString i
def pw (sg : PySem.Str) (p : Int × Int) : PySem.Str := iT p.1 ++ sg ++ iT p.2
def pT (sg : PySem.Str) (ps : List (Int × Int)) : PySem.Str := if ps = [] then "none" else Txt.join " " (ps.map (pw sg))
def fT (F : Fr) : PySem.Str := iT F.n ++ ": " ++ pT "-" F.es
def cl (x : PySem.Str) : List Nat := x.cps.toList
theorem cl_app (a b : PySem.Str) : cl (a ++ b) = cl a ++ cl b := by
  show (a.cps ++ b.cps).toList = _
  simp [cl]
theorem cl_int (i : Int) : cl (iT i) = (toString i).toList.map Char.toNat := signs_ofString _
theorem charNat_inj' {a b : Char} (h : a.toNat = b.toNat) : a = b := Char.ext (UInt32.toNat_inj.mp h)
theorem iT_inj {i j : Int} (h : cl (iT i) = cl (iT j)) : i = j := by
  rw [cl_int, cl_int] at h
  have h2 : (toString i).toList = (toString j).toList := (List.map_inj_right fun _ _ => charNat_inj').mp h
  exact Int.repr_inj.mp (String.toList_injective h2)
def dg (c : Nat) : Prop := 48 ≤ c ∧ c ≤ 57
theorem iT_dg {i : Int} (h : 0 ≤ i) : ∀ c ∈ cl (iT i), dg c := fun c hc => by
  have e : i = ((i.toNat : Nat) : Int) := by omega
  rw [e] at hc
  generalize i.toNat = n at hc
  rw [cl_int] at hc
  obtain ⟨ch, h1, rfl⟩ := List.mem_map.mp hc
  have h1 : ch ∈ (Nat.repr n).toList := h1
  rw [Nat.toList_repr] at h1
  have := digit_range (Nat.isDigit_of_mem_toDigits (by decide) (by decide) h1)
  exact this
theorem iT_ne {i : Int} (h : 0 ≤ i) : cl (iT i) ≠ [] := fun z => by
  have e : i = ((i.toNat : Nat) : Int) := by omega
  rw [e] at z
  generalize i.toNat = n at z
  rw [cl_int, List.map_eq_nil_iff] at z
  have h4 : Nat.toDigits 10 n = [] := by rw [← Nat.toList_repr]; exact z
  have h5 := Nat.ofDigitChars_toDigits (b := 10) (n := n) (by decide) (by decide)
  rw [h4] at h5
  have h6 : (0 : Nat) = n := h5
  rw [← h6] at h4
  exact absurd h4 (by decide)
theorem spanD : ∀ {a b r1 r2 : List Nat} {c1 c2 : Nat}, (∀ c ∈ a, dg c) → (∀ c ∈ b, dg c) → ¬ dg c1 → ¬ dg c2 → a ++ c1 :: r1 = b ++ c2 :: r2 → a = b ∧ c1 :: r1 = c2 :: r2
  | [], [], _, _, _, _, _, _, _, _, h => ⟨rfl, h⟩
  | [], y :: b, _, _, _, _, _, hb, h1, _, h => by
    rw [List.nil_append, List.cons_append] at h
    have := (List.cons.inj h).1
    exact absurd (hb y (by simp)) (this ▸ h1)
  | x :: a, [], _, _, _, _, ha, _, _, h2, h => by
    rw [List.nil_append, List.cons_append] at h
    have := (List.cons.inj h).1
    exact absurd (ha x (by simp)) (this ▸ h2)
  | x :: a, y :: b, _, _, _, _, ha, hb, h1, h2, h => by
    rw [List.cons_append, List.cons_append] at h
    obtain ⟨e1, e2⟩ := List.cons.inj h
    obtain ⟨q1, q2⟩ := spanD (fun c hc => ha c (List.mem_cons_of_mem _ hc)) (fun c hc => hb c (List.mem_cons_of_mem _ hc)) h1 h2 e2
    exact ⟨by rw [e1, q1], q2⟩
/-- the joined words, an end behind them -/
def jw (g : Nat) : List (Int × Int) → List Nat
  | [] => [10]
  | [p] => cl (iT p.1) ++ g :: (cl (iT p.2) ++ [10])
  | p :: q :: ps => cl (iT p.1) ++ g :: (cl (iT p.2) ++ 32 :: jw g (q :: ps))
def rj (g : Nat) : List (Int × Int) → List Nat
  | [] => [10]
  | q :: ps => 32 :: jw g (q :: ps)
theorem jw_cons (g : Nat) (p : Int × Int) (ps : List (Int × Int)) : jw g (p :: ps) = cl (iT p.1) ++ g :: (cl (iT p.2) ++ rj g ps) := by
  cases ps <;> rfl
theorem rj_head (g : Nat) (ps : List (Int × Int)) : ∃ c t, rj g ps = c :: t ∧ ¬ dg c := by
  cases ps with
  | nil => exact ⟨10, [], rfl, by unfold dg; omega⟩
  | cons q ps => exact ⟨32, _, rfl, by unfold dg; omega⟩
def nng (ps : List (Int × Int)) : Prop := ∀ p ∈ ps, 0 ≤ p.1 ∧ 0 ≤ p.2
theorem jw_inj {g : Nat} (hg : ¬ dg g) : ∀ {ps qs : List (Int × Int)}, nng ps → nng qs → jw g ps = jw g qs → ps = qs
  | [], [], _, _, _ => rfl
  | [], q :: qs, _, hq, h => by
    rw [jw_cons] at h
    cases e : cl (iT q.1) with
    | nil => exact absurd e (iT_ne (hq q (by simp)).1)
    | cons c t =>
      rw [e] at h
      have := iT_dg (hq q (by simp)).1 c (by rw [e]; simp)
      have h := (List.cons.inj h).1
      unfold dg at this; omega
  | p :: ps, [], hp, _, h => by
    rw [jw_cons] at h
    cases e : cl (iT p.1) with
    | nil => exact absurd e (iT_ne (hp p (by simp)).1)
    | cons c t =>
      rw [e] at h
      have := iT_dg (hp p (by simp)).1 c (by rw [e]; simp)
      have h := (List.cons.inj h).1
      unfold dg at this; omega
  | p :: ps, q :: qs, hp, hq, h => by
    rw [jw_cons, jw_cons] at h
    have p0 := hp p (by simp)
    have q0 := hq q (by simp)
    obtain ⟨e1, e2⟩ := spanD (iT_dg p0.1) (iT_dg q0.1) hg hg h
    obtain ⟨c1, t1, r1, n1⟩ := rj_head g ps
    obtain ⟨c2, t2, r2, n2⟩ := rj_head g qs
    have e3 := (List.cons.inj e2).2
    rw [r1, r2] at e3
    obtain ⟨e4, e5⟩ := spanD (iT_dg p0.2) (iT_dg q0.2) n1 n2 e3
    rw [← r1, ← r2] at e5
    have hpq : p = q := Prod.ext (iT_inj e1) (iT_inj e4)
    subst hpq
    congr 1
    cases ps with
    | nil =>
      cases qs with
      | nil => rfl
      | cons q' qs => exact absurd (List.cons.inj e5).1 (by decide)
    | cons p' ps =>
      cases qs with
      | nil => exact absurd (List.cons.inj e5).1 (by decide)
      | cons q' qs => exact jw_inj hg (fun z hz => hp z (List.mem_cons_of_mem _ hz)) (fun z hz => hq z (List.mem_cons_of_mem _ hz)) (List.cons.inj e5).2
theorem cl_join (sg : PySem.Str) (g : Nat) (hs : cl sg = [g]) : ∀ ps : List (Int × Int), ps ≠ [] → cl (Str.join " " (ps.map (pw sg))) ++ [10] = jw g ps
  | [], h => absurd rfl h
  | [p], _ => by
    show cl (iT p.1 ++ sg ++ iT p.2) ++ [10] = cl (iT p.1) ++ g :: (cl (iT p.2) ++ [10])
    rw [cl_app, cl_app, hs]
    simp
  | p :: q :: ps, _ => by
    have ih := cl_join sg g hs (q :: ps) (by simp)
    show cl (iT p.1 ++ sg ++ iT p.2 ++ " " ++ Str.join " " ((q :: ps).map (pw sg))) ++ [10] = cl (iT p.1) ++ g :: (cl (iT p.2) ++ 32 :: jw g (q :: ps))
    rw [← ih, cl_app, cl_app, cl_app, cl_app, hs]
    have : cl " " = [32] := by decide +kernel
    rw [this]
    simp
theorem pT_cl {sg : PySem.Str} {g : Nat} (hs : cl sg = [g]) (ps : List (Int × Int)) : cl (pT sg ps) ++ [10] = if ps = [] then [110, 111, 110, 101, 10] else jw g ps := by
  unfold pT
  by_cases h : ps = []
  · rw [if_pos h, if_pos h]; decide +kernel
  · rw [if_neg h, if_neg h, show Txt.join " " (ps.map (pw sg)) = Str.join " " (ps.map (pw sg)) from StrLaws.glued_eq_join _ _]
    exact cl_join sg g hs ps h
theorem jw_not_none {g : Nat} {ps : List (Int × Int)} (h : nng ps) {t : List Nat} : jw g ps ≠ 110 :: t := fun e => by
  cases ps with
  | nil => exact absurd (List.cons.inj e).1 (by decide)
  | cons p ps =>
    rw [jw_cons] at e
    cases e2 : cl (iT p.1) with
    | nil => exact iT_ne (h p (by simp)).1 e2
    | cons c t =>
      rw [e2] at e
      have := iT_dg (h p (by simp)).1 c (by rw [e2]; simp)
      have h := (List.cons.inj e).1
      unfold dg at this; omega
theorem pT_inj {sg : PySem.Str} {g : Nat} (hs : cl sg = [g]) (hg : ¬ dg g) {ps qs : List (Int × Int)} (hp : nng ps) (hq : nng qs) (h : pT sg ps = pT sg qs) : ps = qs := by
  have h1 := pT_cl hs ps
  have h2 := pT_cl hs qs
  rw [h] at h1
  rw [h1] at h2
  by_cases e1 : ps = []
  · by_cases e2 : qs = []
    · rw [e1, e2]
    · rw [if_pos e1, if_neg e2] at h2
      exact absurd h2.symm (jw_not_none hq)
  · by_cases e2 : qs = []
    · rw [if_neg e1, if_pos e2] at h2
      exact absurd h2 (jw_not_none hp)
    · rw [if_neg e1, if_neg e2] at h2
      exact jw_inj hg hp hq h2
/-! texts of pairs: what the program and the law write -/
theorem strsD_map : ∀ ys : List PySem.Str, strsD (ys.map PyData.str) = some ys
  | [] => rfl
  | y :: ys => by
    show (strsD (ys.map PyData.str)).map (y :: ·) = _
    rw [strsD_map ys]; rfl
theorem iT_len {i : Int} (h : i.natAbs < 10 ^ 6) : (iT i).length ≤ 7 := by
  have e := int_text_length_le10 (k := 6) (by decide) h
  show (Str.ofString (toString i)).length ≤ 7
  rw [PyProof.Rows.ofString_length]; exact e
theorem fmt_i {i : Int} (h : i.natAbs < 10 ^ 6) : fmtD [.int i] = some (.v (.str (iT i))) := if_pos (by omega)
theorem str_i {i : Int} (h : i.natAbs < 10 ^ 6) : strD [.int i] = some (.v (.str (iT i))) := if_pos (Nat.lt_trans (int_log (by omega)) (by decide))
theorem cat3 (a b c : PySem.Str) : catD [.str a, .str b, .str c] = some (.v (.str (a ++ b ++ c))) := by
  show some (PV.R.v (.str (a ++ (b ++ (c ++ Str.empty))))) = _
  rw [str_nilR, str_assoc]
theorem pw_len {sg : PySem.Str} (h1 : sg.length = 1) {p : Int × Int} (h : p.1.natAbs < 10 ^ 6 ∧ p.2.natAbs < 10 ^ 6) : (pw sg p).length ≤ 15 := by
  unfold pw
  rw [str_lenA, str_lenA, h1]
  have := iT_len h.1
  have := iT_len h.2
  omega
theorem pw_pos {sg : PySem.Str} (h1 : sg.length = 1) (p : Int × Int) : 1 ≤ (pw sg p).length := by
  unfold pw
  rw [str_lenA, str_lenA, h1]
  omega
def sI (p : Int × Int) : Prop := p.1.natAbs < 10 ^ 6 ∧ p.2.natAbs < 10 ^ 6
theorem sum_le : ∀ {ws : List PySem.Str}, (∀ w ∈ ws, w.length ≤ 15) → (ws.map (·.length)).sum ≤ 15 * ws.length
  | [], _ => Nat.le_refl _
  | w :: ws, h => by
    have h1 := h w (by simp)
    have h2 := sum_le fun x hx => h x (List.mem_cons_of_mem w hx)
    rw [List.map_cons, List.sum_cons, List.length_cons]
    omega
theorem join_len : ∀ ws : List PySem.Str, (Str.join " " ws).length ≤ (ws.map (·.length)).sum + ws.length
  | [] => Nat.le_refl _
  | [w] => by
    show w.length ≤ _
    simp
  | w :: v :: ws => by
    have ih := join_len (v :: ws)
    show (w ++ " " ++ Str.join " " (v :: ws)).length ≤ _
    rw [str_lenA, str_lenA, List.map_cons, List.sum_cons, List.length_cons]
    have : (" " : PySem.Str).length = 1 := by decide +kernel
    omega
theorem join_ge {ws : List PySem.Str} {w : PySem.Str} (h : w ∈ ws) : w.length ≤ (Str.join " " ws).length := by
  induction ws with
  | nil => simp at h
  | cons v ws ih =>
    cases ws with
    | nil =>
      have : w = v := by simpa using h
      subst this
      exact Nat.le_refl _
    | cons u ws =>
      show w.length ≤ (v ++ " " ++ Str.join " " (u :: ws)).length
      rw [str_lenA, str_lenA]
      rcases List.mem_cons.mp h with rfl | h
      · omega
      · have := ih h; omega
theorem txt_join (a : PySem.Str) (ws : List PySem.Str) : Txt.join a ws = Str.join a ws := StrLaws.glued_eq_join _ _
theorem pT_len {sg : PySem.Str} (h1 : sg.length = 1) {ps : List (Int × Int)} (h : ∀ p ∈ ps, sI p) : (pT sg ps).length ≤ 16 * ps.length + 4 := by
  unfold pT
  by_cases e : ps = []
  · rw [if_pos e]
    have : ("none" : PySem.Str).length = 4 := by decide +kernel
    omega
  · rw [if_neg e, txt_join]
    have a := join_len (ps.map (pw sg))
    have b := sum_le (ws := ps.map (pw sg)) fun w hw => by
      obtain ⟨p, hp, rfl⟩ := List.mem_map.mp hw
      exact pw_len h1 (h p hp)
    rw [List.length_map] at a b
    omega
theorem joinD_ok (ws : List PySem.Str) (h : (ws.map (·.length)).sum + ws.length ≤ 1000000) : joinD [.str " ", .list (ws.map PyData.str)] = some (.v (.str (Txt.join " " ws))) := by
  have e : joinD [.str " ", .list (ws.map PyData.str)] = match strsD (ws.map PyData.str) with
    | some ys => if (ys.map (·.length)).sum + ys.length * (" " : PySem.Str).length ≤ LIM then some (.v (.str (Txt.join " " ys))) else none
    | none => none := rfl
  rw [e, strsD_map]
  refine if_pos ?_
  have : (" " : PySem.Str).length = 1 := by decide +kernel
  rw [this]; unfold LIM; omega
theorem words_sum {sg : PySem.Str} (h1 : sg.length = 1) {ps : List (Int × Int)} (hl : ps.length ≤ 1000) (h : ∀ p ∈ ps, sI p) : ((ps.map (pw sg)).map (·.length)).sum + (ps.map (pw sg)).length ≤ 1000000 := by
  have b := sum_le (ws := ps.map (pw sg)) fun w hw => by
    obtain ⟨p, hp, rfl⟩ := List.mem_map.mp hw
    exact pw_len h1 (h p hp)
  rw [List.length_map] at b ⊢
  omega
theorem joined_ok (k : Nat) (ws : List PySem.Str) (h : (ws.map (·.length)).sum + ws.length ≤ 1000000) (s : DS) : PV.runI tb (k + 1) 218 [.sh (.list (ws.map PyData.str))] s = .ok (.v (.str (if (Txt.join " " ws).length = 0 then "none" else Txt.join " " ws))) s := by
  have hj := joinD_ok ws h
  have hl : (Txt.join " " ws).length ≤ LIM := by
    rw [txt_join]
    have := join_len ws
    unfold LIM; omega
  refine FS.eq (F_call (fd := ⟨1, 1, B_joined_or_none⟩) rfl rfl ?_)
  unfold B_joined_or_none
  simp! only [hj, hl]
  by_cases e : (Txt.join " " ws).length = 0
  · simp [e]
  · simp [e]
theorem joined_pT (sg : PySem.Str) (h1 : sg.length = 1) (ps : List (Int × Int)) : (if (Txt.join " " (ps.map (pw sg))).length = 0 then ("none" : PySem.Str) else Txt.join " " (ps.map (pw sg))) = pT sg ps := by
  unfold pT
  cases ps with
  | nil => rfl
  | cons p ps =>
    have := join_ge (ws := (p :: ps).map (pw sg)) (w := pw sg p) (by simp)
    have h2 := pw_pos h1 p
    rw [txt_join, if_neg (by omega), if_neg (by simp)]
theorem slides_text_ok (k : Nat) (ps : List (Int × Int)) (hl : ps.length ≤ 1000) (h : ∀ p ∈ ps, sI p) (s : DS) : PV.runI tb (k + 2) 215 [.sh (.tuple (ps.map pr))] s = .ok (.v (.str (pT ">" ps))) s := by
  have h1 : (">" : PySem.Str).length = 1 := by decide +kernel
  have hj := joined_ok k (ps.map (pw ">")) (words_sum h1 hl h) s
  rw [List.map_map, joined_pT _ h1] at hj
  refine FS.eq (F_call (fd := ⟨3, 1, B_slides_text⟩) rfl rfl ?_)
  unfold B_slides_text
  simp! only
  refine ⟨(by simp only [List.length_map, List.length_append, List.length_cons, List.length_nil, LIM]; omega), RS_map (PyData.str ∘ pw ">") trivial (fun p hp => ?a) ?b⟩
  case a =>
    have f1 := fmt_i (h p hp).1
    have f2 := fmt_i (h p hp).2
    simp! only [f1, f2, cat3]
    rfl
  case b => simp! only [hj]
theorem pairs206_ok (k : Nat) (ps : List (Int × Int)) (sg : PySem.Str) (h1 : sg.length = 1) (hl : ps.length ≤ 1000) (h : ∀ p ∈ ps, sI p) (s : DS) : PV.runI tb (k + 1) 206 [.sh (.tuple (ps.map pr)), .sh (.str sg)] s = .ok (.v (.str (pT sg ps))) s := by
  have hj := joinD_ok (ps.map (pw sg)) (words_sum h1 hl h)
  rw [List.map_map] at hj
  refine FS.eq (F_call (fd := ⟨4, 2, B__law_pairs_text⟩) rfl rfl ?_)
  unfold B__law_pairs_text
  simp! only
  refine ⟨(by simp only [List.length_map, List.length_append, List.length_cons, List.length_nil, LIM]; omega), RS_map (PyData.str ∘ pw sg) trivial (fun p hp => ?a) ?b⟩
  case a =>
    have f1 := str_i (h p hp).1
    have f2 := str_i (h p hp).2
    have l1 := iT_len (h p hp).1
    have l2 := iT_len (h p hp).2
    have l3 : (iT p.1 ++ sg).length ≤ 8 := by rw [str_lenA, h1]; omega
    simp! only [f1, f2]
    refine ⟨by unfold LIM; omega, by unfold LIM; omega, rfl⟩
  case b =>
    have m1 : PV.mulD [.list [PyData.str "none"], .int 1] = some (.fl [.str "none"]) := by simp [mulD, LIM]
    have m0 : PV.mulD [.list [PyData.str "none"], .int 0] = some (.fl []) := by simp [mulD, LIM]
    obtain ⟨c, lv, i2, m2, hl2, hj2⟩ : ∃ (c : Int) (lv : List PyData), PV.intD [.bool (decide (((ps.map pr).length : Int) = 0))] = some (.v (.int c)) ∧ PV.mulD [.list [PyData.str "none"], .int c] = some (.fl lv) ∧ lv.length ≤ 1 ∧ joinD [.str " ", .list (ps.map (PyData.str ∘ pw sg) ++ lv)] = some (.v (.str (pT sg ps))) := by
      cases ps with
      | nil => exact ⟨1, _, rfl, m1, Nat.le_refl _, (joinD_ok ["none"] (by decide +kernel)).trans (by rfl)⟩
      | cons p ps =>
        have e : decide ((((p :: ps).map pr).length : Int) = 0) = false := decide_eq_false (by rw [List.length_map, List.length_cons]; omega)
        refine ⟨0, _, by rw [e]; rfl, m0, Nat.zero_le _, ?_⟩
        rw [List.append_nil, hj]
        unfold pT
        rw [if_neg (by simp)]
    simp! only [i2, m2, hj2]
    rw [List.length_map]; unfold LIM; omega

/-! numbers of at most two figures -/
def isF (c : Nat) : Prop := 48 ≤ c ∧ c ≤ 57
instance (c : Nat) : Decidable (isF c) := by unfold isF; infer_instance
def numL : List Nat → Option Int
  | [a] => if isF a then some ((a : Int) - 48) else none
  | [a, b] => if isF a ∧ isF b ∧ a ≠ 48 then some (10 * ((a : Int) - 48) + ((b : Int) - 48)) else none
  | _ => none
def numO (w : PySem.Str) : Option Int := numL w.cps.toList
def optD : Option Int → PyData
  | none => .none
  | some i => .int i
theorem figs_eq : (("0123456789" : PySem.Str)).cps.toList = [48, 49, 50, 51, 52, 53, 54, 55, 56, 57] := by decide +kernel
theorem fig_mem (c : Nat) : c ∈ (("0123456789" : PySem.Str)).cps.toList ↔ isF c := by
  rw [figs_eq]
  unfold isF
  constructor
  · intro h; simp at h; omega
  · intro h; simp; omega
theorem fig_in (b : Bool) (c : Nat) : inSg b [.str (sgn c), .str "0123456789"] = some (.v (.bool (decide (isF c) != b))) := by
  show some (PV.R.v (.bool (decide (c ∈ (("0123456789" : PySem.Str)).cps.toList) != b))) = _
  rw [show decide (c ∈ (("0123456789" : PySem.Str)).cps.toList) = decide (isF c) from decide_eq_decide.mpr (fig_mem c)]
theorem int1 : ∀ a < 10, PySem.intText? ⟨⟨[48 + a]⟩⟩ = some ((a : Int)) := by decide +kernel
theorem int2 : ∀ a < 10, ∀ b < 10, PySem.intText? ⟨⟨[48 + a, 48 + b]⟩⟩ = some (10 * (a : Int) + b) := by decide +kernel
theorem int1F {a : Nat} (h : isF a) : intSD [.str ⟨⟨[a]⟩⟩] = some (.v (.int ((a : Int) - 48))) := by
  unfold isF at h
  have := int1 (a - 48) (by omega)
  rw [show 48 + (a - 48) = a from by omega] at this
  have e : intSD [.str ⟨⟨[a]⟩⟩] = if 1 ≤ 640 then (PySem.intText? ⟨⟨[a]⟩⟩).map fun n => .v (.int n) else none := rfl
  rw [e, if_pos (by decide), this]
  show some (PV.R.v (.int ((a - 48 : Nat) : Int))) = _
  rw [show ((a - 48 : Nat) : Int) = (a : Int) - 48 from by omega]
theorem int2F {a b : Nat} (h : isF a) (h2 : isF b) : intSD [.str ⟨⟨[a, b]⟩⟩] = some (.v (.int (10 * ((a : Int) - 48) + ((b : Int) - 48)))) := by
  unfold isF at h h2
  have := int2 (a - 48) (by omega) (b - 48) (by omega)
  rw [show 48 + (a - 48) = a from by omega, show 48 + (b - 48) = b from by omega] at this
  have e : intSD [.str ⟨⟨[a, b]⟩⟩] = if 2 ≤ 640 then (PySem.intText? ⟨⟨[a, b]⟩⟩).map fun n => .v (.int n) else none := rfl
  rw [e, if_pos (by decide), this]
  show some (PV.R.v (.int (10 * ((a - 48 : Nat) : Int) + ((b - 48 : Nat) : Int)))) = _
  rw [show ((a - 48 : Nat) : Int) = (a : Int) - 48 from by omega, show ((b - 48 : Nat) : Int) = (b : Int) - 48 from by omega]
theorem ix0 (a : Nat) (t : List Nat) (h : t.length < LIM) : ixSD [.str ⟨⟨a :: t⟩⟩, .int 0] = some (.v (.str (sgn a))) := by
  have e : ixSD [.str ⟨⟨a :: t⟩⟩, .int 0] = if t.length + 1 ≤ LIM then (L2.atI (a :: t) 0).map fun c => .v (.str (sgn c)) else none := rfl
  have e2 : L2.atI (a :: t) 0 = some a := by
    unfold L2.atI
    simp [L2.ixN]
  rw [e, if_pos (by omega), e2]
  rfl
theorem sgn0 (a : Nat) : (sgn a = (Str.ofString "0")) ↔ a = 48 := by
  constructor
  · intro h
    have := congrArg (fun z : PySem.Str => z.cps.toList) h
    have e : (Str.ofString "0").cps.toList = [48] := by decide +kernel
    simp only [e] at this
    simpa [sgn] using this
  · rintro rfl
    decide +kernel
theorem tb1 (a : Bool) : PV.toBls [.bool a] = some [a] := rfl
theorem tb2 (a b : Bool) : PV.toBls [.bool a, .bool b] = some [a, b] := rfl
theorem one0 (a : Nat) : ((⟨⟨[a]⟩⟩ : PySem.Str) = Str.ofString "0") = (a = 48) := propext (sgn0 a)
theorem one1 (a : Nat) : (sgn a = Str.ofString "0") = (a = 48) := propext (sgn0 a)
theorem two0 (a b : Nat) : ((⟨⟨[a, b]⟩⟩ : PySem.Str) = Str.ofString "0") = False := eq_false fun h => by
  have := congrArg (fun z : PySem.Str => z.cps.toList) h
  have e : (Str.ofString "0").cps.toList = [48] := by decide +kernel
  simp [e] at this
theorem lenS (l : List Nat) : (⟨⟨l⟩⟩ : PySem.Str).length = l.length := rfl
theorem num337_ok (k : Nat) (w : PySem.Str) (hl : w.length ≤ LIM) (s : DS) : PV.runI tb (k + 1) 337 [.sh (.str w)] s = .ok (.v (optD (numO w))) s := by
  refine FS.eq (F_call (fd := ⟨2, 1, B_parse_number⟩) rfl rfl ?_)
  unfold B_parse_number
  obtain ⟨⟨l⟩⟩ := w
  match l, hl with
  | [], hl =>
    simp! only [lenS, VI_txt]
    simp
    rfl
  | [a], hl => 
    simp! only [lenS, VI_txt]
    refine ⟨(by unfold sgs LIM; simp), RS_map (enc := fun c => .str (sgn c)) (xs := [a]) (fun c => .bool (decide (isF c))) trivial (fun c _ => ?x1) ?x2⟩
    case x1 => 
      have := fig_in false c
      simp! only [this]
      simp
    case x2 =>
      have i0 := ix0 a [] (by unfold LIM; decide)
      by_cases ha : isF a
      · have n1 := int1F ha
        have e : numO ⟨⟨[a]⟩⟩ = some ((a : Int) - 48) := if_pos ha
        simp! only [i0, n1, e, tb1, decide_eq_true ha, List.all_cons, List.all_nil, id, one0, one1, optD]
        simp
      · have e : numO ⟨⟨[a]⟩⟩ = none := if_neg ha
        simp! only [i0, e, tb1, decide_eq_false ha, List.all_cons, List.all_nil, id, optD]
  | [a, b], hl =>
    simp! only [lenS, VI_txt]
    refine ⟨(by unfold sgs LIM; simp), RS_map (enc := fun c => .str (sgn c)) (xs := [a, b]) (fun c => .bool (decide (isF c))) trivial (fun c _ => ?x1) ?x2⟩
    case x1 => 
      have := fig_in false c
      simp! only [this]
      simp
    case x2 =>
      have i0 := ix0 a [b] (by show 1 < LIM; unfold LIM; decide)
      by_cases ha : isF a ∧ isF b
      · have n1 := int2F ha.1 ha.2
        by_cases h0 : a = 48
        · subst h0
          have e : numO ⟨⟨[48, b]⟩⟩ = none := if_neg fun z => z.2.2 rfl
          simp! only [i0, e, tb2, decide_eq_true ha.1, decide_eq_true ha.2, List.all_cons, List.all_nil, id, two0, one1, optD]
        · have e : numO ⟨⟨[a, b]⟩⟩ = some (10 * ((a : Int) - 48) + ((b : Int) - 48)) := if_pos ⟨ha.1, ha.2, h0⟩
          simp! only [i0, n1, e, tb2, decide_eq_true ha.1, decide_eq_true ha.2, List.all_cons, List.all_nil, id, two0, one1, h0, optD]
      · have e : numO ⟨⟨[a, b]⟩⟩ = none := if_neg fun z => ha ⟨z.1, z.2.1⟩
        have z : (decide (isF a) && decide (isF b)) = false := by
          rw [← Bool.decide_and]; exact decide_eq_false ha
        simp! only [i0, e, tb2, z, List.all_cons, List.all_nil, id, optD]
  | a :: b :: c :: t, hl => 
    have z : (⟨⟨a :: b :: c :: t⟩⟩ : PySem.Str).length = t.length + 3 := rfl
    have z1 : (1 ≤ ((t.length + 3 : Nat) : Int)) = True := eq_true (by omega)
    have z2 : (((t.length + 3 : Nat) : Int) ≤ 2) = False := eq_false (by omega)
    rw [z] at hl
    simp! only [hl, z, z1, z2, VI_txt]
    rfl
theorem empS (l : List Nat) : ((⟨⟨l⟩⟩ : PySem.Str) = Str.ofString "") = (l = []) := propext (by
  have e : (Str.ofString "").cps.toList = [] := by decide +kernel
  constructor
  · intro h
    have := congrArg (fun z : PySem.Str => z.cps.toList) h
    simpa [e] using this
  · rintro rfl
    decide +kernel)
theorem neD_consO (d : PyData) (ds : List PyData) (h : (d :: ds).length ≤ LIM) : PV.neD [.list (d :: ds), .list []] = some (.v (.bool true)) := by
  show (if SeqAt.shaped (.list (d :: ds)) = true ∧ SeqAt.shaped (.list []) = true then some (R.v (.bool (!PyData.eqv (.list (d :: ds)) (.list [])))) else nilD true (.list (d :: ds)) (.list [])) = _
  by_cases z : SeqAt.shaped (.list (d :: ds)) = true ∧ SeqAt.shaped (.list []) = true
  · rw [if_pos z]
    rfl
  · rw [if_neg z]
    show (if (d :: ds).length ≤ LIM ∧ (d :: ds) ≠ [] then some (R.v (.bool true)) else none) = _
    rw [if_pos ⟨h, by simp⟩]
theorem num313_ok (k : Nat) (w : PySem.Str) (hl : w.length ≤ LIM) (s : DS) : PV.runI tb (k + 1) 313 [.sh (.str w)] s = .ok (.v (optD (numO w))) s := by
  refine FS.eq (F_call (fd := ⟨2, 1, B__law_number⟩) rfl rfl ?_)
  unfold B__law_number
  obtain ⟨⟨l⟩⟩ := w
  match l, hl with
  | [], hl =>
    simp! only [empS, lenS, VI_txt]
    rfl
  | [a], hl => 
    simp! only [empS, lenS, VI_txt]
    refine ⟨(by unfold sgs LIM; simp), RS_lc (enc := fun c => .str (sgn c)) (xs := [a]) (fun c => !decide (isF c)) (fun c => .str (sgn c)) trivial (fun c _ => ?x1) ?x2⟩
    case x1 => 
      have := fig_in true c
      simp! only [this]
      simp
    case x2 =>
      have i0 := ix0 a [] (by unfold LIM; decide)
      by_cases ha : isF a
      · have n1 := int1F ha
        have e : numO ⟨⟨[a]⟩⟩ = some ((a : Int) - 48) := if_pos ha
        have e2 : [a].filter (fun c => !decide (isF c)) = [] := by simp [ha]
        simp! only [i0, n1, e, e2, one0, one1, optD]
        simp
      · have e : numO ⟨⟨[a]⟩⟩ = none := if_neg ha
        have e2 : [a].filter (fun c => !decide (isF c)) = [a] := by simp [ha]
        have ne := neD_consO (.str (sgn a)) [] (by show 1 ≤ LIM; unfold LIM; decide)
        simp! only [i0, e, e2, ne, optD]
  | [a, b], hl =>
    simp! only [empS, lenS, VI_txt]
    refine ⟨(by unfold sgs LIM; simp), RS_lc (enc := fun c => .str (sgn c)) (xs := [a, b]) (fun c => !decide (isF c)) (fun c => .str (sgn c)) trivial (fun c _ => ?x1) ?x2⟩
    case x1 => 
      have := fig_in true c
      simp! only [this]
      simp
    case x2 =>
      have i0 := ix0 a [b] (by show 1 < LIM; unfold LIM; decide)
      by_cases ha : isF a ∧ isF b
      · have n1 := int2F ha.1 ha.2
        have e2 : [a, b].filter (fun c => !decide (isF c)) = [] := by simp [ha.1, ha.2]
        by_cases h0 : a = 48
        · subst h0
          have e : numO ⟨⟨[48, b]⟩⟩ = none := if_neg fun z => z.2.2 rfl
          simp! only [i0, e, e2, two0, one1, optD]
        · have e : numO ⟨⟨[a, b]⟩⟩ = some (10 * ((a : Int) - 48) + ((b : Int) - 48)) := if_pos ⟨ha.1, ha.2, h0⟩
          simp! only [i0, n1, e, e2, two0, one1, h0, optD]
      · have e : numO ⟨⟨[a, b]⟩⟩ = none := if_neg fun z => ha ⟨z.1, z.2.1⟩
        obtain ⟨c, t, e2⟩ : ∃ c t, [a, b].filter (fun c => !decide (isF c)) = c :: t := by
          by_cases h1 : isF a
          · have h2 : ¬ isF b := fun h2 => ha ⟨h1, h2⟩
            exact ⟨b, [], by simp [h1, h2]⟩
          · by_cases h2 : isF b
            · exact ⟨a, [], by simp [h1, h2]⟩
            · exact ⟨a, [b], by simp [h1, h2]⟩
        have hlen : (c :: t).length ≤ 2 := by rw [← e2]; exact List.length_filter_le _ _
        have ne := neD_consO (.str (sgn c)) (t.map fun c => .str (sgn c)) (by rw [List.length_cons, List.length_map]; rw [List.length_cons] at hlen; unfold LIM; omega)
        simp! only [i0, e, e2, ne, optD]
  | a :: b :: c :: t, hl => 
    have z : (⟨⟨a :: b :: c :: t⟩⟩ : PySem.Str).length = t.length + 3 := rfl
    have z2 : (2 < ((t.length + 3 : Nat) : Int)) = True := eq_true (by omega)
    rw [z] at hl
    simp! only [empS, hl, z, z2, VI_txt]
    rfl

/-! words of a text -/
theorem joinC (y v u : PySem.Str) (ws : List PySem.Str) : (Str.join y (v :: u :: ws)).length = v.length + y.length + (Str.join y (u :: ws)).length := by
  show (v ++ y ++ Str.join y (u :: ws)).length = _
  rw [str_lenA, str_lenA]
theorem join_geG (y : PySem.Str) {ws : List PySem.Str} {w : PySem.Str} (h : w ∈ ws) : w.length ≤ (Str.join y ws).length := by
  induction ws with
  | nil => simp at h
  | cons v ws ih =>
    cases ws with
    | nil =>
      have : w = v := by simpa using h
      subst this
      exact Nat.le_refl _
    | cons u ws =>
      rw [joinC]
      rcases List.mem_cons.mp h with rfl | h
      · omega
      · have := ih h; omega
theorem join_cnt (y : PySem.Str) (hy : 1 ≤ y.length) : ∀ ws : List PySem.Str, ws.length ≤ (Str.join y ws).length + 1
  | [] => Nat.zero_le _
  | [_] => by simp
  | v :: u :: ws => by
    have := join_cnt y hy (u :: ws)
    rw [joinC, List.length_cons]
    omega
theorem split_le {x y p : PySem.Str} (h : p ∈ Txt.split x y) : p.length ≤ x.length := by
  have := join_geG y h
  rwa [PySem.StrLaws.join_split] at this
theorem split_cnt (x : PySem.Str) {y : PySem.Str} (hy : 1 ≤ y.length) : (Txt.split x y).length ≤ x.length + 1 := by
  have := join_cnt y hy (Txt.split x y)
  rwa [PySem.StrLaws.join_split] at this
theorem splitD_ok {x y : PySem.Str} (hy : 1 ≤ y.length) (h : x.length ≤ 1000000) : splitD [.str x, .str y] = some (.fl ((Txt.split x y).map .str)) := if_pos ⟨by
  cases e : y.length with
  | zero => omega
  | succ n => rfl, by unfold LIM; omega⟩
def pairL : List (Option Int) → Option (Int × Int)
  | [some a, some b] => some (a, b)
  | _ => none
theorem pairL1 (a : Option Int) : pairL [a] = none := by cases a <;> rfl
theorem pairL3 (a b c : Option Int) (t : List (Option Int)) : pairL (a :: b :: c :: t) = none := by cases a <;> cases b <;> rfl
def pairO (sg w : PySem.Str) : Option (Int × Int) := pairL ((Txt.split w sg).map numO)
def pairD : Option (Int × Int) → PyData
  | none => .none
  | some p => pr p
theorem sp_optD : ∀ o : Option Int, Sp 0 (optD o)
  | none => ⟨rfl, Nat.le_refl _⟩
  | some i => Sp.int
theorem notin_opt (a b : Option Int) : hasD .none (.tuple [optD a, optD b]) = some (a.isNone || b.isNone) := by
  refine (if_pos ⟨(sp_optD none).ok (by decide), (Sp.tuple (k := 0) fun d hd => by
    rcases List.mem_cons.mp hd with rfl | hd
    · exact sp_optD a
    · rw [List.mem_singleton.mp hd]; exact sp_optD b).ok (by decide)⟩).trans ?_
  cases a <;> cases b <;> rfl
theorem pair340_ok (k : Nat) (w sg : PySem.Str) (hsg : 1 ≤ sg.length) (hl : w.length ≤ 1000000) (s : DS) : PV.runI tb (k + 2) 340 [.sh (.str w), .sh (.str sg)] s = .ok (.v (pairD (pairO sg w))) s := by
  have hs := splitD_ok hsg hl
  have hc := split_cnt w hsg
  have hp : ∀ p ∈ Txt.split w sg, p.length ≤ LIM := fun p hp => by have := split_le hp; unfold LIM; omega
  refine FS.eq (F_call (fd := ⟨4, 2, B_parse_pair⟩) rfl rfl ?_)
  unfold B_parse_pair pairO
  simp! only [hs]
  generalize Txt.split w sg = ps at hc hp
  refine ⟨by rw [List.length_map]; unfold LIM; omega, RS_map (optD ∘ numO) trivial (fun p h => ?x1) ?x2⟩
  case x1 =>
    have e := fun s => num337_ok k p (hp p h) s
    simp! only [e]
    rfl
  case x2 =>
    simp! only
    match ps with
    | [] => simp! only [List.map_nil, pairL]; rfl
    | [a] => simp! only [List.map_cons, List.map_nil, pairL1]; rfl
    | [a, b] =>
      have ni := notin_opt (numO a) (numO b)
      simp! only [List.map_cons, List.map_nil, Function.comp, ni]
      cases numO a <;> cases numO b <;> simp! only [pairL, pairD, optD, Option.isNone_none, Option.isNone_some]
    | a :: b :: c :: t =>
      have z : (((t.length + 1 + 1 + 1 : Nat) : Int) = 2) = False := eq_false (by omega)
      simp! only [List.map_cons, List.length_map, z, pairL3]
      rfl
theorem zip_at {α : Type} {xs : List α} {done rest : List (α × Nat)} {q : α × Nat} (h : xs.zipIdx = done ++ q :: rest) : xs = done.map (·.1) ++ q.1 :: rest.map (·.1) ∧ q.2 = done.length := by
  constructor
  · have := congrArg (fun z => z.map (·.1)) h
    simpa using this
  · have h2 : (xs.zipIdx)[done.length]? = some q := by rw [h]; simp
    rw [List.getElem?_zipIdx] at h2
    cases e : xs[done.length]? with
    | none => rw [e] at h2; cases h2
    | some x => rw [e] at h2; injection h2 with h2; rw [← h2]; simp
theorem rzT {x : FRes} {c : Nat} {f : Option PyData} {s : DS} (h : FS x (fun _ _ => False) fun c' f' s' => c' = c ∧ f' = f ∧ s' = s) : x = .rz c f s := by
  cases x with
  | ok r s' => exact h.elim
  | bad => exact h.elim
  | rz c' f' s' => obtain ⟨rfl, rfl, rfl⟩ := (h : c' = c ∧ f' = f ∧ s' = s); rfl
/-- the first wrong word -/
def badW (ws : List PySem.Str) : Option Nat := ws.findIdx? fun w => (pairO ">" w).isNone
def goodW (ws : List PySem.Str) : Prop := ∀ w ∈ ws, (pairO ">" w).isNone = false
def prsW (ws : List PySem.Str) : List (Int × Int) := ws.filterMap (pairO ">")
theorem badW_none {ws : List PySem.Str} (h : goodW ws) : badW ws = none := List.findIdx?_eq_none_iff.mpr fun w hw => h w hw
theorem badW_at {a b : List PySem.Str} {w : PySem.Str} (h : goodW a) (hw : pairO ">" w = none) : badW (a ++ w :: b) = some a.length := by
  unfold badW
  rw [List.findIdx?_append, show a.findIdx? _ = none from badW_none h]
  simp [List.findIdx?_cons, hw]
/-- what the text says -/
def slO (w : PySem.Str) : Nat ⊕ List (Int × Int) := if w = Str.ofString "none" then .inr [] else match badW (Txt.split w " ") with
  | some i => .inl i
  | none => .inr (prsW (Txt.split w " "))
theorem sp1 : 1 ≤ (Str.ofString " ").length := by decide +kernel
theorem gt1 : 1 ≤ (Str.ofString ">").length := by decide +kernel
theorem slides214_fs (k : Nat) (w : PySem.Str) (hl : w.length ≤ 1000000) (s : DS) : FS (PV.runI tb (k + 3) 214 [.sh (.str w)] s) (fun r s' => ∃ ps, slO w = .inr ps ∧ r = .v (.tuple (ps.map pr)) ∧ s' = s) fun c f s' => ∃ i : Nat, slO w = .inl i ∧ c = 18 ∧ f = some (.int i) ∧ s' = s := by
  have hs := splitD_ok sp1 hl
  have hc := split_cnt w sp1
  have hp : ∀ p ∈ Txt.split w (Str.ofString " "), p.length ≤ 1000000 := fun p hp => by have := split_le hp; omega
  refine F_call (fd := ⟨5, 1, B_parse_slides⟩) rfl rfl ?_
  unfold B_parse_slides slO
  by_cases e : w = Str.ofString "none"
  · rw [if_pos e]
    simp! only [e]
    exact ⟨[], rfl, rfl⟩
  · rw [if_neg e]
    simp! only [hs, e]
    generalize Txt.split w (Str.ofString " ") = ws at hc hp
    refine RS_lop (fun done rest mm => goodW (done.map (·.1)) ∧ ∃ a2 a3 a4, mm = ⟨[.sh (.str w), .ol ((prsW (done.map (·.1))).map pr), a2, a3, a4], s⟩) ⟨(fun _ h => nomatch h), _, _, _, rfl⟩ (fun _ _ m hj => trivial) (fun done q rest m hF hj => ?x1) (fun m hj => ?x2)
    case x1 =>
      obtain ⟨hg, a2, a3, a4, rfl⟩ := hj
      obtain ⟨hx, hq⟩ := zip_at hF
      have e1 := fun s => pair340_ok k q.1 (Str.ofString ">") gt1 (hp q.1 (by rw [hx]; simp)) s
      simp! only [e1]
      cases hw : pairO (Str.ofString ">") q.1 with
      | none =>
        have hb := badW_at (b := rest.map (·.1)) hg hw
        rw [← hx, List.length_map, ← hq] at hb
        simp! only [pairD, hb]
        exact ⟨_, rfl, rfl⟩
      | some p =>
        simp! only [pairD]
        have h3 : prsW ((done ++ [q]).map (·.1)) = prsW (done.map (·.1)) ++ [p] := by
          unfold prsW
          rw [List.map_append, List.filterMap_append]
          congr 1
          simp [List.filterMap_cons, hw]
        have h4 : goodW ((done ++ [q]).map (·.1)) := fun x hx => by
          rw [List.map_append] at hx
          rcases List.mem_append.mp hx with hx | hx
          · exact hg x hx
          · rw [List.mem_singleton.mp hx, hw]; rfl
        have h5 : (prsW (done.map (·.1))).length ≤ ws.length := by
          have := List.length_filterMap_le (pairO (Str.ofString ">")) (done.map (·.1))
          have h6 := congrArg List.length hx
          rw [List.length_append, List.length_map, List.length_cons] at h6
          rw [List.length_map] at this
          show (List.filterMap (pairO (Str.ofString ">")) (done.map (·.1))).length ≤ _
          omega
        refine ⟨by rw [List.length_map]; unfold LIM; omega, h4, ?_⟩
        rw [h3, List.map_append]
        exact ⟨_, _, _, rfl⟩
    case x2 =>
      obtain ⟨hg, a2, a3, a4, rfl⟩ := hj
      simp only [List.zipIdx_map_fst] at hg
      have hb := badW_none hg
      simp! only [hb, List.zipIdx_map_fst]
      exact ⟨_, rfl, rfl⟩
theorem fs_split {x : FRes} {P : PV.R → DS → Prop} {E : Nat → Option PyData → DS → Prop} (h : FS x P E) : (∃ r s, x = .ok r s ∧ P r s) ∨ ∃ c f s, x = .rz c f s ∧ E c f s := by
  cases x with
  | ok r s => exact .inl ⟨r, s, rfl, h⟩
  | bad => exact h.elim
  | rz c f s => exact .inr ⟨c, f, s, rfl, h⟩
theorem slides214_rz (k : Nat) (w : PySem.Str) (hl : w.length ≤ 1000000) {i : Nat} (h : slO w = .inl i) (s : DS) : PV.runI tb (k + 3) 214 [.sh (.str w)] s = .rz 18 (some (.int i)) s := by
  rcases fs_split (slides214_fs k w hl s) with ⟨r, s', e, ps, z, _⟩ | ⟨c, f, s', e, j, z, rfl, rfl, rfl⟩
  · rw [h] at z; cases z
  · rw [h] at z; cases z
    exact e
theorem slides214_ok (k : Nat) (w : PySem.Str) (hl : w.length ≤ 1000000) {ps : List (Int × Int)} (h : slO w = .inr ps) (s : DS) : PV.runI tb (k + 3) 214 [.sh (.str w)] s = .ok (.v (.tuple (ps.map pr))) s := by
  rcases fs_split (slides214_fs k w hl s) with ⟨r, s', e, ps, z, rfl, rfl⟩ | ⟨c, f, s', e, j, z, _⟩
  · rw [h] at z; cases z
    exact e
  · rw [h] at z; cases z
theorem split_none : Txt.split (Str.ofString "none") (Str.ofString " ") = [Str.ofString "none"] := by decide +kernel
def dueD : Nat ⊕ List (Int × Int) → PyData
  | .inl i => .tuple [.str (Str.ofString "BadText"), .int i]
  | .inr ps => .tuple (ps.map pr)
theorem due216_ok (k : Nat) (w : PySem.Str) (hl : w.length ≤ 1000000) (s : DS) : PV.runI tb (k + 2) 216 [.sh (.str w)] s = .ok (.v (dueD (slO w))) s := by
  have hs := splitD_ok sp1 hl
  have hc := split_cnt w sp1
  have hp : ∀ p ∈ Txt.split w (Str.ofString " "), p.length ≤ 1000000 := fun p hp => by have := split_le hp; omega
  refine FS.eq (F_call (fd := ⟨6, 1, B__law_due⟩) rfl rfl ?_)
  unfold B__law_due slO
  by_cases e : w = Str.ofString "none"
  · rw [if_pos e]
    subst e
    rw [split_none] at hs
    simp! only [hs, List.map_cons, List.map_nil]
    refine RS_lop (fun done rest mm => ∃ a2 a3 a4, mm = ⟨[.sh (.str (Str.ofString "none")), .sh (.tuple []), a2, a3, a4, .un], s⟩) ⟨_, _, _, rfl⟩ (fun _ _ m hj => trivial) (fun done q rest m hF hj => ?y1) (fun m hj => ?y2)
    case y1 =>
      obtain ⟨a2, a3, a4, rfl⟩ := hj
      simp! only
      exact ⟨_, _, _, rfl⟩
    case y2 =>
      obtain ⟨a2, a3, a4, rfl⟩ := hj
      simp! only [dueD]
  · rw [if_neg e]
    simp! only [hs, e]
    generalize Txt.split w (Str.ofString " ") = ws at hc hp
    refine RS_lop (fun done rest mm => goodW (done.map (·.1)) ∧ ∃ a2 a3 a4, mm = ⟨[.sh (.str w), .sh (.tuple ((prsW (done.map (·.1))).map pr)), a2, a3, a4, .un], s⟩) ⟨(fun _ h => nomatch h), _, _, _, rfl⟩ (fun _ _ m hj => trivial) (fun done q rest m hF hj => ?x1) (fun m hj => ?x2)
    case x1 =>
      obtain ⟨hg, a2, a3, a4, rfl⟩ := hj
      obtain ⟨hx, hq⟩ := zip_at hF
      have hq1 := hp q.1 (by rw [hx]; simp)
      have e1 := splitD_ok gt1 hq1
      have e2 := split_cnt q.1 gt1
      have h7 : ∀ p ∈ Txt.split q.1 (Str.ofString ">"), p.length ≤ LIM := fun p hp => by have := split_le hp; unfold LIM; omega
      have h8 : pairO (Str.ofString ">") q.1 = pairL ((Txt.split q.1 (Str.ofString ">")).map numO) := rfl
      have h5 : (prsW (done.map (·.1))).length ≤ ws.length := by
        have := List.length_filterMap_le (pairO (Str.ofString ">")) (done.map (·.1))
        have h6 := congrArg List.length hx
        rw [List.length_append, List.length_map, List.length_cons] at h6
        rw [List.length_map] at this
        show (List.filterMap (pairO (Str.ofString ">")) (done.map (·.1))).length ≤ _
        omega
      simp! only [e, e1]
      generalize hps : Txt.split q.1 (Str.ofString ">") = ps at e2 h7 h8
      refine ⟨by rw [List.length_map]; unfold LIM; omega, RS_map (optD ∘ numO) trivial (fun p h => ?z1) ?z2⟩
      case z1 =>
        have e := fun s => num313_ok k p (h7 p h) s
        simp! only [e]
        rfl
      case z2 =>
        simp! only
        have bad : pairL (ps.map numO) = none → badW ws = some q.2 := fun z => by
          have hb := badW_at (b := rest.map (·.1)) hg (h8.trans z)
          rw [← hx, List.length_map, ← hq] at hb
          exact hb
        match ps, bad with
        | [], bad =>
          simp! only [bad rfl, List.map_nil, dueD]
        | [a], bad =>
          simp! only [bad (pairL1 _), List.map_cons, List.map_nil, dueD]
        | [a, b], bad =>
          have ni := notin_opt (numO a) (numO b)
          simp! only [List.map_cons, List.map_nil, Function.comp, ni]
          rw [List.map_cons, List.map_cons, List.map_nil] at h8 bad
          cases ha : numO a with
          | none =>
            rw [ha] at bad
            simp! only [bad rfl, optD, Option.isNone_none, dueD]
          | some x =>
            cases hb : numO b with
            | none =>
              rw [ha, hb] at bad
              simp! only [bad rfl, optD, Option.isNone_none, Option.isNone_some, dueD]
            | some y =>
              rw [ha, hb] at h8
              have hw : pairO (Str.ofString ">") q.1 = some (x, y) := h8
              have h3 : prsW ((done ++ [q]).map (·.1)) = prsW (done.map (·.1)) ++ [(x, y)] := by
                unfold prsW
                rw [List.map_append, List.filterMap_append]
                congr 1
                simp [List.filterMap_cons, hw]
              have h4 : goodW ((done ++ [q]).map (·.1)) := fun x hx => by
                rw [List.map_append] at hx
                rcases List.mem_append.mp hx with hx | hx
                · exact hg x hx
                · rw [List.mem_singleton.mp hx, hw]; rfl
              simp! only [optD, Option.isNone_none, Option.isNone_some]
              refine ⟨by rw [List.length_map]; unfold LIM; omega, h4, ?_⟩
              rw [h3, List.map_append]
              exact ⟨_, _, _, rfl⟩
        | a :: b :: c :: t, bad =>
          have z : (((t.length + 1 + 1 + 1 : Nat) : Int) = 2) = False := eq_false (by omega)
          simp! only [bad (pairL3 _ _ _ _), List.map_cons, List.length_map, z, dueD]
    case x2 =>
      obtain ⟨hg, a2, a3, a4, rfl⟩ := hj
      simp only [List.zipIdx_map_fst] at hg
      have hb := badW_none hg
      simp! only [hb, List.zipIdx_map_fst, dueD]

/-! equal values, with equal kinds -/
theorem same_str (k : Nat) (x : PySem.Str) (s : DS) : PV.runI tb (k + 1) 213 [.sh (.str x), .sh (.str x)] s = .ok (.v (.bool true)) s := by
  refine FS.eq (F_call (fd := ⟨4, 2, B__law_same⟩) rfl rfl ?_)
  unfold B__law_same
  simp! only
theorem eqbb : PV.eqD [.bool false, .bool false] = some (.v (.bool true)) := rfl
theorem same_int (k : Nat) (x : Int) (s : DS) : PV.runI tb (k + 1) 213 [.sh (.int x), .sh (.int x)] s = .ok (.v (.bool true)) s := by
  refine FS.eq (F_call (fd := ⟨4, 2, B__law_same⟩) rfl rfl ?_)
  unfold B__law_same
  simp! only [eqbb]
theorem same_none (k : Nat) (s : DS) : PV.runI tb (k + 1) 213 [.sh .none, .sh .none] s = .ok (.v (.bool true)) s := by
  refine FS.eq (F_call (fd := ⟨4, 2, B__law_same⟩) rfl rfl ?_)
  unfold B__law_same
  simp! only
theorem zip_self : ∀ ds : List PyData, PV.zipD [ds, ds] = ds.map fun d => .tuple [d, d]
  | [] => rfl
  | d :: ds => by
    show PyData.tuple [d, d] :: PV.zipD [ds, ds] = _
    rw [zip_self ds]; rfl
theorem same_tup (k : Nat) {ds : List PyData} (hl : ds.length ≤ 1000000) (h : ∀ d ∈ ds, ∀ s, PV.runI tb (k + 1) 213 [.sh d, .sh d] s = .ok (.v (.bool true)) s) (s : DS) : PV.runI tb (k + 2) 213 [.sh (.tuple ds), .sh (.tuple ds)] s = .ok (.v (.bool true)) s := by
  refine FS.eq (F_call (fd := ⟨4, 2, B__law_same⟩) rfl rfl ?_)
  unfold B__law_same
  have hl2 : ds.length ≤ LIM := by unfold LIM; omega
  simp! only [hl2, zip_self]
  refine ⟨by rw [List.length_map]; exact hl2, RS_lc (enc := fun d => .tuple [d, d]) (xs := ds) (fun _ => false) (fun _ => .int 1) trivial (fun d hd => ?x1) ?x2⟩
  case x1 =>
    simp! only [h d hd]
  case x2 =>
    rw [List.filter_eq_nil_iff.mpr fun _ _ => by decide]
    simp! only
theorem same_prs (k : Nat) (ps : List (Int × Int)) (hl : ps.length ≤ 1000000) (s : DS) : PV.runI tb (k + 3) 213 [.sh (.tuple (ps.map pr)), .sh (.tuple (ps.map pr))] s = .ok (.v (.bool true)) s := by
  refine same_tup (k + 1) (by rw [List.length_map]; exact hl) (fun d hd s => ?_) s
  obtain ⟨p, _, rfl⟩ := List.mem_map.mp hd
  refine same_tup k (by show 2 ≤ 1000000; decide) (fun d hd s => ?_) s
  rcases List.mem_cons.mp hd with rfl | hd
  · exact same_int k _ s
  · rw [List.mem_singleton.mp hd]; exact same_int k _ s
theorem prs_len (w : PySem.Str) {ps : List (Int × Int)} (h : slO w = .inr ps) : ps.length ≤ w.length + 1 := by
  unfold slO at h
  by_cases e : w = Str.ofString "none"
  · rw [if_pos e] at h; cases h; exact Nat.zero_le _
  · rw [if_neg e] at h
    cases hb : badW (Txt.split w " ") with
    | some i => rw [hb] at h; cases h
    | none =>
      rw [hb] at h; cases h
      exact Nat.le_trans (List.length_filterMap_le _ _) (split_cnt w sp1)
theorem same_due (k : Nat) (w : PySem.Str) (hl : w.length ≤ 900000) (s : DS) : PV.runI tb (k + 3) 213 [.sh (dueD (slO w)), .sh (dueD (slO w))] s = .ok (.v (.bool true)) s := by
  cases h : slO w with
  | inl i =>
    refine same_tup (k + 1) (by show 2 ≤ 1000000; decide) (fun d hd s => ?_) s
    rcases List.mem_cons.mp hd with rfl | hd
    · exact same_str (k + 1) _ s
    · rw [List.mem_singleton.mp hd]; exact same_int (k + 1) _ s
  | inr ps => exact same_prs k ps (by have := prs_len w h; omega) s
theorem same_badN (k : Nat) (s : DS) : PV.runI tb (k + 2) 213 [.sh (.tuple [.str (Str.ofString "BadText"), .none]), .sh (.tuple [.str (Str.ofString "BadText"), .none])] s = .ok (.v (.bool true)) s := by
  refine same_tup k (by decide) (fun d hd s => ?_) s
  rcases List.mem_cons.mp hd with rfl | hd
  · exact same_str k _ s
  · rw [List.mem_singleton.mp hd]; exact same_none k s
theorem told217_ok (k : Nat) (w : PySem.Str) (hl : w.length ≤ 1000000) (s : DS) : PV.runI tb (k + 4) 217 [.sh (.str w)] s = .ok (.v (dueD (slO w))) s := by
  refine FS.eq (F_call (fd := ⟨2, 1, B__law_told⟩) rfl rfl ?_)
  unfold B__law_told
  cases h : slO w with
  | inl i =>
    simp! only
    refine RS_tr ?_
    simp! only [slides214_rz k w hl h]
    refine ⟨(fun h => nomatch h), fun _ => ⟨.rt (.v (.tuple [.str (Str.ofString "BadText"), .int i])), ⟨[.sh (.str w), .un], s⟩, fun a b => ?_, (fun j h => nomatch h), ?_⟩⟩
    · simp! only [xfn, su__law_told_0, exSlot_s]
      skip
    · simp! only [dueD]
  | inr ps =>
    simp! only
    refine RS_tr ?_
    simp! only [slides214_ok k w hl h, dueD]
theorem slides214_no (k : Nat) (d : PyData) (hd : PV.isKind 2 d = false) (s : DS) : PV.runI tb (k + 3) 214 [.sh d] s = .rz 18 (some .none) s := by
  refine rzT (F_call (fd := ⟨5, 1, B_parse_slides⟩) rfl rfl ?_)
  unfold B_parse_slides
  have hd2 : PV.opD (.isi 2) [d] = some (.v (.bool false)) := by show some (PV.R.v (.bool (isKind 2 d))) = _; rw [hd]
  simp only [hd, PV.truth_none, PV.truth_bool, PV.truth_int, PV.truth_str, PV.truth_list, PV.truth_tuple, PV.truth_dict, PV.strFits_none, PV.strFits_bool, PV.strFits_int, PV.strFits_str, PV.strFits_list, PV.strFits_tuple, PV.strFits_dict, PV.slR_sh, PV.slR_ol, PV.slR_od, PV.slR_dk, PV.vOf_v, PV.bOf_b, PV.noPD_v, PV.noPD_fl, PV.noPD_fd, PV.deref_v, PV.deref_fl, PV.deref_fd, PV.slotD_ol, PV.slotD_od, PV.slotD_sh, PV.derefs_nil, PV.derefs_c, PV.esc_v, PV.esc_fl, PV.esc_fd, PV.esc_pl, PV.escS_ol, PV.escS_od, PV.escS_sh, PV.escs_nil, PV.escs_c, PV.toArgs_nil, PV.toArgs_dk, PV.toArgs_v, PV.toArgs_fl, PV.toArgs_fd, PV.toArgs_pl, PV.setR_v, PV.setR_fl, PV.setR_fd, PV.setR_dk, PV.setR_pl, PV.setRs_nil, PV.setRs_c, PV.items_l, PV.items_t, PV.items_fl, PV.items_pl, PV.itS_ol, PV.itS_sh, PV.isOwn_ol, PV.isOwn_od, PV.isOwn_sh, PV.isOwn_un, PV.isOwn_dk, PV.isOwn_no, PV.olAt_ol, PV.finS_ol, PV.finS_od, PV.finS_sh, PV.zipR_tt, PV.zipR_ll, PV.zipR_ff, PV.zipR_lf, PV.zipR_fl, PV.zipL_ll, PV.zipL_ff, PV.zipL_lf, PV.zipL_fl, PV.noPl_nil, PV.noPl_v, PV.noPl_fl, PV.noPl_fd, PV.noPl_dk, PV.hasPl_nil, PV.hasPl_v, PV.hasPl_fl, PV.hasPl_fd, PV.hasPl_dk, PV.hasPl_pl, PV.flatR_v, PV.bind1_nm, PV.bind1_tp, PV.bind1_tl, PV.bindL_nil, PV.bindL_c, PV.deref_pl, PV.eq_str, PV.ne_str, PV.flat_b, PV.flat_i, PV.flat_s, PV.flat_n, PV.V_c, PV.V_x, PV.V_op, PV.V_call, PV.V_tup, PV.V_lst, PV.V_emp, PV.V_and, PV.V_or, PV.V_ite, PV.V_mut, PV.M_app, PV.M_pop, PV.M_popAt, PV.M_ext, PV.M_rem, PV.M_ins, PV.V_ofT, PV.V_dsp, PV.V_chn, PV.V_lc, PV.V_dc, PV.bdT_eq, PV.bdS_eq, PV.ownOk, PV.VI_zip, PV.VI_zpl, PV.VI_zp3, PV.zip3R_t, PV.X_raise1, PV.V_xf, PV.xfR_s, PV.exSlot_s, PV.X_sub, PV.X_swp, PV.subR, PV.Vs_nil, PV.Vs_cons, PV.VT_yes, PV.VT_e, PV.VT_and, PV.VT_or, PV.VT_not, PV.VI_e, PV.VI_rng, PV.VI_enm, PV.X_nil, PV.X_cons, PV.X_set, PV.X_unp, PV.X_par, PV.X_ex, PV.X_ret, PV.X_retN, PV.X_ite, PV.X_lop, PV.X_pass, PV.X_brk, PV.X_cont, PV.V_dcT, PV.V_updT, PV.VI_txt, PV.VI_rg3, PV.odTAt_od, PV.fdTOf_fd, PV.strOf_s, PV.nxt_nx, PV.nxt_brk, PV.nxt_ct, PV.nxt_rt, PV.finF_nx, PV.finF_v, PV.finF_fl, PV.finF_fd, PV.finF_pl, PV.RS_ok, PV.RS_rz, PV.RS_bad, PV.FS_ok, PV.FS_rz, PV.FS_bad, PV.OS_some, PV.OS_none, PV.OS_map, PV.OS_ite, PV.callOk, PV.rzOk, PV.flatO, PV.opE_v2, PV.opE_vf, PV.opE_fv, PV.opE_ff, PV.opE_n_add, PV.opE_n_sub, PV.opE_n_mul, PV.opE_n_fdiv, PV.opE_n_mod, PV.opE_n_pow, PV.opE_n_neg, PV.opE_n_eq, PV.opE_n_ne, PV.opE_n_lt, PV.opE_n_le, PV.opE_n_gt, PV.opE_n_ge, PV.opE_n_isN, PV.opE_n_notN, PV.opE_n_len, PV.opE_n_tuple, PV.opE_n_list, PV.opE_n_lrng, PV.opE_n_sorted, PV.opE_n_abs, PV.opE_n_min2, PV.opE_n_max2, PV.opE_n_min1, PV.opE_n_max1, PV.opE_n_sum, PV.opE_n_any, PV.opE_n_all, PV.opE_n_int, PV.opE_n_str, PV.opE_n_repr, PV.opE_n_not, PV.opE_n_idi, PV.opE_n_rev, PV.opE_n_sl, PV.opE_n_isi, PV.opE_n_g, PV.opE_inp, PV.opE_notinp, PV.opE_idxp, PV.pidx_ol, PV.pinn_ol, PV.pnin_ol, PV.opD, PV.clear, PV.back, PV.mutOk, PV.srcFree, PV.slotA, PV.keyOk, PV.toKey, PV.addD, PV.subD, PV.negD, PV.cmpR, PV.cmpD, PV.isND, PV.notND, PV.isiD, PV.notD, PV.lenD, PV.tupleD, PV.listD, PV.inD, PV.notinD, PV.idxD_t, PV.idxD_l, PV.eqD_nil0, PV.neD_nil0, PV.eqD_lI0, PV.neD_lI0, PV.eqD_lP0, PV.neD_lP0, PV.eqD_tI0, PV.neD_tI0, PV.eqD_tP0, PV.neD_tP0, PV.eqD_p, PV.neD_p, PV.eqD_b2, PV.neD_b2, PV.eqD_int, PV.neD_int, PV.eqD_tI, PV.neD_tI, PV.eqD_lI, PV.neD_lI, PV.eqD_tP, PV.neD_tP, PV.eqD_lP, PV.neD_lP, PV.gD, PV.isBD, PV.hasD_tI, PV.hasD_lI, PV.hasD_tP', PV.hasD_lP', PV.lim0, PV.lim1, PV.lim2, PV.lim3, PV.lim4, PV.lim5, PV.lim6, PV.lim7, PV.lim8, PV.lim9, PV.lim10, PV.lim11, PV.lim12, PV.lim17, PV.lim26, PV.pr, PV.srcOk, PV.min2D, PV.max2D, PV.rng_1, PV.rng_2, PV.lrng_1, PV.slD, PV.cut_1, PV.cut_m1, PV.zip_ints, PV.enum_map, PV.allD, PV.anyD, PV.toBls_map, PV.pick_0, PV.pick_1, PV.pick_2, PV.pick_3, PV.srt_ints, PV.srt_prs, PV.sortedD, PV.toInts_ints, Option.isSome_some, Option.isSome_none, List.all_cons, List.all_nil, List.getElem?_cons_zero, List.getElem?_cons_succ, List.set_cons_zero, List.set_cons_succ, List.map_cons, List.map_nil, List.length_cons, List.length_nil, List.replicate_succ, List.replicate_zero, List.append_nil, List.nil_append, List.cons_append, Option.map_some, Option.map_none, Option.bind_some, Option.bind_none, Option.getD_some, Bool.not_true, Bool.not_false, Bool.false_or, Bool.true_or, Bool.or_true, Bool.or_false, Bool.true_and, Bool.false_and, Bool.and_true, Bool.and_false, BEq.rfl, not_true_eq_false, forall_const, true_implies, false_implies, and_true, true_and, and_self, Bool.false_eq_true, reduceCtorEq, ne_eq, not_false_eq_true, decide_true, decide_false, decide_eq_true_eq, decide_eq_false_iff_not, PV.cast0, PV.cast1, PV.cast2, PV.cast3, PV.cast4, PV.cast5, PV.cast6, PV.cast7, PV.cast8, PV.cast9, PV.cast10, PV.cast11, PV.cast12, Int.reduceEq, Int.reduceLT, Int.reduceLE, Int.reduceGT, Int.reduceGE, Int.reduceAdd, Int.reduceSub, Int.reduceNeg, Int.reduceNe, Nat.reduceSub, Nat.reduceAdd, if_true, if_false, ite_true, ite_false, reduceIte, implies_true, Rk.idxD_F0, Rk.idxD_F1]
theorem due216_no (k : Nat) (d : PyData) (hd : PV.isKind 2 d = false) (s : DS) : PV.runI tb (k + 2) 216 [.sh d] s = .ok (.v (.tuple [.str (Str.ofString "BadText"), .none])) s := by
  refine FS.eq (F_call (fd := ⟨6, 1, B__law_due⟩) rfl rfl ?_)
  unfold B__law_due
  have hd2 : PV.opD (.isi 2) [d] = some (.v (.bool false)) := by show some (PV.R.v (.bool (isKind 2 d))) = _; rw [hd]
  simp only [hd, PV.truth_none, PV.truth_bool, PV.truth_int, PV.truth_str, PV.truth_list, PV.truth_tuple, PV.truth_dict, PV.strFits_none, PV.strFits_bool, PV.strFits_int, PV.strFits_str, PV.strFits_list, PV.strFits_tuple, PV.strFits_dict, PV.slR_sh, PV.slR_ol, PV.slR_od, PV.slR_dk, PV.vOf_v, PV.bOf_b, PV.noPD_v, PV.noPD_fl, PV.noPD_fd, PV.deref_v, PV.deref_fl, PV.deref_fd, PV.slotD_ol, PV.slotD_od, PV.slotD_sh, PV.derefs_nil, PV.derefs_c, PV.esc_v, PV.esc_fl, PV.esc_fd, PV.esc_pl, PV.escS_ol, PV.escS_od, PV.escS_sh, PV.escs_nil, PV.escs_c, PV.toArgs_nil, PV.toArgs_dk, PV.toArgs_v, PV.toArgs_fl, PV.toArgs_fd, PV.toArgs_pl, PV.setR_v, PV.setR_fl, PV.setR_fd, PV.setR_dk, PV.setR_pl, PV.setRs_nil, PV.setRs_c, PV.items_l, PV.items_t, PV.items_fl, PV.items_pl, PV.itS_ol, PV.itS_sh, PV.isOwn_ol, PV.isOwn_od, PV.isOwn_sh, PV.isOwn_un, PV.isOwn_dk, PV.isOwn_no, PV.olAt_ol, PV.finS_ol, PV.finS_od, PV.finS_sh, PV.zipR_tt, PV.zipR_ll, PV.zipR_ff, PV.zipR_lf, PV.zipR_fl, PV.zipL_ll, PV.zipL_ff, PV.zipL_lf, PV.zipL_fl, PV.noPl_nil, PV.noPl_v, PV.noPl_fl, PV.noPl_fd, PV.noPl_dk, PV.hasPl_nil, PV.hasPl_v, PV.hasPl_fl, PV.hasPl_fd, PV.hasPl_dk, PV.hasPl_pl, PV.flatR_v, PV.bind1_nm, PV.bind1_tp, PV.bind1_tl, PV.bindL_nil, PV.bindL_c, PV.deref_pl, PV.eq_str, PV.ne_str, PV.flat_b, PV.flat_i, PV.flat_s, PV.flat_n, PV.V_c, PV.V_x, PV.V_op, PV.V_call, PV.V_tup, PV.V_lst, PV.V_emp, PV.V_and, PV.V_or, PV.V_ite, PV.V_mut, PV.M_app, PV.M_pop, PV.M_popAt, PV.M_ext, PV.M_rem, PV.M_ins, PV.V_ofT, PV.V_dsp, PV.V_chn, PV.V_lc, PV.V_dc, PV.bdT_eq, PV.bdS_eq, PV.ownOk, PV.VI_zip, PV.VI_zpl, PV.VI_zp3, PV.zip3R_t, PV.X_raise1, PV.V_xf, PV.xfR_s, PV.exSlot_s, PV.X_sub, PV.X_swp, PV.subR, PV.Vs_nil, PV.Vs_cons, PV.VT_yes, PV.VT_e, PV.VT_and, PV.VT_or, PV.VT_not, PV.VI_e, PV.VI_rng, PV.VI_enm, PV.X_nil, PV.X_cons, PV.X_set, PV.X_unp, PV.X_par, PV.X_ex, PV.X_ret, PV.X_retN, PV.X_ite, PV.X_lop, PV.X_pass, PV.X_brk, PV.X_cont, PV.V_dcT, PV.V_updT, PV.VI_txt, PV.VI_rg3, PV.odTAt_od, PV.fdTOf_fd, PV.strOf_s, PV.nxt_nx, PV.nxt_brk, PV.nxt_ct, PV.nxt_rt, PV.finF_nx, PV.finF_v, PV.finF_fl, PV.finF_fd, PV.finF_pl, PV.RS_ok, PV.RS_rz, PV.RS_bad, PV.FS_ok, PV.FS_rz, PV.FS_bad, PV.OS_some, PV.OS_none, PV.OS_map, PV.OS_ite, PV.callOk, PV.rzOk, PV.flatO, PV.opE_v2, PV.opE_vf, PV.opE_fv, PV.opE_ff, PV.opE_n_add, PV.opE_n_sub, PV.opE_n_mul, PV.opE_n_fdiv, PV.opE_n_mod, PV.opE_n_pow, PV.opE_n_neg, PV.opE_n_eq, PV.opE_n_ne, PV.opE_n_lt, PV.opE_n_le, PV.opE_n_gt, PV.opE_n_ge, PV.opE_n_isN, PV.opE_n_notN, PV.opE_n_len, PV.opE_n_tuple, PV.opE_n_list, PV.opE_n_lrng, PV.opE_n_sorted, PV.opE_n_abs, PV.opE_n_min2, PV.opE_n_max2, PV.opE_n_min1, PV.opE_n_max1, PV.opE_n_sum, PV.opE_n_any, PV.opE_n_all, PV.opE_n_int, PV.opE_n_str, PV.opE_n_repr, PV.opE_n_not, PV.opE_n_idi, PV.opE_n_rev, PV.opE_n_sl, PV.opE_n_isi, PV.opE_n_g, PV.opE_inp, PV.opE_notinp, PV.opE_idxp, PV.pidx_ol, PV.pinn_ol, PV.pnin_ol, PV.opD, PV.clear, PV.back, PV.mutOk, PV.srcFree, PV.slotA, PV.keyOk, PV.toKey, PV.addD, PV.subD, PV.negD, PV.cmpR, PV.cmpD, PV.isND, PV.notND, PV.isiD, PV.notD, PV.lenD, PV.tupleD, PV.listD, PV.inD, PV.notinD, PV.idxD_t, PV.idxD_l, PV.eqD_nil0, PV.neD_nil0, PV.eqD_lI0, PV.neD_lI0, PV.eqD_lP0, PV.neD_lP0, PV.eqD_tI0, PV.neD_tI0, PV.eqD_tP0, PV.neD_tP0, PV.eqD_p, PV.neD_p, PV.eqD_b2, PV.neD_b2, PV.eqD_int, PV.neD_int, PV.eqD_tI, PV.neD_tI, PV.eqD_lI, PV.neD_lI, PV.eqD_tP, PV.neD_tP, PV.eqD_lP, PV.neD_lP, PV.gD, PV.isBD, PV.hasD_tI, PV.hasD_lI, PV.hasD_tP', PV.hasD_lP', PV.lim0, PV.lim1, PV.lim2, PV.lim3, PV.lim4, PV.lim5, PV.lim6, PV.lim7, PV.lim8, PV.lim9, PV.lim10, PV.lim11, PV.lim12, PV.lim17, PV.lim26, PV.pr, PV.srcOk, PV.min2D, PV.max2D, PV.rng_1, PV.rng_2, PV.lrng_1, PV.slD, PV.cut_1, PV.cut_m1, PV.zip_ints, PV.enum_map, PV.allD, PV.anyD, PV.toBls_map, PV.pick_0, PV.pick_1, PV.pick_2, PV.pick_3, PV.srt_ints, PV.srt_prs, PV.sortedD, PV.toInts_ints, Option.isSome_some, Option.isSome_none, List.all_cons, List.all_nil, List.getElem?_cons_zero, List.getElem?_cons_succ, List.set_cons_zero, List.set_cons_succ, List.map_cons, List.map_nil, List.length_cons, List.length_nil, List.replicate_succ, List.replicate_zero, List.append_nil, List.nil_append, List.cons_append, Option.map_some, Option.map_none, Option.bind_some, Option.bind_none, Option.getD_some, Bool.not_true, Bool.not_false, Bool.false_or, Bool.true_or, Bool.or_true, Bool.or_false, Bool.true_and, Bool.false_and, Bool.and_true, Bool.and_false, BEq.rfl, not_true_eq_false, forall_const, true_implies, false_implies, and_true, true_and, and_self, Bool.false_eq_true, reduceCtorEq, ne_eq, not_false_eq_true, decide_true, decide_false, decide_eq_true_eq, decide_eq_false_iff_not, PV.cast0, PV.cast1, PV.cast2, PV.cast3, PV.cast4, PV.cast5, PV.cast6, PV.cast7, PV.cast8, PV.cast9, PV.cast10, PV.cast11, PV.cast12, Int.reduceEq, Int.reduceLT, Int.reduceLE, Int.reduceGT, Int.reduceGE, Int.reduceAdd, Int.reduceSub, Int.reduceNeg, Int.reduceNe, Nat.reduceSub, Nat.reduceAdd, if_true, if_false, ite_true, ite_false, reduceIte, implies_true, Rk.idxD_F0, Rk.idxD_F1]
theorem told217_no (k : Nat) (d : PyData) (hd : PV.isKind 2 d = false) (s : DS) : PV.runI tb (k + 4) 217 [.sh d] s = .ok (.v (.tuple [.str (Str.ofString "BadText"), .none])) s := by
  refine FS.eq (F_call (fd := ⟨2, 1, B__law_told⟩) rfl rfl ?_)
  unfold B__law_told
  simp! only
  refine RS_tr ?_
  simp! only [slides214_no k d hd]
  refine ⟨(fun h => nomatch h), fun _ => ⟨.rt (.v (.tuple [.str (Str.ofString "BadText"), .none])), ⟨[.sh d, .un], s⟩, fun a b => ?_, (fun j h => nomatch h), ?_⟩⟩
  · simp! only [xfn, su__law_told_0, exSlot_s]
    skip
  · simp! only

/-! texts of small signs -/
structure okC (B : Nat) (w : PySem.Str) : Prop where
  len : w.length ≤ B
  ch : ∀ c ∈ cl w, c < 128
theorem okC.mono {A B : Nat} {w : PySem.Str} (h : okC A w) (l : A ≤ B) : okC B w := ⟨Nat.le_trans h.len l, h.ch⟩
theorem okC.app {A B : Nat} {a b : PySem.Str} (h : okC A a) (g : okC B b) : okC (A + B) (a ++ b) := ⟨by
  rw [str_lenA]; have := h.len; have := g.len; omega, fun c hc => by
  rw [cl_app] at hc
  rcases List.mem_append.mp hc with hc | hc
  · exact h.ch c hc
  · exact g.ch c hc⟩
theorem okC.cut {B : Nat} {w : PySem.Str} (h : okC B w) (lo hi : Option Int) : okC B (L2.cutS w lo hi) := ⟨Nat.le_trans (cutS_length w lo hi) h.len, fun c hc => by
  unfold cl L2.cutS at hc
  exact h.ch c (List.drop_subset _ _ (List.take_subset _ _ hc))⟩
theorem cl_join_mem (y : PySem.Str) {c : Nat} : ∀ {ws : List PySem.Str}, c ∈ cl (Str.join y ws) → c ∈ cl y ∨ ∃ w ∈ ws, c ∈ cl w
  | [], h => by
    have e : cl (Str.join y []) = [] := rfl
    rw [e] at h
    cases h
  | [w], h => .inr ⟨w, List.mem_singleton.mpr rfl, h⟩
  | v :: u :: ws, h => by
    have h : c ∈ cl (v ++ y ++ Str.join y (u :: ws)) := h
    rw [cl_app, cl_app] at h
    rcases List.mem_append.mp h with h | h
    · rcases List.mem_append.mp h with h | h
      · exact .inr ⟨v, by simp, h⟩
      · exact .inl h
    · rcases cl_join_mem y h with h | ⟨w, hw, h⟩
      · exact .inl h
      · exact .inr ⟨w, List.mem_cons_of_mem _ hw, h⟩
theorem mem_join (y : PySem.Str) {c : Nat} {w : PySem.Str} (hc : c ∈ cl w) : ∀ {ws : List PySem.Str}, w ∈ ws → c ∈ cl (Str.join y ws)
  | [], h => by cases h
  | [v], h => by rw [List.mem_singleton.mp h] at hc; exact hc
  | v :: u :: ws, h => by
    show c ∈ cl (v ++ y ++ Str.join y (u :: ws))
    rw [cl_app, cl_app]
    rcases List.mem_cons.mp h with rfl | h
    · exact List.mem_append.mpr (.inl (List.mem_append.mpr (.inl hc)))
    · exact List.mem_append.mpr (.inr (mem_join y hc h))
theorem okC.split {B : Nat} {w p y : PySem.Str} (h : okC B w) (hp : p ∈ Txt.split w y) : okC B p := ⟨Nat.le_trans (split_le hp) h.len, fun c hc => h.ch c (by
  have := mem_join y hc hp
  rwa [PySem.StrLaws.join_split] at this)⟩
def wt (ws : List PySem.Str) : Nat := (ws.map (·.length)).sum + ws.length
theorem wt_cons (w : PySem.Str) (ws : List PySem.Str) : wt (w :: ws) = w.length + 1 + wt ws := by
  unfold wt
  rw [List.map_cons, List.sum_cons, List.length_cons]; omega
theorem wt_app : ∀ (a b : List PySem.Str), wt (a ++ b) = wt a + wt b
  | [], b => by show wt b = 0 + wt b; omega
  | x :: a, b => by rw [List.cons_append, wt_cons, wt_cons, wt_app a b]; omega
theorem wt_sub {a b : List PySem.Str} (h : a.Sublist b) : wt a ≤ wt b := by
  induction h with
  | slnil => exact Nat.le_refl _
  | cons x _ ih => rw [wt_cons]; omega
  | cons_cons x _ ih => rw [wt_cons, wt_cons]; omega
theorem wt_rev (a : List PySem.Str) : wt a.reverse = wt a := by
  induction a with
  | nil => rfl
  | cons x a ih => rw [List.reverse_cons, wt_app, ih, wt_cons, wt_cons, show wt [] = 0 from rfl]; omega
theorem join_wt (y : PySem.Str) (hy : 1 ≤ y.length) : ∀ ws : List PySem.Str, wt ws ≤ (Str.join y ws).length + 1
  | [] => Nat.zero_le _
  | [w] => by
    show wt [w] ≤ w.length + 1
    rw [wt_cons]; exact Nat.le_refl _
  | v :: u :: ws => by
    have := join_wt y hy (u :: ws)
    rw [joinC, wt_cons]
    omega
theorem split_wt (x : PySem.Str) {y : PySem.Str} (hy : 1 ≤ y.length) : wt (Txt.split x y) ≤ x.length + 1 := by
  have := join_wt y hy (Txt.split x y)
  rwa [PySem.StrLaws.join_split] at this
theorem split_ne (x : PySem.Str) : Txt.split x (Str.ofString " ") ≠ [] := fun e => by
  have h := PySem.StrLaws.join_split x (Str.ofString " ")
  rw [e] at h
  have h2 : Str.ofString "" = x := h
  rw [← h2] at e
  exact absurd e (by decide +kernel)
theorem join_okC {ws : List PySem.Str} {N : Nat} (hN : N ≤ 1000000) (h : wt ws ≤ N) (hc : ∀ w ∈ ws, ∀ c ∈ cl w, c < 128) : joinD [.str (Str.ofString " "), .list (ws.map PyData.str)] = some (.v (.str (Txt.join (Str.ofString " ") ws))) ∧ okC N (Txt.join (Str.ofString " ") ws) := by
  refine ⟨joinD_ok ws (Nat.le_trans h hN), ?_, fun c hc' => ?_⟩
  · rw [txt_join]
    exact Nat.le_trans (join_len ws) h
  · rw [txt_join] at hc'
    rcases cl_join_mem _ hc' with h | ⟨w, hw, h⟩
    · have e : cl (Str.ofString " ") = [32] := by decide +kernel
      rw [e, List.mem_singleton] at h
      omega
    · exact hc w hw c h
theorem cutW (ws : List PySem.Str) (a b : Option Int) : PV.cutD (ws.map PyData.str) a b = (PV.cutD ws a b).map PyData.str := by
  unfold PV.cutD
  rw [List.length_map, List.map_take, List.map_drop]
theorem cut_subW {α : Type} {xs : List α} {a b : Option Int} : (PV.cutD xs a b).Sublist xs := (List.take_sublist _ _).trans (List.drop_sublist _ _)
def sg11 : List PySem.Str := ["0", "1", "2", "-", " ", ":", ">", "x", "\n", "none", "3"].map Str.ofString
theorem sg11_ok : ∀ x ∈ sg11, x.length ≤ 4 ∧ ∀ c ∈ cl x, c < 128 := by
  have : (sg11.all fun x => decide (x.length ≤ 4) && (cl x).all fun c => decide (c < 128)) = true := by decide +kernel
  intro x hx
  have := List.all_eq_true.mp this x hx
  simp only [Bool.and_eq_true, decide_eq_true_eq, List.all_eq_true] at this
  exact this
theorem mulS_ok {B : Nat} {x : PySem.Str} (h : okC B x) (hB : B ≤ 1000) {i : Int} (h0 : 0 ≤ i) (h1 : i < 2) : ∃ y, mulSD [.str x, .int i] = some (.v (.str y)) ∧ okC B y := by
  have hl : x.length ≤ LIM := by have := h.len; unfold LIM; omega
  have e : mulSD [.str x, .int i] = if x.length ≤ LIM ∧ i = 0 then some (.v (.str Str.empty)) else if x.length ≤ LIM ∧ i = 1 then some (.v (.str x)) else none := rfl
  rw [e]
  by_cases hi : i = 0
  · rw [if_pos ⟨hl, hi⟩]
    exact ⟨_, rfl, Nat.zero_le _, fun c hc => by cases hc⟩
  · rw [if_neg fun z => hi z.2, if_pos ⟨hl, by omega⟩]
    exact ⟨_, rfl, h⟩
theorem bent209_ok (k : Nat) {B : Nat} (hB : B ≤ 100000) (w : PySem.Str) (hw : okC B w) {b : Nat} {s : DS} (hs : CB b s) (hb : b ≤ 800000) : FS (PV.runI tb (k + 2) 209 [(.dk 0), .sh (.str w)] s) (fun r s' => ∃ T, r = .v (.str T) ∧ okC (3 * B + 10) T ∧ CB (b + 6) s') neverF := by
  have hl := hw.len
  have e1 := splitD_ok sp1 (x := w) (by omega)
  have hne := List.length_pos_iff.mpr (split_ne w)
  have hwt := split_wt w sp1
  have hcnt := split_cnt w sp1
  have hch : ∀ p ∈ Txt.split w (Str.ofString " "), ∀ c ∈ cl p, c < 128 := fun p hp => (hw.split hp).ch
  refine F_call (fd := ⟨7, 2, B__law_bent⟩) rfl rfl ?_
  unfold B__law_bent
  simp! only [e1]
  generalize Txt.split w (Str.ofString " ") = ws at hne hwt hcnt hch
  rw [List.length_map]
  refine (drawE_okS k (n := (ws.length : Int)) (by omega) (by omega) hs (by omega)).use fun r s1 h => ?_
  obtain ⟨x, rfl, ⟨x0, x1⟩, hs1⟩ := h
  simp! only
  refine (drawE_okS k (n := 5) (by omega) (by omega) hs1 (by omega)).use fun r s2 h => ?_
  obtain ⟨y, rfl, ⟨y0, y1⟩, hs2⟩ := h
  simp! only
  refine ⟨fun hy => ?a1, fun hy => ?a2⟩
  case a1 =>
    subst hy
    have hm : ∀ p ∈ PV.cutD ws none (some x) ++ PV.cutD ws (some x) (some (x + 1)) ++ PV.cutD ws (some x) none, ∀ c ∈ cl p, c < 128 := fun p hp => by
      rcases List.mem_append.mp hp with hp | hp
      · rcases List.mem_append.mp hp with hp | hp
        · exact hch p (cut_subW.subset hp)
        · exact hch p (cut_subW.subset hp)
      · exact hch p (cut_subW.subset hp)
    have hq : wt (PV.cutD ws none (some x) ++ PV.cutD ws (some x) (some (x + 1)) ++ PV.cutD ws (some x) none) ≤ 3 * B + 10 := by
      have g1 := wt_sub (cut_subW (xs := ws) (a := none) (b := some x))
      have g2 := wt_sub (cut_subW (xs := ws) (a := some x) (b := some (x + 1)))
      have g3 := wt_sub (cut_subW (xs := ws) (a := some x) (b := none))
      rw [wt_app, wt_app]; omega
    obtain ⟨j1, j2⟩ := join_okC (by omega) hq hm
    have l1 := (cut_subW (xs := ws) (a := none) (b := some x)).length_le
    have l2 := (cut_subW (xs := ws) (a := some x) (b := some (x + 1))).length_le
    have l3 := (cut_subW (xs := ws) (a := some x) (b := none)).length_le
    simp! only [PV.idiD, cutW, ← List.map_append, j1]
    exact ⟨by rw [List.length_map, List.length_map]; unfold LIM; omega, by rw [List.length_map, List.length_map, List.length_append]; unfold LIM; omega, _, rfl, j2, hs2.mono (by omega)⟩
  case a2 =>
    refine ⟨fun hy1 => ?b1, fun hy1 => ?b2⟩
    case b1 =>
      subst hy1
      have hm : ∀ p ∈ PV.cutD ws none (some 1) ++ (ws.drop 1).reverse, ∀ c ∈ cl p, c < 128 := fun p hp => by
        rcases List.mem_append.mp hp with hp | hp
        · exact hch p (cut_subW.subset hp)
        · exact hch p (List.drop_subset _ _ (List.mem_reverse.mp hp))
      have hq : wt (PV.cutD ws none (some 1) ++ (ws.drop 1).reverse) ≤ 3 * B + 10 := by
        have g1 := wt_sub (cut_subW (xs := ws) (a := none) (b := some 1))
        have g2 := wt_sub (List.drop_sublist 1 ws)
        rw [wt_app, wt_rev]; omega
      obtain ⟨j1, j2⟩ := join_okC (by omega) hq hm
      have l1 := (cut_subW (xs := ws) (a := none) (b := some 1)).length_le
      have rv : PV.revD [.list ((ws.drop 1).map PyData.str)] = some (.fl ((ws.drop 1).reverse.map PyData.str)) := by
        show some (PV.R.fl ((ws.drop 1).map PyData.str).reverse) = _
        rw [List.map_reverse]
      rw [← List.map_drop]
      simp! only [rv, cutW, ← List.map_append, j1]
      exact ⟨by rw [List.length_map, List.length_map, List.length_reverse, List.length_drop]; unfold LIM; omega, _, rfl, j2, hs2.mono (by omega)⟩
    case b2 =>
      refine ⟨fun hy2 => ?c1, fun hy2 => ?c2⟩
      case c1 =>
        subst hy2
        have hm : ∀ p ∈ PV.cutD ws none (some x) ++ PV.cutD ws (some (x + 1)) none, ∀ c ∈ cl p, c < 128 := fun p hp => by
          rcases List.mem_append.mp hp with hp | hp
          · exact hch p (cut_subW.subset hp)
          · exact hch p (cut_subW.subset hp)
        have hq : wt (PV.cutD ws none (some x) ++ PV.cutD ws (some (x + 1)) none) ≤ 3 * B + 10 := by
          have g1 := wt_sub (cut_subW (xs := ws) (a := none) (b := some x))
          have g2 := wt_sub (cut_subW (xs := ws) (a := some (x + 1)) (b := none))
          rw [wt_app]; omega
        obtain ⟨j1, j2⟩ := join_okC (by omega) hq hm
        have l1 := (cut_subW (xs := ws) (a := none) (b := some x)).length_le
        have l2 := (cut_subW (xs := ws) (a := some (x + 1)) (b := none)).length_le
        simp! only [cutW, ← List.map_append, j1]
        exact ⟨by rw [List.length_map, List.length_map]; unfold LIM; omega, _, rfl, j2, hs2.mono (by omega)⟩
      case c2 =>
        refine ⟨by unfold LIM; omega, ?_⟩
        refine (drawE_okS k (n := (w.length : Int) + 1) (by omega) (by omega) hs2 (by omega)).use fun r s3 h => ?_
        obtain ⟨z, rfl, ⟨z0, z1⟩, hs3⟩ := h
        simp! only
        refine (drawE_okS k (n := 11) (by omega) (by omega) hs3 (by omega)).use fun r s4 h => ?_
        obtain ⟨v, rfl, ⟨v0, v1⟩, hs4⟩ := h
        simp! only
        obtain ⟨g, hg⟩ : ∃ g, sg11[v.toNat]? = some g := ⟨_, List.getElem?_eq_getElem (by show v.toNat < 11; omega)⟩
        have hgm := sg11_ok g (List.mem_of_getElem? hg)
        have pk : PV.pick (sg11.map PyData.str) v = some (.str g) := pick_k v0 (by rw [List.getElem?_map, hg]; rfl)
        have pk : PV.pick [.str (Str.ofString "0"), .str (Str.ofString "1"), .str (Str.ofString "2"), .str (Str.ofString "-"), .str (Str.ofString " "), .str (Str.ofString ":"), .str (Str.ofString ">"), .str (Str.ofString "x"), .str (Str.ofString "\n"), .str (Str.ofString "none"), .str (Str.ofString "3")] v = some (.str g) := pk
        simp! only [pk]
        have c1 := hw.cut none (some z)
        have s1 : slSD false true [.str w, .int z] = some (.v (.str (L2.cutS w none (some z)))) := by
          show (if w.length ≤ LIM ∧ false = true ∧ true = false then _ else if w.length ≤ LIM ∧ false = false ∧ true = true then _ else none) = _
          rw [if_neg (by simp), if_pos ⟨by unfold LIM; omega, rfl, rfl⟩]
        simp! only [s1]
        refine (drawE_okS k (n := 2) (by omega) (by omega) hs4 (by omega)).use fun r s5 h => ?_
        obtain ⟨u, rfl, ⟨u0, u1⟩, hs5⟩ := h
        obtain ⟨m, hm, hmo⟩ := mulS_ok (B := 4) ⟨hgm.1, hgm.2⟩ (by decide) u0 u1
        have l1 := c1.len
        have l2 := hmo.len
        simp! only [hm]
        refine ⟨by unfold LIM; omega, ?_⟩
        refine (drawE_okS k (n := 2) (by omega) (by omega) hs5 (by omega)).use fun r s6 h => ?_
        obtain ⟨t, rfl, ⟨t0, t1⟩, hs6⟩ := h
        have c2 := hw.cut (some (z + t)) none
        have l3 := c2.len
        have s2 : slSD true false [.str w, .int (z + t)] = some (.v (.str (L2.cutS w (some (z + t)) none))) := by
          show (if w.length ≤ LIM ∧ true = true ∧ false = false then _ else _) = _
          rw [if_pos ⟨by unfold LIM; omega, rfl, rfl⟩]
        simp! only [s2]
        exact ⟨by rw [str_lenA]; unfold LIM; omega, _, rfl, ((c1.app hmo).app c2).mono (by omega), hs6.mono (by omega)⟩
theorem pow66 : powD [.int 10, .int 29] = some (.v (.int (10 ^ 29))) := by rfl
def odds66 : List PyData := [.none, .bool true, .bool false, .int 0, .int (-1), .int (10 ^ 29), .tuple [], .list [], .dict [], .tuple [.int 2, .tuple [.tuple [.int 0, .int 1]]], .list [.str (Str.ofString "2: 0-1")], .tuple [.str (Str.ofString "2: 0-1")]]
theorem odds66_ok : ∀ d ∈ odds66, PV.isKind 2 d = false ∧ Rq (10 ^ 29) 200 5 d := by
  have h : (odds66.all fun d => !PV.isKind 2 d && il (10 ^ 29) d && rok d && decide (d.weight ≤ 200) && decide (d.depth ≤ 5)) = true := by decide +kernel
  intro d hd
  have := List.all_eq_true.mp h d hd
  simp only [Bool.and_eq_true, decide_eq_true_eq, Bool.not_eq_true'] at this
  exact ⟨this.1.1.1.1, this.1.1.1.2, this.1.1.2, this.1.2, this.2⟩
theorem odd210_ok (k : Nat) {b : Nat} {s : DS} (hs : CB b s) (hb : b ≤ 800000) : FS (PV.runI tb (k + 2) 210 [(.dk 0)] s) (fun r s' => ∃ d, r = .v d ∧ PV.isKind 2 d = false ∧ Rq (10 ^ 29) 200 5 d ∧ CB (b + 1) s') neverF := by
  refine F_call (fd := ⟨2, 1, B__law_odd⟩) rfl rfl ?_
  unfold B__law_odd
  simp only [pow66, PV.truth_none, PV.truth_bool, PV.truth_int, PV.truth_str, PV.truth_list, PV.truth_tuple, PV.truth_dict, PV.strFits_none, PV.strFits_bool, PV.strFits_int, PV.strFits_str, PV.strFits_list, PV.strFits_tuple, PV.strFits_dict, PV.slR_sh, PV.slR_ol, PV.slR_od, PV.slR_dk, PV.vOf_v, PV.bOf_b, PV.noPD_v, PV.noPD_fl, PV.noPD_fd, PV.deref_v, PV.deref_fl, PV.deref_fd, PV.slotD_ol, PV.slotD_od, PV.slotD_sh, PV.derefs_nil, PV.derefs_c, PV.esc_v, PV.esc_fl, PV.esc_fd, PV.esc_pl, PV.escS_ol, PV.escS_od, PV.escS_sh, PV.escs_nil, PV.escs_c, PV.toArgs_nil, PV.toArgs_dk, PV.toArgs_v, PV.toArgs_fl, PV.toArgs_fd, PV.toArgs_pl, PV.setR_v, PV.setR_fl, PV.setR_fd, PV.setR_dk, PV.setR_pl, PV.setRs_nil, PV.setRs_c, PV.items_l, PV.items_t, PV.items_fl, PV.items_pl, PV.itS_ol, PV.itS_sh, PV.isOwn_ol, PV.isOwn_od, PV.isOwn_sh, PV.isOwn_un, PV.isOwn_dk, PV.isOwn_no, PV.olAt_ol, PV.finS_ol, PV.finS_od, PV.finS_sh, PV.zipR_tt, PV.zipR_ll, PV.zipR_ff, PV.zipR_lf, PV.zipR_fl, PV.zipL_ll, PV.zipL_ff, PV.zipL_lf, PV.zipL_fl, PV.noPl_nil, PV.noPl_v, PV.noPl_fl, PV.noPl_fd, PV.noPl_dk, PV.hasPl_nil, PV.hasPl_v, PV.hasPl_fl, PV.hasPl_fd, PV.hasPl_dk, PV.hasPl_pl, PV.flatR_v, PV.bind1_nm, PV.bind1_tp, PV.bind1_tl, PV.bindL_nil, PV.bindL_c, PV.deref_pl, PV.eq_str, PV.ne_str, PV.flat_b, PV.flat_i, PV.flat_s, PV.flat_n, PV.V_c, PV.V_x, PV.V_op, PV.V_call, PV.V_tup, PV.V_lst, PV.V_emp, PV.V_and, PV.V_or, PV.V_ite, PV.V_mut, PV.M_app, PV.M_pop, PV.M_popAt, PV.M_ext, PV.M_rem, PV.M_ins, PV.V_ofT, PV.V_dsp, PV.V_chn, PV.V_lc, PV.V_dc, PV.bdT_eq, PV.bdS_eq, PV.ownOk, PV.VI_zip, PV.VI_zpl, PV.VI_zp3, PV.zip3R_t, PV.X_raise1, PV.V_xf, PV.xfR_s, PV.exSlot_s, PV.X_sub, PV.X_swp, PV.subR, PV.Vs_nil, PV.Vs_cons, PV.VT_yes, PV.VT_e, PV.VT_and, PV.VT_or, PV.VT_not, PV.VI_e, PV.VI_rng, PV.VI_enm, PV.X_nil, PV.X_cons, PV.X_set, PV.X_unp, PV.X_par, PV.X_ex, PV.X_ret, PV.X_retN, PV.X_ite, PV.X_lop, PV.X_pass, PV.X_brk, PV.X_cont, PV.V_dcT, PV.V_updT, PV.VI_txt, PV.VI_rg3, PV.odTAt_od, PV.fdTOf_fd, PV.strOf_s, PV.nxt_nx, PV.nxt_brk, PV.nxt_ct, PV.nxt_rt, PV.finF_nx, PV.finF_v, PV.finF_fl, PV.finF_fd, PV.finF_pl, PV.RS_ok, PV.RS_rz, PV.RS_bad, PV.FS_ok, PV.FS_rz, PV.FS_bad, PV.OS_some, PV.OS_none, PV.OS_map, PV.OS_ite, PV.callOk, PV.rzOk, PV.flatO, PV.opE_v2, PV.opE_vf, PV.opE_fv, PV.opE_ff, PV.opE_n_add, PV.opE_n_sub, PV.opE_n_mul, PV.opE_n_fdiv, PV.opE_n_mod, PV.opE_n_pow, PV.opE_n_neg, PV.opE_n_eq, PV.opE_n_ne, PV.opE_n_lt, PV.opE_n_le, PV.opE_n_gt, PV.opE_n_ge, PV.opE_n_isN, PV.opE_n_notN, PV.opE_n_len, PV.opE_n_tuple, PV.opE_n_list, PV.opE_n_lrng, PV.opE_n_sorted, PV.opE_n_abs, PV.opE_n_min2, PV.opE_n_max2, PV.opE_n_min1, PV.opE_n_max1, PV.opE_n_sum, PV.opE_n_any, PV.opE_n_all, PV.opE_n_int, PV.opE_n_str, PV.opE_n_repr, PV.opE_n_not, PV.opE_n_idi, PV.opE_n_rev, PV.opE_n_sl, PV.opE_n_isi, PV.opE_n_g, PV.opE_inp, PV.opE_notinp, PV.opE_idxp, PV.pidx_ol, PV.pinn_ol, PV.pnin_ol, PV.opD, PV.clear, PV.back, PV.mutOk, PV.srcFree, PV.slotA, PV.keyOk, PV.toKey, PV.addD, PV.subD, PV.negD, PV.cmpR, PV.cmpD, PV.isND, PV.notND, PV.isiD, PV.notD, PV.lenD, PV.tupleD, PV.listD, PV.inD, PV.notinD, PV.idxD_t, PV.idxD_l, PV.eqD_nil0, PV.neD_nil0, PV.eqD_lI0, PV.neD_lI0, PV.eqD_lP0, PV.neD_lP0, PV.eqD_tI0, PV.neD_tI0, PV.eqD_tP0, PV.neD_tP0, PV.eqD_p, PV.neD_p, PV.eqD_b2, PV.neD_b2, PV.eqD_int, PV.neD_int, PV.eqD_tI, PV.neD_tI, PV.eqD_lI, PV.neD_lI, PV.eqD_tP, PV.neD_tP, PV.eqD_lP, PV.neD_lP, PV.gD, PV.isBD, PV.hasD_tI, PV.hasD_lI, PV.hasD_tP', PV.hasD_lP', PV.lim0, PV.lim1, PV.lim2, PV.lim3, PV.lim4, PV.lim5, PV.lim6, PV.lim7, PV.lim8, PV.lim9, PV.lim10, PV.lim11, PV.lim12, PV.lim17, PV.lim26, PV.pr, PV.srcOk, PV.min2D, PV.max2D, PV.rng_1, PV.rng_2, PV.lrng_1, PV.slD, PV.cut_1, PV.cut_m1, PV.zip_ints, PV.enum_map, PV.allD, PV.anyD, PV.toBls_map, PV.pick_0, PV.pick_1, PV.pick_2, PV.pick_3, PV.srt_ints, PV.srt_prs, PV.sortedD, PV.toInts_ints, Option.isSome_some, Option.isSome_none, List.all_cons, List.all_nil, List.getElem?_cons_zero, List.getElem?_cons_succ, List.set_cons_zero, List.set_cons_succ, List.map_cons, List.map_nil, List.length_cons, List.length_nil, List.replicate_succ, List.replicate_zero, List.append_nil, List.nil_append, List.cons_append, Option.map_some, Option.map_none, Option.bind_some, Option.bind_none, Option.getD_some, Bool.not_true, Bool.not_false, Bool.false_or, Bool.true_or, Bool.or_true, Bool.or_false, Bool.true_and, Bool.false_and, Bool.and_true, Bool.and_false, BEq.rfl, not_true_eq_false, forall_const, true_implies, false_implies, and_true, true_and, and_self, Bool.false_eq_true, reduceCtorEq, ne_eq, not_false_eq_true, decide_true, decide_false, decide_eq_true_eq, decide_eq_false_iff_not, PV.cast0, PV.cast1, PV.cast2, PV.cast3, PV.cast4, PV.cast5, PV.cast6, PV.cast7, PV.cast8, PV.cast9, PV.cast10, PV.cast11, PV.cast12, Int.reduceEq, Int.reduceLT, Int.reduceLE, Int.reduceGT, Int.reduceGE, Int.reduceAdd, Int.reduceSub, Int.reduceNeg, Int.reduceNe, Nat.reduceSub, Nat.reduceAdd, if_true, if_false, ite_true, ite_false, reduceIte, implies_true, Rk.idxD_F0, Rk.idxD_F1]
  refine (drawE_okS k (n := 12) (by omega) (by omega) hs (by omega)).use fun r s1 h => ?_
  obtain ⟨x, rfl, ⟨x0, x1⟩, hs1⟩ := h
  simp only [PV.truth_none, PV.truth_bool, PV.truth_int, PV.truth_str, PV.truth_list, PV.truth_tuple, PV.truth_dict, PV.strFits_none, PV.strFits_bool, PV.strFits_int, PV.strFits_str, PV.strFits_list, PV.strFits_tuple, PV.strFits_dict, PV.slR_sh, PV.slR_ol, PV.slR_od, PV.slR_dk, PV.vOf_v, PV.bOf_b, PV.noPD_v, PV.noPD_fl, PV.noPD_fd, PV.deref_v, PV.deref_fl, PV.deref_fd, PV.slotD_ol, PV.slotD_od, PV.slotD_sh, PV.derefs_nil, PV.derefs_c, PV.esc_v, PV.esc_fl, PV.esc_fd, PV.esc_pl, PV.escS_ol, PV.escS_od, PV.escS_sh, PV.escs_nil, PV.escs_c, PV.toArgs_nil, PV.toArgs_dk, PV.toArgs_v, PV.toArgs_fl, PV.toArgs_fd, PV.toArgs_pl, PV.setR_v, PV.setR_fl, PV.setR_fd, PV.setR_dk, PV.setR_pl, PV.setRs_nil, PV.setRs_c, PV.items_l, PV.items_t, PV.items_fl, PV.items_pl, PV.itS_ol, PV.itS_sh, PV.isOwn_ol, PV.isOwn_od, PV.isOwn_sh, PV.isOwn_un, PV.isOwn_dk, PV.isOwn_no, PV.olAt_ol, PV.finS_ol, PV.finS_od, PV.finS_sh, PV.zipR_tt, PV.zipR_ll, PV.zipR_ff, PV.zipR_lf, PV.zipR_fl, PV.zipL_ll, PV.zipL_ff, PV.zipL_lf, PV.zipL_fl, PV.noPl_nil, PV.noPl_v, PV.noPl_fl, PV.noPl_fd, PV.noPl_dk, PV.hasPl_nil, PV.hasPl_v, PV.hasPl_fl, PV.hasPl_fd, PV.hasPl_dk, PV.hasPl_pl, PV.flatR_v, PV.bind1_nm, PV.bind1_tp, PV.bind1_tl, PV.bindL_nil, PV.bindL_c, PV.deref_pl, PV.eq_str, PV.ne_str, PV.flat_b, PV.flat_i, PV.flat_s, PV.flat_n, PV.V_c, PV.V_x, PV.V_op, PV.V_call, PV.V_tup, PV.V_lst, PV.V_emp, PV.V_and, PV.V_or, PV.V_ite, PV.V_mut, PV.M_app, PV.M_pop, PV.M_popAt, PV.M_ext, PV.M_rem, PV.M_ins, PV.V_ofT, PV.V_dsp, PV.V_chn, PV.V_lc, PV.V_dc, PV.bdT_eq, PV.bdS_eq, PV.ownOk, PV.VI_zip, PV.VI_zpl, PV.VI_zp3, PV.zip3R_t, PV.X_raise1, PV.V_xf, PV.xfR_s, PV.exSlot_s, PV.X_sub, PV.X_swp, PV.subR, PV.Vs_nil, PV.Vs_cons, PV.VT_yes, PV.VT_e, PV.VT_and, PV.VT_or, PV.VT_not, PV.VI_e, PV.VI_rng, PV.VI_enm, PV.X_nil, PV.X_cons, PV.X_set, PV.X_unp, PV.X_par, PV.X_ex, PV.X_ret, PV.X_retN, PV.X_ite, PV.X_lop, PV.X_pass, PV.X_brk, PV.X_cont, PV.V_dcT, PV.V_updT, PV.VI_txt, PV.VI_rg3, PV.odTAt_od, PV.fdTOf_fd, PV.strOf_s, PV.nxt_nx, PV.nxt_brk, PV.nxt_ct, PV.nxt_rt, PV.finF_nx, PV.finF_v, PV.finF_fl, PV.finF_fd, PV.finF_pl, PV.RS_ok, PV.RS_rz, PV.RS_bad, PV.FS_ok, PV.FS_rz, PV.FS_bad, PV.OS_some, PV.OS_none, PV.OS_map, PV.OS_ite, PV.callOk, PV.rzOk, PV.flatO, PV.opE_v2, PV.opE_vf, PV.opE_fv, PV.opE_ff, PV.opE_n_add, PV.opE_n_sub, PV.opE_n_mul, PV.opE_n_fdiv, PV.opE_n_mod, PV.opE_n_pow, PV.opE_n_neg, PV.opE_n_eq, PV.opE_n_ne, PV.opE_n_lt, PV.opE_n_le, PV.opE_n_gt, PV.opE_n_ge, PV.opE_n_isN, PV.opE_n_notN, PV.opE_n_len, PV.opE_n_tuple, PV.opE_n_list, PV.opE_n_lrng, PV.opE_n_sorted, PV.opE_n_abs, PV.opE_n_min2, PV.opE_n_max2, PV.opE_n_min1, PV.opE_n_max1, PV.opE_n_sum, PV.opE_n_any, PV.opE_n_all, PV.opE_n_int, PV.opE_n_str, PV.opE_n_repr, PV.opE_n_not, PV.opE_n_idi, PV.opE_n_rev, PV.opE_n_sl, PV.opE_n_isi, PV.opE_n_g, PV.opE_inp, PV.opE_notinp, PV.opE_idxp, PV.pidx_ol, PV.pinn_ol, PV.pnin_ol, PV.opD, PV.clear, PV.back, PV.mutOk, PV.srcFree, PV.slotA, PV.keyOk, PV.toKey, PV.addD, PV.subD, PV.negD, PV.cmpR, PV.cmpD, PV.isND, PV.notND, PV.isiD, PV.notD, PV.lenD, PV.tupleD, PV.listD, PV.inD, PV.notinD, PV.idxD_t, PV.idxD_l, PV.eqD_nil0, PV.neD_nil0, PV.eqD_lI0, PV.neD_lI0, PV.eqD_lP0, PV.neD_lP0, PV.eqD_tI0, PV.neD_tI0, PV.eqD_tP0, PV.neD_tP0, PV.eqD_p, PV.neD_p, PV.eqD_b2, PV.neD_b2, PV.eqD_int, PV.neD_int, PV.eqD_tI, PV.neD_tI, PV.eqD_lI, PV.neD_lI, PV.eqD_tP, PV.neD_tP, PV.eqD_lP, PV.neD_lP, PV.gD, PV.isBD, PV.hasD_tI, PV.hasD_lI, PV.hasD_tP', PV.hasD_lP', PV.lim0, PV.lim1, PV.lim2, PV.lim3, PV.lim4, PV.lim5, PV.lim6, PV.lim7, PV.lim8, PV.lim9, PV.lim10, PV.lim11, PV.lim12, PV.lim17, PV.lim26, PV.pr, PV.srcOk, PV.min2D, PV.max2D, PV.rng_1, PV.rng_2, PV.lrng_1, PV.slD, PV.cut_1, PV.cut_m1, PV.zip_ints, PV.enum_map, PV.allD, PV.anyD, PV.toBls_map, PV.pick_0, PV.pick_1, PV.pick_2, PV.pick_3, PV.srt_ints, PV.srt_prs, PV.sortedD, PV.toInts_ints, Option.isSome_some, Option.isSome_none, List.all_cons, List.all_nil, List.getElem?_cons_zero, List.getElem?_cons_succ, List.set_cons_zero, List.set_cons_succ, List.map_cons, List.map_nil, List.length_cons, List.length_nil, List.replicate_succ, List.replicate_zero, List.append_nil, List.nil_append, List.cons_append, Option.map_some, Option.map_none, Option.bind_some, Option.bind_none, Option.getD_some, Bool.not_true, Bool.not_false, Bool.false_or, Bool.true_or, Bool.or_true, Bool.or_false, Bool.true_and, Bool.false_and, Bool.and_true, Bool.and_false, BEq.rfl, not_true_eq_false, forall_const, true_implies, false_implies, and_true, true_and, and_self, Bool.false_eq_true, reduceCtorEq, ne_eq, not_false_eq_true, decide_true, decide_false, decide_eq_true_eq, decide_eq_false_iff_not, PV.cast0, PV.cast1, PV.cast2, PV.cast3, PV.cast4, PV.cast5, PV.cast6, PV.cast7, PV.cast8, PV.cast9, PV.cast10, PV.cast11, PV.cast12, Int.reduceEq, Int.reduceLT, Int.reduceLE, Int.reduceGT, Int.reduceGE, Int.reduceAdd, Int.reduceSub, Int.reduceNeg, Int.reduceNe, Nat.reduceSub, Nat.reduceAdd, if_true, if_false, ite_true, ite_false, reduceIte, implies_true, Rk.idxD_F0, Rk.idxD_F1]
  obtain ⟨g, hg⟩ : ∃ g, odds66[x.toNat]? = some g := ⟨_, List.getElem?_eq_getElem (by show x.toNat < 12; omega)⟩
  have pk : PV.pick odds66 x = some g := pick_k x0 hg
  have ⟨g1, g2⟩ := odds66_ok g (List.mem_of_getElem? hg)
  have pk : PV.pick [PyData.none, .bool true, .bool false, .int 0, .int (-1), .int (10 ^ 29), .tuple [], .list [], .dict [], .tuple [.int 2, .tuple [.tuple [.int 0, .int 1]]], .list [.str (Str.ofString "2: 0-1")], .tuple [.str (Str.ofString "2: 0-1")]] x = some g := pk
  simp only [pk, PV.truth_none, PV.truth_bool, PV.truth_int, PV.truth_str, PV.truth_list, PV.truth_tuple, PV.truth_dict, PV.strFits_none, PV.strFits_bool, PV.strFits_int, PV.strFits_str, PV.strFits_list, PV.strFits_tuple, PV.strFits_dict, PV.slR_sh, PV.slR_ol, PV.slR_od, PV.slR_dk, PV.vOf_v, PV.bOf_b, PV.noPD_v, PV.noPD_fl, PV.noPD_fd, PV.deref_v, PV.deref_fl, PV.deref_fd, PV.slotD_ol, PV.slotD_od, PV.slotD_sh, PV.derefs_nil, PV.derefs_c, PV.esc_v, PV.esc_fl, PV.esc_fd, PV.esc_pl, PV.escS_ol, PV.escS_od, PV.escS_sh, PV.escs_nil, PV.escs_c, PV.toArgs_nil, PV.toArgs_dk, PV.toArgs_v, PV.toArgs_fl, PV.toArgs_fd, PV.toArgs_pl, PV.setR_v, PV.setR_fl, PV.setR_fd, PV.setR_dk, PV.setR_pl, PV.setRs_nil, PV.setRs_c, PV.items_l, PV.items_t, PV.items_fl, PV.items_pl, PV.itS_ol, PV.itS_sh, PV.isOwn_ol, PV.isOwn_od, PV.isOwn_sh, PV.isOwn_un, PV.isOwn_dk, PV.isOwn_no, PV.olAt_ol, PV.finS_ol, PV.finS_od, PV.finS_sh, PV.zipR_tt, PV.zipR_ll, PV.zipR_ff, PV.zipR_lf, PV.zipR_fl, PV.zipL_ll, PV.zipL_ff, PV.zipL_lf, PV.zipL_fl, PV.noPl_nil, PV.noPl_v, PV.noPl_fl, PV.noPl_fd, PV.noPl_dk, PV.hasPl_nil, PV.hasPl_v, PV.hasPl_fl, PV.hasPl_fd, PV.hasPl_dk, PV.hasPl_pl, PV.flatR_v, PV.bind1_nm, PV.bind1_tp, PV.bind1_tl, PV.bindL_nil, PV.bindL_c, PV.deref_pl, PV.eq_str, PV.ne_str, PV.flat_b, PV.flat_i, PV.flat_s, PV.flat_n, PV.V_c, PV.V_x, PV.V_op, PV.V_call, PV.V_tup, PV.V_lst, PV.V_emp, PV.V_and, PV.V_or, PV.V_ite, PV.V_mut, PV.M_app, PV.M_pop, PV.M_popAt, PV.M_ext, PV.M_rem, PV.M_ins, PV.V_ofT, PV.V_dsp, PV.V_chn, PV.V_lc, PV.V_dc, PV.bdT_eq, PV.bdS_eq, PV.ownOk, PV.VI_zip, PV.VI_zpl, PV.VI_zp3, PV.zip3R_t, PV.X_raise1, PV.V_xf, PV.xfR_s, PV.exSlot_s, PV.X_sub, PV.X_swp, PV.subR, PV.Vs_nil, PV.Vs_cons, PV.VT_yes, PV.VT_e, PV.VT_and, PV.VT_or, PV.VT_not, PV.VI_e, PV.VI_rng, PV.VI_enm, PV.X_nil, PV.X_cons, PV.X_set, PV.X_unp, PV.X_par, PV.X_ex, PV.X_ret, PV.X_retN, PV.X_ite, PV.X_lop, PV.X_pass, PV.X_brk, PV.X_cont, PV.V_dcT, PV.V_updT, PV.VI_txt, PV.VI_rg3, PV.odTAt_od, PV.fdTOf_fd, PV.strOf_s, PV.nxt_nx, PV.nxt_brk, PV.nxt_ct, PV.nxt_rt, PV.finF_nx, PV.finF_v, PV.finF_fl, PV.finF_fd, PV.finF_pl, PV.RS_ok, PV.RS_rz, PV.RS_bad, PV.FS_ok, PV.FS_rz, PV.FS_bad, PV.OS_some, PV.OS_none, PV.OS_map, PV.OS_ite, PV.callOk, PV.rzOk, PV.flatO, PV.opE_v2, PV.opE_vf, PV.opE_fv, PV.opE_ff, PV.opE_n_add, PV.opE_n_sub, PV.opE_n_mul, PV.opE_n_fdiv, PV.opE_n_mod, PV.opE_n_pow, PV.opE_n_neg, PV.opE_n_eq, PV.opE_n_ne, PV.opE_n_lt, PV.opE_n_le, PV.opE_n_gt, PV.opE_n_ge, PV.opE_n_isN, PV.opE_n_notN, PV.opE_n_len, PV.opE_n_tuple, PV.opE_n_list, PV.opE_n_lrng, PV.opE_n_sorted, PV.opE_n_abs, PV.opE_n_min2, PV.opE_n_max2, PV.opE_n_min1, PV.opE_n_max1, PV.opE_n_sum, PV.opE_n_any, PV.opE_n_all, PV.opE_n_int, PV.opE_n_str, PV.opE_n_repr, PV.opE_n_not, PV.opE_n_idi, PV.opE_n_rev, PV.opE_n_sl, PV.opE_n_isi, PV.opE_n_g, PV.opE_inp, PV.opE_notinp, PV.opE_idxp, PV.pidx_ol, PV.pinn_ol, PV.pnin_ol, PV.opD, PV.clear, PV.back, PV.mutOk, PV.srcFree, PV.slotA, PV.keyOk, PV.toKey, PV.addD, PV.subD, PV.negD, PV.cmpR, PV.cmpD, PV.isND, PV.notND, PV.isiD, PV.notD, PV.lenD, PV.tupleD, PV.listD, PV.inD, PV.notinD, PV.idxD_t, PV.idxD_l, PV.eqD_nil0, PV.neD_nil0, PV.eqD_lI0, PV.neD_lI0, PV.eqD_lP0, PV.neD_lP0, PV.eqD_tI0, PV.neD_tI0, PV.eqD_tP0, PV.neD_tP0, PV.eqD_p, PV.neD_p, PV.eqD_b2, PV.neD_b2, PV.eqD_int, PV.neD_int, PV.eqD_tI, PV.neD_tI, PV.eqD_lI, PV.neD_lI, PV.eqD_tP, PV.neD_tP, PV.eqD_lP, PV.neD_lP, PV.gD, PV.isBD, PV.hasD_tI, PV.hasD_lI, PV.hasD_tP', PV.hasD_lP', PV.lim0, PV.lim1, PV.lim2, PV.lim3, PV.lim4, PV.lim5, PV.lim6, PV.lim7, PV.lim8, PV.lim9, PV.lim10, PV.lim11, PV.lim12, PV.lim17, PV.lim26, PV.pr, PV.srcOk, PV.min2D, PV.max2D, PV.rng_1, PV.rng_2, PV.lrng_1, PV.slD, PV.cut_1, PV.cut_m1, PV.zip_ints, PV.enum_map, PV.allD, PV.anyD, PV.toBls_map, PV.pick_0, PV.pick_1, PV.pick_2, PV.pick_3, PV.srt_ints, PV.srt_prs, PV.sortedD, PV.toInts_ints, Option.isSome_some, Option.isSome_none, List.all_cons, List.all_nil, List.getElem?_cons_zero, List.getElem?_cons_succ, List.set_cons_zero, List.set_cons_succ, List.map_cons, List.map_nil, List.length_cons, List.length_nil, List.replicate_succ, List.replicate_zero, List.append_nil, List.nil_append, List.cons_append, Option.map_some, Option.map_none, Option.bind_some, Option.bind_none, Option.getD_some, Bool.not_true, Bool.not_false, Bool.false_or, Bool.true_or, Bool.or_true, Bool.or_false, Bool.true_and, Bool.false_and, Bool.and_true, Bool.and_false, BEq.rfl, not_true_eq_false, forall_const, true_implies, false_implies, and_true, true_and, and_self, Bool.false_eq_true, reduceCtorEq, ne_eq, not_false_eq_true, decide_true, decide_false, decide_eq_true_eq, decide_eq_false_iff_not, PV.cast0, PV.cast1, PV.cast2, PV.cast3, PV.cast4, PV.cast5, PV.cast6, PV.cast7, PV.cast8, PV.cast9, PV.cast10, PV.cast11, PV.cast12, Int.reduceEq, Int.reduceLT, Int.reduceLE, Int.reduceGT, Int.reduceGE, Int.reduceAdd, Int.reduceSub, Int.reduceNeg, Int.reduceNe, Nat.reduceSub, Nat.reduceAdd, if_true, if_false, ite_true, ite_false, reduceIte, implies_true, Rk.idxD_F0, Rk.idxD_F1]
  exact ⟨_, rfl, g1, g2, hs1⟩

/-! texts of pairs are read back -/
theorem numO_all : ∀ n < 100, numO (iT ((n : Nat) : Int)) = some ((n : Nat) : Int) := by decide +kernel
theorem numO_iT {i : Int} (h0 : 0 ≤ i) (h1 : i < 100) : numO (iT i) = some i := by
  have e : i = ((i.toNat : Nat) : Int) := by omega
  rw [e]
  exact numO_all _ (by omega)
theorem gtl : TL.tl (Str.ofString ">") = [62] := by decide +kernel
theorem spl32 : TL.tl (Str.ofString " ") = [32] := by decide +kernel
theorem split_pw {p : Int × Int} (h : 0 ≤ p.1 ∧ 0 ≤ p.2) : Txt.split (pw (Str.ofString ">") p) (Str.ofString ">") = [iT p.1, iT p.2] := by
  have e : pw (Str.ofString ">") p = Txt.join (Str.ofString ">") [iT p.1, iT p.2] := by
    rw [txt_join]; rfl
  rw [e]
  refine TL.split_join gtl (by decide +kernel) (by simp) fun q hq hm => ?_
  rcases List.mem_cons.mp hq with rfl | hq
  · have := iT_dg h.1 62 hm
    unfold dg at this; omega
  · rw [List.mem_singleton.mp hq] at hm
    have := iT_dg h.2 62 hm
    unfold dg at this; omega
theorem pairO_pw {p : Int × Int} (h : (0 ≤ p.1 ∧ p.1 < 100) ∧ 0 ≤ p.2 ∧ p.2 < 100) : pairO (Str.ofString ">") (pw (Str.ofString ">") p) = some p := by
  unfold pairO
  rw [split_pw ⟨h.1.1, h.2.1⟩, List.map_cons, List.map_cons, List.map_nil, numO_iT h.1.1 h.1.2, numO_iT h.2.1 h.2.2]
  rfl
theorem pw_no32 {p : Int × Int} (h : 0 ≤ p.1 ∧ 0 ≤ p.2) : 32 ∉ cl (pw (Str.ofString ">") p) := fun hm => by
  unfold pw at hm
  rw [cl_app, cl_app] at hm
  rcases List.mem_append.mp hm with hm | hm
  · rcases List.mem_append.mp hm with hm | hm
    · have := iT_dg h.1 32 hm
      unfold dg at this; omega
    · have e : cl (Str.ofString ">") = [62] := by decide +kernel
      rw [e, List.mem_singleton] at hm; omega
  · have := iT_dg h.2 32 hm
    unfold dg at this; omega
theorem slO_pT {ps : List (Int × Int)} (h : ∀ p ∈ ps, (0 ≤ p.1 ∧ p.1 < 100) ∧ 0 ≤ p.2 ∧ p.2 < 100) : slO (pT (Str.ofString ">") ps) = .inr ps := by
  by_cases e : ps = []
  · subst e
    exact if_pos rfl
  · have hn : ¬ pT (Str.ofString ">") ps = Str.ofString "none" := fun z => e (pT_inj (sg := Str.ofString ">") (g := 62) (by decide +kernel) (by unfold dg; omega) (fun p hp => ⟨(h p hp).1.1, (h p hp).2.1⟩) (qs := []) (fun _ hp => nomatch hp) z)
    have hs : Txt.split (pT (Str.ofString ">") ps) (Str.ofString " ") = ps.map (pw (Str.ofString ">")) := by
      unfold pT
      rw [if_neg e]
      refine TL.split_join spl32 (by decide +kernel) (fun z => e (List.map_eq_nil_iff.mp z)) fun q hq hm => ?_
      obtain ⟨p, hp, rfl⟩ := List.mem_map.mp hq
      exact pw_no32 ⟨(h p hp).1.1, (h p hp).2.1⟩ hm
    unfold slO
    rw [if_neg hn]
    have hg : goodW (ps.map (pw (Str.ofString ">"))) := fun w hw => by
      obtain ⟨p, hp, rfl⟩ := List.mem_map.mp hw
      show (pairO (Str.ofString ">") _).isNone = false
      rw [pairO_pw (h p hp)]; rfl
    rw [show Txt.split (pT (Str.ofString ">") ps) " " = ps.map (pw (Str.ofString ">")) from hs, badW_none hg]
    show Sum.inr (prsW _) = _
    congr 1
    clear hn hs e hg
    induction ps with
    | nil => rfl
    | cons p ps ih =>
      have := ih fun q hq => h q (List.mem_cons_of_mem _ hq)
      unfold prsW at this ⊢
      rw [List.map_cons, List.filterMap_cons, show pairO ">" (pw (Str.ofString ">") p) = some p from pairO_pw (h p (by simp)), this]
/-- a text shows -/
theorem rq_str {B : Nat} {w : PySem.Str} (h : okC B w) : Rq (10 ^ 29) B 0 (.str w) := by
  refine ⟨?_, rfl, h.len, Nat.le_refl _⟩
  show (w.cps.toList.all fun c => decide (c < 16 ^ 8)) = true
  exact List.all_eq_true.mpr fun c hc => decide_eq_true (Nat.lt_trans (h.ch c hc) (by decide))

/-! law k66 -/
def okD (d : PyData) : Prop := Rq (10 ^ 29) 20000 8 d ∧ ((∃ w, d = .str w ∧ okC 4000 w) ∨ PV.isKind 2 d = false)
theorem okD.str {w : PySem.Str} (h : okC 4000 w) : okD (.str w) := ⟨(rq_str h).mono (by decide) (by decide), .inl ⟨w, rfl, h⟩⟩
theorem okD.strs {ws : List PySem.Str} (h : (ws.all fun w => decide (w.length ≤ 4000) && (cl w).all fun c => decide (c < 128)) = true) : ∀ d ∈ ws.map PyData.str, okD d := fun d hd => by
  obtain ⟨w, hw, rfl⟩ := List.mem_map.mp hd
  have := List.all_eq_true.mp h w hw
  simp only [Bool.and_eq_true, decide_eq_true_eq, List.all_eq_true] at this
  exact okD.str ⟨this.1, this.2⟩
theorem ok_pT {ps : List (Int × Int)} (hl : ps.length ≤ 20) (h : ∀ p ∈ ps, (0 ≤ p.1 ∧ p.1 < 100) ∧ 0 ≤ p.2 ∧ p.2 < 100) : okC 324 (pT (Str.ofString ">") ps) := by
  refine ⟨?_, fun c hc => ?_⟩
  · have := pT_len (sg := Str.ofString ">") (by decide +kernel) (ps := ps) fun p hp => by
      obtain ⟨⟨a1, a2⟩, b1, b2⟩ := h p hp
      exact ⟨by omega, by omega⟩
    omega
  · unfold pT at hc
    by_cases e : ps = []
    · rw [if_pos e] at hc
      have e2 : cl "none" = [110, 111, 110, 101] := by decide +kernel
      rw [e2] at hc
      simp at hc; omega
    · rw [if_neg e, txt_join] at hc
      rcases cl_join_mem _ hc with hc | ⟨w, hw, hc⟩
      · have e : cl (Str.ofString " ") = [32] := by decide +kernel
        have hc : c ∈ cl (Str.ofString " ") := hc
        rw [e, List.mem_singleton] at hc
        omega
      · obtain ⟨p, hp, rfl⟩ := List.mem_map.mp hw
        obtain ⟨⟨a1, a2⟩, b1, b2⟩ := h p hp
        unfold pw at hc
        rw [cl_app, cl_app] at hc
        rcases List.mem_append.mp hc with hc | hc
        · rcases List.mem_append.mp hc with hc | hc
          · have := iT_dg a1 c hc
            unfold dg at this; omega
          · have e : cl (Str.ofString ">") = [62] := by decide +kernel
            rw [e, List.mem_singleton] at hc; omega
        · have := iT_dg b1 c hc
          unfold dg at this; omega
theorem rq_row {ps : List (Int × Int)} (hl : ps.length ≤ 20) (h : ∀ p ∈ ps, (0 ≤ p.1 ∧ p.1 < 100) ∧ 0 ≤ p.2 ∧ p.2 < 100) : Rq (10 ^ 29) 4500 2 (.tuple (ps.map pr)) := by
  have hA : ∀ d ∈ ps.map pr, Rq (10 ^ 29) 224 1 d := fun d hd => by
    obtain ⟨p, hq, rfl⟩ := List.mem_map.mp hd
    obtain ⟨⟨a1, a2⟩, b1, b2⟩ := h p hq
    refine Rq.tuI (S := [p.1, p.2]) (n := 2) (fun x hx => ?_) (by decide) (Nat.le_refl _)
    rcases List.mem_cons.mp hx with rfl | hx
    · omega
    · rw [List.mem_singleton.mp hx]; omega
  exact Rq.tupA ((RqA.of hA).mono (by rw [List.length_map]; omega) (Nat.le_refl _))
theorem law_of {ns : List Int} (h : RS (exs (PV.runI tb 10) B_law ⟨(List.replicate 9 Slot.un).set 1 (.dk 0), ⟨ns.map absI, 0, [], []⟩⟩) (fun fl _ => fl = .rt (.v (.bool true))) never) : LawOk ns := by
  rw [runI_eq] at h
  obtain ⟨fl, m, e, rfl⟩ := h.ex
  exact ⟨m, e⟩
def th1 : List PyData := (["", " ", "none", "none none", "none ", "0>1", "1>0", "0>0", "99>99", "100>1", "1>100", "00>1", "0>01", ">", "0>", ">1", "0>1>2", "0>>1", "0-1", "0>1  1>2", " 0>1", "0>1 ", "0>1\n", "0>1 none", "0>1,1>2", "+0>1", "0>-1", "0>1 x", "0 > 1", "2>3 0>1 2>3", "0>1 0>1", "11>12 12>11", "a>b", "0>1.", "None"].map Str.ofString).map PyData.str
theorem th1_ok : ∀ d ∈ th1, okD d := okD.strs (by decide +kernel)
theorem law_true (ns : List Int) (h : ns.length ≤ 63) : LawOk ns := by
  refine law_of ?_
  unfold B_law
  simp! only
  refine ⟨by decide, by decide, by decide, by decide, B62.of (by omega) (by omega), ?_⟩
  refine RS_lop (fun done rest mm => ∃ ds a3 a5 a6 a7 s, mm = ⟨[.un, .dk 0, .ol ds, a3, .un, a5, a6, a7, .un], s⟩ ∧ (∀ d ∈ ds, okD d) ∧ ds.length ≤ 35 + 17 * done.length ∧ CB (200 * done.length) s) ⟨th1, _, _, _, _, _, rfl, th1_ok, by decide, by simp [CB]⟩ (fun _ _ _ _ => trivial) (fun done o rest mm hF hj => ?a1) (fun mm hj => ?a2)
  case a1 =>
    obtain ⟨ds, a3, a5, a6, a7, s, rfl, hd, hdl, hs⟩ := hj
    have hdn : done.length ≤ 2 := by
      have := congrArg List.length hF
      rw [List.length_append, List.length_cons, rI_len] at this
      omega
    simp! only
    refine (drawE_okS 9 (n := 21) (by omega) (by omega) hs (by omega)).use fun r s1 h => ?_
    obtain ⟨x, rfl, ⟨x0, x1⟩, hs1⟩ := h
    simp! only
    refine ⟨B62.of (by omega) (by omega), by rw [List.length_map, rI_len]; unfold LIM; omega, RS_draw (enc := PyData.int) (fun acc rest s => ∃ ps : List (Int × Int), acc = ps.map pr ∧ (∀ p ∈ ps, (0 ≤ p.1 ∧ p.1 < 100) ∧ 0 ≤ p.2 ∧ p.2 < 100) ∧ ps.length + rest.length = x.toNat ∧ CB (200 * done.length + 1 + 2 * ps.length) s) ⟨[], rfl, (fun _ z => nomatch z), by rw [rI_len]; simp, by simpa using hs1⟩ (fun acc o2 rest s ho hj => ?b1) (fun acc s hj => ?b2)⟩
    case b1 =>
      obtain ⟨ps, rfl, hp, hl, hs⟩ := hj
      simp only [List.length_cons] at hl
      simp! only
      refine (drawE_okS 9 (n := 12) (by omega) (by omega) hs (by omega)).use fun r s1 h => ?_
      obtain ⟨y, rfl, ⟨y0, y1⟩, hs1⟩ := h
      simp! only
      refine (drawE_okS 9 (n := 100) (by omega) (by omega) hs1 (by omega)).use fun r s2 h => ?_
      obtain ⟨z, rfl, ⟨z0, z1⟩, hs2⟩ := h
      simp! only
      refine ⟨ps ++ [(y, z)], by simp [pr], fun p hp' => ?_, by rw [List.length_append, List.length_singleton]; omega, hs2.mono (by rw [List.length_append, List.length_singleton]; omega)⟩
      rcases List.mem_append.mp hp' with hp' | hp'
      · exact hp p hp'
      · rw [List.mem_singleton.mp hp']; exact ⟨⟨y0, by omega⟩, z0, z1⟩
    case b2 =>
      obtain ⟨ps, rfl, hp, hl, hs2⟩ := hj
      simp only [List.length_nil, Nat.add_zero] at hl
      have hpl : ps.length ≤ 20 := by omega
      have hsI : ∀ p ∈ ps, sI p := fun p hq => by
        obtain ⟨⟨a1, a2⟩, b1, b2⟩ := hp p hq
        exact ⟨by omega, by omega⟩
      have okT := ok_pT hpl hp
      have e1 := fun s => pairs206_ok 9 ps (Str.ofString ">") (by decide +kernel) (by omega) hsI s
      have e2 := fun s => slides214_ok 7 (pT (Str.ofString ">") ps) (by have := okT.len; omega) (slO_pT hp) s
      have e3 := fun s => same_prs 7 ps (by omega) s
      have e4 := fun s => slides_text_ok 8 ps (by omega) hsI s
      simp! only [e1, e2, e3, e4]
      generalize hT : pT (Str.ofString ">") ps = T at okT
      refine ⟨B62.of (by omega) (by omega), ?_⟩
      refine RS_lop (fun dn2 rst2 mm => ∃ es a7 s, mm = ⟨[.un, .dk 0, .ol (ds ++ es), .sh (.int o), .un, .sh (.tuple (ps.map pr)), .sh (.str T), a7, .un], s⟩ ∧ (∀ d ∈ es, okD d) ∧ es.length = 2 * dn2.length ∧ CB (200 * done.length + 41 + 18 * dn2.length) s) ⟨[], _, _, by rw [List.append_nil], (fun _ z => nomatch z), rfl, hs2.mono (by omega)⟩ (fun _ _ _ _ => trivial) (fun dn2 x rst2 mm hF2 hj => ?c1) (fun mm hj => ?c2)
      case c1 =>
        obtain ⟨es, a7, s, rfl, he, hel, hs⟩ := hj
        have hd2 : dn2.length ≤ 6 := by
          have := congrArg List.length hF2
          rw [List.length_append, List.length_cons, rI_len] at this
          omega
        simp! only
        refine (bent209_ok 8 (B := 324) (by omega) T okT hs (by omega)).use fun r s1 h => ?_
        obtain ⟨T1, rfl, ok1, hs1⟩ := h
        simp! only
        refine (bent209_ok 8 (B := 324) (by omega) T okT hs1 (by omega)).use fun r s2 h => ?_
        obtain ⟨T2, rfl, ok2, hs2⟩ := h
        simp! only
        refine (bent209_ok 8 (B := 1000) (by omega) T2 (ok2.mono (by omega)) hs2 (by omega)).use fun r s3 h => ?_
        obtain ⟨T3, rfl, ok3, hs3⟩ := h
        simp! only
        refine ⟨by rw [List.length_append]; unfold LIM; omega, es ++ [.str T1, .str T3], _, _, by rw [List.append_assoc], fun d hd => ?_, by rw [List.length_append, List.length_append, hel]; simp; omega, hs3.mono (by rw [List.length_append, List.length_singleton]; omega)⟩
        rcases List.mem_append.mp hd with hd | hd
        · exact he d hd
        · rcases List.mem_cons.mp hd with rfl | hd
          · exact okD.str (ok1.mono (by omega))
          · rw [List.mem_singleton.mp hd]; exact okD.str (ok3.mono (by omega))
      case c2 =>
        obtain ⟨es, a7, s, rfl, he, hel, hs⟩ := hj
        rw [rI_len] at hel hs
        simp! only
        refine (odd210_ok 8 hs (by omega)).use fun r s1 h => ?_
        obtain ⟨d, rfl, dk, dr, hs1⟩ := h
        simp! only
        have rq1 := rq_row hpl hp
        refine ⟨by rw [List.length_append]; unfold LIM; omega, _, _, _, _, _, _, rfl, fun d2 hd2 => ?_, by rw [List.length_append, List.length_append, List.length_append]; simp; omega, hs1.mono (by rw [List.length_append, List.length_singleton]; omega)⟩
        rcases List.mem_append.mp hd2 with hd2 | hd2
        · rcases List.mem_append.mp hd2 with hd2 | hd2
          · exact hd d2 hd2
          · exact he d2 hd2
        · rcases List.mem_cons.mp hd2 with rfl | hd2
          · exact ⟨(Rq.listA (RqA.cons (rq_str okT) RqA.nil)).mono (by decide) (by decide), .inr rfl⟩
          · rcases List.mem_cons.mp hd2 with rfl | hd2
            · exact ⟨rq1.mono (by decide) (by decide), .inr rfl⟩
            · rw [List.mem_singleton.mp hd2]
              exact ⟨dr.mono (by decide) (by decide), .inr dk⟩
  case a2 =>
    obtain ⟨ds, a3, a5, a6, a7, s, rfl, hd, hdl, hs⟩ := hj
    rw [rI_len] at hdl
    simp! only
    refine ⟨by unfold LIM; omega, ?_⟩
    have hall : ∀ d ∈ ds ++ [.none, .int 3, .bool true, .tuple [.str (Str.ofString "0>1")]], okD d := fun d hm => by
      rcases List.mem_append.mp hm with hm | hm
      · exact hd d hm
      · have hz : ∀ d ∈ [PyData.none, .int 3, .bool true, .tuple [.str (Str.ofString "0>1")]], Rq (10 ^ 29) 200 5 d ∧ PV.isKind 2 d = false := by
          have h : ([PyData.none, .int 3, .bool true, .tuple [.str (Str.ofString "0>1")]].all fun d => !PV.isKind 2 d && il (10 ^ 29) d && rok d && decide (d.weight ≤ 200) && decide (d.depth ≤ 5)) = true := by decide +kernel
          intro d hd
          have := List.all_eq_true.mp h d hd
          simp only [Bool.and_eq_true, decide_eq_true_eq, Bool.not_eq_true'] at this
          exact ⟨⟨this.1.1.1.2, this.1.1.2, this.1.2, this.2⟩, this.1.1.1.1⟩
        exact ⟨(hz d hm).1.mono (by decide) (by decide), .inr (hz d hm).2⟩
    generalize ds ++ [PyData.none, .int 3, .bool true, .tuple [.str (Str.ofString "0>1")]] = es at hall
    rw [← List.map_id es]
    refine RS_lop (enc := id) (fun done rest mm => ∃ a4 a8, mm = ⟨[.un, .dk 0, .ol ds, a3, a4, a5, a6, a7, a8], s⟩) ⟨_, _, rfl⟩ (fun _ _ _ _ => trivial) (fun done d rest mm hF hj => ?d1) (fun mm hj => ?d2)
    case d1 =>
      obtain ⟨a4, a8, rfl⟩ := hj
      obtain ⟨hr, hk⟩ := hall d (by rw [hF]; simp)
      have hr := hr.repr (by decide) (by decide) (by decide)
      rcases hk with ⟨w, rfl, ok⟩ | hk
      · have e1 := fun s => told217_ok 6 w (by have := ok.len; omega) s
        have e2 := fun s => due216_ok 8 w (by have := ok.len; omega) s
        have e3 := fun s => same_due 7 w (by have := ok.len; omega) s
        simp! only [id, hr, e1, e2, e3]
        exact ⟨_, _, rfl⟩
      · have e1 := fun s => told217_no 6 d hk s
        have e2 := fun s => due216_no 8 d hk s
        have e3 := fun s => same_badN 8 s
        simp! only [id, hr, e1, e2, e3]
        exact ⟨_, _, rfl⟩
    case d2 =>
      obtain ⟨a4, a8, rfl⟩ := hj
      simp! only

end Rk
open PySem PySem.W PyProof.Rows
set_option maxHeartbeats 0 in
theorem PySem.Challenge.cw_treelamps_k66_slides_parsed_holds : PySem.Challenge.rw_treelamps_k66_slides_parsed.Holds := by
  w_on; o_law; k_head; (case hw => w_witness2)
  k_fill
  refine PV.law_walk (l := PySem.Challenge.rw_treelamps_k66_slides_parsed) (n := 63) (k := 13) (x := "_law_script") (CX := fun w => L2.CX PySem.Challenge.pw_treelamps_k66_slides_parsed w) (sp := fun w => PV.spLaw _ Rk.LawOk) rfl (by decide) rfl ⟨rfl, by decide, by decide⟩ (fun w h Y => PySem.W.kIn_of Y) ?F (fun _ _ a ns hl _ hS => ⟨a, ns, rfl, hS, hl, Rk.law_true ns hl, fun _ => rfl⟩) (fun _ _ _ _ _ h => PV.cx_false h)
  case F =>
    intro w mg fa h KX G hmg
    refine' Rk.all_mk KX G hmg ?a0 ?l0 ?c0 ?k0 ?a1 ?l1 ?c1 ?k1 ?a2 ?l2 ?c2 ?k2 ?a3 ?l3 ?c3 ?k3 ?a4 ?l4 ?c4 ?k4 ?a5 ?l5 ?c5 ?k5 ?a6 ?l6 ?c6 ?k6 ?a7 ?l7 ?c7 ?k7 ?a8 ?l8 ?c8 ?k8 ?a9 ?l9 ?c9 ?k9 ?a10 ?l10 ?c10 ?k10 ?a11 ?l11 ?c11 ?k11 ?a12 ?l12 ?c12 ?k12 ?a13 ?l13 ?c13 ?k13 ?a14 ?l14 ?c14 ?k14 ?z0 ?z1 ?z2 ?z3 ?z4 ?z5 ?z6 ?z7 ?z8 ?z9 ?z10 ?z11 ?z12 ?q0 ?q1 ?q2 ?m_BadForest ?m_BadSlides ?m_BadText ?m_LampError ?hn ?ht ?xb_BadText ?xd_BadText ?xt_BadText ?k_BadText_LampError ?kt_BadText_BadForest_BadSlides_LookupError ?s_BadText_BadText ?oL_BadText ?v_BadText ?sa_BadText ?eb_BadText ?ty_BadText ?kc_BadText ?n_BadText ?cl_BadText ?ga_BadText ?gg_BadText ?ha_BadText ?hm_BadText ?hd_BadText ?ii_BadText ?ti_BadText ?li_BadText ?ci_BadText ?ki_BadText
    (case a0 => k_is); (case l0 => k_is); (case c0 => k_is); (case k0 => k_is); (case a1 => k_is); (case l1 => k_is); (case c1 => k_is); (case k1 => k_is); (case a2 => k_is); (case l2 => k_is); (case c2 => k_is); (case k2 => k_is); (case a3 => k_is); (case l3 => k_is); (case c3 => k_is); (case k3 => k_is); (case a4 => k_is); (case l4 => k_is); (case c4 => k_is); (case k4 => k_is); (case a5 => k_is); (case l5 => k_is); (case c5 => k_is); (case k5 => k_is); (case a6 => k_is); (case l6 => k_is); (case c6 => k_is); (case k6 => k_is); (case a7 => k_is); (case l7 => k_is); (case c7 => k_is); (case k7 => k_is); (case a8 => k_is); (case l8 => k_is); (case c8 => k_is); (case k8 => k_is); (case a9 => k_is); (case l9 => k_is); (case c9 => k_is); (case k9 => k_is); (case a10 => k_is); (case l10 => k_is); (case c10 => k_is); (case k10 => k_is); (case a11 => k_is); (case l11 => k_is); (case c11 => k_is); (case k11 => k_is); (case a12 => k_is); (case l12 => k_is); (case c12 => k_is); (case k12 => k_is); (case a13 => k_is); (case l13 => k_is); (case c13 => k_is); (case k13 => k_is); (case a14 => k_is); (case l14 => k_is); (case c14 => k_is); (case k14 => k_is); (case z0 => k_is); (case z1 => k_is); (case z2 => k_is); (case z3 => k_is); (case z4 => k_is); (case z5 => k_is); (case z6 => k_is); (case z7 => k_is); (case z8 => k_is); (case z9 => k_is); (case z10 => k_is); (case z11 => k_is); (case z12 => k_is); (case q0 => k_is); (case q1 => k_is); (case q2 => k_is); (case m_BadForest => k_is); (case m_BadSlides => k_is); (case m_BadText => k_is); (case m_LampError => k_is); (case hn => k_is); (case ht => k_is); (case xb_BadText => k_is); (case xd_BadText => k_is); (case xt_BadText => k_is); (case k_BadText_LampError => kit_is); (case kt_BadText_BadForest_BadSlides_LookupError => kit_is); (case s_BadText_BadText => k_is); (case oL_BadText => k_is); (case v_BadText => rfl); (case sa_BadText => k_is); (case eb_BadText => k_is); (case ty_BadText => k_is); (case kc_BadText => k_is); (case n_BadText => k_is); (case cl_BadText => k_is); (case ga_BadText => k_is); (case gg_BadText => k_is); (case ha_BadText => k_is); (case hm_BadText => k_is); (case hd_BadText => k_is); (case ii_BadText => k_is); (case ti_BadText => k_is); (case li_BadText => k_is); (case ci_BadText => k_is); (case ki_BadText => k_is)

