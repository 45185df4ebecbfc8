import PyProof.Rows.All
import Wide.All
import OpenK.AllK
import Wide.FinOn
import HandS.ForMost
import HandS.Walk
import HandS.Deep
import HandS.TupAny
import HandS.Style
import HandS.Zip
import HandS.IsInst
import KE.SortData
import KE.DataMinMax
import PyProof.StrReplace2
import HandS.Lambda
import HandS.ForExc
import HandS.Conv
import HandS.CallSlots
import HandS.TryOnly
import HandS.TupLe
import HandS.TupMul
import HandS.WordsDict
import KE.KTupSum
import HandS.AnyAll
import HandS.Ends
import HandS.Flow
import HandS.ExcCtx
import HandS.WordsExc
import PyProof.ReprReads
import PyProof.ReprRoads
import HandS.More
import KE.KDictCopyH
import KE.KDictSum
import KE.KDictWalk
import KE.GoesEnum
import HandS.SetFor
import HandS.Strs
import KE.KDictDisplayH
import PyProof.Rows.TupDisplay
import HandS.DictComp
import KE.KDictZip
import HandS.ExcField
import HandS.ExcInit
import KE.KExcIs
import HandS.ExcIs
import KE.DataFind
import HandS.ListItems
import PyProof.Rows.RowBridgeK
import KE.GoesMore
import HandS.FStr
import HandS.Text
import HandS.TupSets
import HandS.Dict
import HandS.Sort
import KE.SortKeyHeap
import HandS.EndOwn
import KE.KNestM
import HandS.Iter
import PyProof.StrOps2
import KE.KExcInit
import PyProof.NeKinds
import PyProof.FactsAll.dict_1
import PyProof.FactsAll.dict_2
import PyProof.FactsAll.subtypes_4
import HandS.NamedTupSort
import PySem.Challenge.RW_treelamps_k36_shortest_plan
set_option Elab.async false
set_option linter.all false
set_option autoImplicit false
set_option maxRecDepth 100000
set_option maxHeartbeats 1000000
namespace PV
open PySem PySem.Spec L2
noncomputable abbrev AP := Addr → Prop
/-- objects that nothing writes -/
noncomputable def still : HO → Bool
  | .lst _ => false
  | .dK _ => false
  | .dT _ => false
  | .set _ _ => false
  | .ins _ _ _ => false
  | .tbl _ => false
  | _ => true
/-- what M does not hold stays; nothing goes -/
structure Keep (M : AP) (H H' : Hp) : Prop where
  stay : ∀ a o, H a = some o → (¬ M a ∨ still o = true) → H' a = some o
  old : ∀ a, H' a = none → H a = none
theorem Keep.refl {M : AP} {H : Hp} : Keep M H H := ⟨fun _ _ h _ => h, fun _ h => h⟩
theorem Keep.mono {M M' : AP} {H H' : Hp} (k : Keep M H H') (h : ∀ a, M a → M' a) : Keep M' H H' := ⟨fun a o e c => k.stay a o e (c.imp (fun n m => n (h a m)) id), k.old⟩
/-- in a row: what the second one writes, the first wrote or was not there -/
theorem Keep.trans {M M' : AP} {H H1 H2 : Hp} (k : Keep M H H1) (k' : Keep M' H1 H2) (h : ∀ a, M' a → M a ∨ H a = none) : Keep M H H2 := ⟨fun a o e c =>
  k'.stay a o (k.stay a o e c) (c.imp (fun n m => (h a m).elim n fun z => by rw [z] at e; cases e) id), fun a z => k.old a (k'.old a z)⟩
theorem Keep.new {M : AP} {H : Hp} {p : Addr} {o : HO} (n : H p = none) : Keep M H (upd H p o) := ⟨fun a u e _ => by
  rw [upd_ne (fun z => by rw [z, n] at e; cases e)]; exact e, fun a z => by
  by_cases q : a = p
  · rw [q, upd_same] at z; cases z
  · rw [upd_ne q] at z; exact z⟩
theorem Keep.write {M : AP} {H : Hp} {p : Addr} {o u : HO} (h : H p = some u) (s : still u = false) (m : M p) : Keep M H (upd H p o) := ⟨fun a w e c => by
  by_cases z : a = p
  · subst z
    rw [h] at e; cases e
    rcases c with c | c
    · exact absurd m c
    · rw [s] at c; cases c
  · rw [upd_ne z]; exact e, fun a z => by
  by_cases q : a = p
  · rw [q, upd_same] at z; cases z
  · rw [upd_ne q] at z; exact z⟩
noncomputable def keyD : Key → PyData
  | .inl i => .int i
  | .inr s => .str s
noncomputable def keyT (ks : List Key) : PyData := .tuple (ks.map keyD)
noncomputable def LsAt (K : PySem.W.Frag) (O : AP) (H : Hp) (a : Addr) (xs : List V) : Prop := ¬ O a ∧ H a = some (.lst xs)
noncomputable def TpAt (K : PySem.W.Frag) (H : Hp) (a : Addr) (xs : List V) : Prop := H a = some (.tup xs)
theorem LsAt.sq {K : PySem.W.Frag} {O : AP} {H : Hp} {a : Addr} {xs : List V} (h : LsAt K O H a xs) : SqL K H a xs := SqL.of h.2
theorem TpAt.sq {K : PySem.W.Frag} {H : Hp} {a : Addr} {xs : List V} (h : TpAt K H a xs) : SqT K H a xs := SqT.of h
/-- d by the value v, to depth n; the lists and dicts in it do not lie in O -/
noncomputable def ShN (K : PySem.W.Frag) (O : AP) (H : Hp) : Nat → V → PyData → Prop
  | 0, _, _ => False
  | n + 1, v, d => match d with
    | .none => v = .non
    | .bool b => v = .bl b
    | .int i => v = .int i
    | .str s => v = .str s
    | .list ds => ∃ a xs, v = .ref a ∧ LsAt K O H a xs ∧ xs.length ≤ sizeLine ∧ Paired (ShN K O H n) xs ds
    | .tuple ds => ∃ a xs, v = .ref a ∧ TpAt K H a xs ∧ xs.length ≤ sizeLine ∧ Paired (ShN K O H n) xs ds
    | .dict kvs => ∃ a, v = .ref a ∧ ¬ O a ∧ ((∃ ks, H a = some (.dK ks) ∧ Paired (fun p q => q.1 = keyD p.1 ∧ ShN K O H n p.2 q.2) ks kvs) ∨
        ∃ ks, H a = some (.dT ks) ∧ Paired (fun p q => q.1 = keyT p.1 ∧ ShN K O H n p.2 q.2) ks kvs)
noncomputable def Sh (K : PySem.W.Frag) (O : AP) (H : Hp) (v : V) (d : PyData) : Prop := ∃ n, ShN K O H n v d
noncomputable abbrev ShA (K : PySem.W.Frag) (O : AP) (H : Hp) : List V → List PyData → Prop := Paired (Sh K O H)
/-- what stands at a dict's address -/
noncomputable def DcIs (K : PySem.W.Frag) (O : AP) (H : Hp) (o : HO) (kvs : List (PyData × PyData)) : Prop :=
  (∃ ks, o = .dK ks ∧ Paired (fun p q => q.1 = keyD p.1 ∧ Sh K O H p.2 q.2) ks kvs) ∨ ∃ ks, o = .dT ks ∧ Paired (fun p q => q.1 = keyT p.1 ∧ Sh K O H p.2 q.2) ks kvs
theorem Paired.imp {α β : Type} {F G : α → β → Prop} {l₁ : List α} {l₂ : List β} (h : Paired F l₁ l₂) (f : ∀ a b, F a b → G a b) : Paired G l₁ l₂ := by
  induction h with
  | nil => exact .nil
  | cons r _ ih => exact .cons (f _ _ r) ih
theorem Paired.get {α β : Type} {F : α → β → Prop} {l₁ : List α} {l₂ : List β} (h : Paired F l₁ l₂) : ∀ {i : Nat} {b : β}, l₂[i]? = some b → ∃ a, l₁[i]? = some a ∧ F a b := by
  induction h with
  | nil => intro i b e; simp at e
  | cons r _ ih =>
    intro i b e
    cases i with
    | zero => simp at e; subst e; exact ⟨_, rfl, r⟩
    | succ i => simp at e; simpa using ih e
theorem Paired.len {α β : Type} {F : α → β → Prop} {l₁ : List α} {l₂ : List β} (h : Paired F l₁ l₂) : l₁.length = l₂.length := PySem.Paired.length h
theorem Paired.app {α β : Type} {F : α → β → Prop} {l₁ m₁ : List α} {l₂ m₂ : List β} (h : Paired F l₁ l₂) (h' : Paired F m₁ m₂) : Paired F (l₁ ++ m₁) (l₂ ++ m₂) := by
  induction h with
  | nil => exact h'
  | cons r _ ih => exact .cons r ih
theorem Paired.tk {α β : Type} {F : α → β → Prop} {l₁ : List α} {l₂ : List β} (h : Paired F l₁ l₂) : ∀ n, Paired F (l₁.take n) (l₂.take n) := by
  induction h with
  | nil => intro n; simp; exact .nil
  | cons r _ ih => intro n; cases n with
    | zero => exact .nil
    | succ n => exact .cons r (ih n)
theorem Paired.dr {α β : Type} {F : α → β → Prop} {l₁ : List α} {l₂ : List β} (h : Paired F l₁ l₂) : ∀ n, Paired F (l₁.drop n) (l₂.drop n) := by
  induction h with
  | nil => intro n; simp; exact .nil
  | cons r t ih => intro n; cases n with
    | zero => exact .cons r t
    | succ n => exact ih n
theorem Paired.st {α β : Type} {F : α → β → Prop} {l₁ : List α} {l₂ : List β} {a : α} {b : β} (h : Paired F l₁ l₂) (r : F a b) : ∀ i, Paired F (l₁.set i a) (l₂.set i b) := by
  induction h with
  | nil => intro i; simp; exact .nil
  | cons q t ih => intro i; cases i with
    | zero => exact .cons r t
    | succ i => exact .cons q (ih i)
theorem Paired.er {α β : Type} {F : α → β → Prop} {l₁ : List α} {l₂ : List β} (h : Paired F l₁ l₂) : ∀ i, Paired F (l₁.eraseIdx i) (l₂.eraseIdx i) := by
  induction h with
  | nil => intro i; simp; exact .nil
  | cons q t ih => intro i; cases i with
    | zero => exact t
    | succ i => exact .cons q (ih i)
theorem Paired.rv {α β : Type} {F : α → β → Prop} {l₁ : List α} {l₂ : List β} (h : Paired F l₁ l₂) : Paired F l₁.reverse l₂.reverse := by
  induction h with
  | nil => exact .nil
  | cons r _ ih => rw [List.reverse_cons, List.reverse_cons]; exact Paired.app ih (.cons r .nil)
section
variable {K : PySem.W.Frag} {O O' : AP} {H H' : Hp} {v : V} {d : PyData}
theorem ShN.step : ∀ {n : Nat} {v : V} {d : PyData}, ShN K O H n v d → ShN K O H (n + 1) v d
  | 0, _, _, h => h.elim
  | n + 1, v, .none, h => h
  | n + 1, v, .bool _, h => h
  | n + 1, v, .int _, h => h
  | n + 1, v, .str _, h => h
  | n + 1, v, .list ds, ⟨a, xs, e, l, z, p⟩ => ⟨a, xs, e, l, z, Paired.imp p fun _ _ q => ShN.step q⟩
  | n + 1, v, .tuple ds, ⟨a, xs, e, l, z, p⟩ => ⟨a, xs, e, l, z, Paired.imp p fun _ _ q => ShN.step q⟩
  | n + 1, v, .dict kvs, ⟨a, e, o, p⟩ => ⟨a, e, o, p.imp (fun ⟨ks, h, q⟩ => ⟨ks, h, Paired.imp q fun _ _ q => ⟨q.1, ShN.step q.2⟩⟩) fun ⟨ks, h, q⟩ => ⟨ks, h, Paired.imp q fun _ _ q => ⟨q.1, ShN.step q.2⟩⟩⟩
theorem ShN.le {n m : Nat} (h : n ≤ m) (s : ShN K O H n v d) : ShN K O H m v d := by
  induction h with
  | refl => exact s
  | step _ ih => exact ih.step
theorem pairN {α β : Type} {F : Nat → α → β → Prop} (mono : ∀ n m a b, n ≤ m → F n a b → F m a b) {xs : List α} {ds : List β} (h : Paired (fun a b => ∃ n, F n a b) xs ds) : ∃ n, Paired (F n) xs ds := by
  induction h with
  | nil => exact ⟨0, .nil⟩
  | cons r _ ih =>
    obtain ⟨n, r⟩ := r
    obtain ⟨m, t⟩ := ih
    exact ⟨max n m, .cons (mono _ _ _ _ (Nat.le_max_left _ _) r) (Paired.imp t fun _ _ q => mono _ _ _ _ (Nat.le_max_right _ _) q)⟩
theorem sh_none : Sh K O H v .none ↔ v = .non := ⟨fun ⟨n, h⟩ => by cases n with | zero => exact h.elim | succ n => exact h, fun h => ⟨1, h⟩⟩
theorem sh_bool {b : Bool} : Sh K O H v (.bool b) ↔ v = .bl b := ⟨fun ⟨n, h⟩ => by cases n with | zero => exact h.elim | succ n => exact h, fun h => ⟨1, h⟩⟩
theorem sh_int {i : Int} : Sh K O H v (.int i) ↔ v = .int i := ⟨fun ⟨n, h⟩ => by cases n with | zero => exact h.elim | succ n => exact h, fun h => ⟨1, h⟩⟩
theorem sh_str {s : Str} : Sh K O H v (.str s) ↔ v = .str s := ⟨fun ⟨n, h⟩ => by cases n with | zero => exact h.elim | succ n => exact h, fun h => ⟨1, h⟩⟩
theorem sh_list {ds : List PyData} : Sh K O H v (.list ds) ↔ ∃ a xs, v = .ref a ∧ LsAt K O H a xs ∧ xs.length ≤ sizeLine ∧ ShA K O H xs ds := by
  constructor
  · rintro ⟨n, h⟩
    cases n with
    | zero => exact h.elim
    | succ n =>
      obtain ⟨a, xs, e, l, z, p⟩ := h
      exact ⟨a, xs, e, l, z, Paired.imp p fun _ _ q => ⟨n, q⟩⟩
  · rintro ⟨a, xs, e, l, z, p⟩
    obtain ⟨n, q⟩ := pairN (F := ShN K O H) (fun _ _ _ _ h s => ShN.le h s) p
    exact ⟨n + 1, a, xs, e, l, z, q⟩
theorem sh_tuple {ds : List PyData} : Sh K O H v (.tuple ds) ↔ ∃ a xs, v = .ref a ∧ TpAt K H a xs ∧ xs.length ≤ sizeLine ∧ ShA K O H xs ds := by
  constructor
  · rintro ⟨n, h⟩
    cases n with
    | zero => exact h.elim
    | succ n =>
      obtain ⟨a, xs, e, l, z, p⟩ := h
      exact ⟨a, xs, e, l, z, Paired.imp p fun _ _ q => ⟨n, q⟩⟩
  · rintro ⟨a, xs, e, l, z, p⟩
    obtain ⟨n, q⟩ := pairN (F := ShN K O H) (fun _ _ _ _ h s => ShN.le h s) p
    exact ⟨n + 1, a, xs, e, l, z, q⟩
theorem sh_dict {kvs : List (PyData × PyData)} : Sh K O H v (.dict kvs) ↔ ∃ a o, v = .ref a ∧ ¬ O a ∧ H a = some o ∧ DcIs K O H o kvs := by
  constructor
  · rintro ⟨n, h⟩
    cases n with
    | zero => exact h.elim
    | succ n =>
      obtain ⟨a, e, o, p⟩ := h
      rcases p with ⟨ks, h, q⟩ | ⟨ks, h, q⟩
      · exact ⟨a, _, e, o, h, .inl ⟨ks, rfl, Paired.imp q fun _ _ q => ⟨q.1, n, q.2⟩⟩⟩
      · exact ⟨a, _, e, o, h, .inr ⟨ks, rfl, Paired.imp q fun _ _ q => ⟨q.1, n, q.2⟩⟩⟩
  · rintro ⟨a, o, e, no, h, p⟩
    rcases p with ⟨ks, rfl, q⟩ | ⟨ks, rfl, q⟩
    · obtain ⟨n, q⟩ := pairN (F := fun n (p : Key × V) (q : PyData × PyData) => q.1 = keyD p.1 ∧ ShN K O H n p.2 q.2) (fun _ _ _ _ h s => ⟨s.1, ShN.le h s.2⟩) (Paired.imp q fun _ _ ⟨z, n, y⟩ => ⟨n, z, y⟩)
      exact ⟨n + 1, a, e, no, .inl ⟨ks, h, q⟩⟩
    · obtain ⟨n, q⟩ := pairN (F := fun n (p : List Key × V) (q : PyData × PyData) => q.1 = keyT p.1 ∧ ShN K O H n p.2 q.2) (fun _ _ _ _ h s => ⟨s.1, ShN.le h s.2⟩) (Paired.imp q fun _ _ ⟨z, n, y⟩ => ⟨n, z, y⟩)
      exact ⟨n + 1, a, e, no, .inr ⟨ks, h, q⟩⟩
theorem Rd.keep {M : AP} {a : Addr} {u : HO} (k : Keep M H H') (h : Rd H a u) (c : ¬ M a ∨ still u = true) : Rd H' a u := by
  rcases h with h | ⟨o, h⟩
  · exact .inl (k.stay a u h c)
  · exact .inr ⟨o, k.stay a _ h (.inr rfl)⟩
theorem TpAt.keep {M : AP} {a : Addr} {xs : List V} (k : Keep M H H') (h : TpAt K H a xs) : TpAt K H' a xs := k.stay a _ h (.inr rfl)
theorem LsAt.keep {M : AP} {a : Addr} {xs : List V} (k : Keep M H H') (m : ∀ a, M a → O a) (h : LsAt K O H a xs) : LsAt K O H' a xs := ⟨h.1, k.stay a _ h.2 (.inl fun q => h.1 (m a q))⟩
theorem LsAt.weak {a : Addr} {xs : List V} (m : ∀ a, O' a → O a) (h : LsAt K O H a xs) : LsAt K O' H a xs := ⟨fun q => h.1 (m a q), h.2⟩
/-- the heap goes on, O keeps all that is written -/
theorem ShN.keep {M : AP} (k : Keep M H H') (m : ∀ a, M a → O a) : ∀ {n : Nat} {v : V} {d : PyData}, ShN K O H n v d → ShN K O H' n v d
  | 0, _, _, h => h.elim
  | n + 1, v, .none, h => h
  | n + 1, v, .bool _, h => h
  | n + 1, v, .int _, h => h
  | n + 1, v, .str _, h => h
  | n + 1, v, .list ds, ⟨a, xs, e, l, z, p⟩ => ⟨a, xs, e, l.keep k m, z, Paired.imp p fun _ _ q => ShN.keep k m q⟩
  | n + 1, v, .tuple ds, ⟨a, xs, e, l, z, p⟩ => ⟨a, xs, e, l.keep k, z, Paired.imp p fun _ _ q => ShN.keep k m q⟩
  | n + 1, v, .dict kvs, ⟨a, e, o, p⟩ => ⟨a, e, o, p.imp (fun ⟨ks, h, q⟩ => ⟨ks, k.stay a _ h (.inl fun z => o (m a z)), Paired.imp q fun _ _ q => ⟨q.1, ShN.keep k m q.2⟩⟩)
      fun ⟨ks, h, q⟩ => ⟨ks, k.stay a _ h (.inl fun z => o (m a z)), Paired.imp q fun _ _ q => ⟨q.1, ShN.keep k m q.2⟩⟩⟩
theorem Sh.keep {M : AP} (k : Keep M H H') (m : ∀ a, M a → O a) (h : Sh K O H v d) : Sh K O H' v d := h.imp fun _ q => q.keep k m
theorem ShA.keep {M : AP} {vs : List V} {ds : List PyData} (k : Keep M H H') (m : ∀ a, M a → O a) (h : ShA K O H vs ds) : ShA K O H' vs ds := Paired.imp h fun _ _ q => Sh.keep k m q
/-- a smaller O -/
theorem ShN.weak (m : ∀ a, O' a → O a) : ∀ {n : Nat} {v : V} {d : PyData}, ShN K O H n v d → ShN K O' H n v d
  | 0, _, _, h => h.elim
  | n + 1, v, .none, h => h
  | n + 1, v, .bool _, h => h
  | n + 1, v, .int _, h => h
  | n + 1, v, .str _, h => h
  | n + 1, v, .list ds, ⟨a, xs, e, l, z, p⟩ => ⟨a, xs, e, l.weak m, z, Paired.imp p fun _ _ q => ShN.weak m q⟩
  | n + 1, v, .tuple ds, ⟨a, xs, e, l, z, p⟩ => ⟨a, xs, e, l, z, Paired.imp p fun _ _ q => ShN.weak m q⟩
  | n + 1, v, .dict kvs, ⟨a, e, o, p⟩ => ⟨a, e, fun z => o (m a z), p.imp (fun ⟨ks, h, q⟩ => ⟨ks, h, Paired.imp q fun _ _ q => ⟨q.1, ShN.weak m q.2⟩⟩)
      fun ⟨ks, h, q⟩ => ⟨ks, h, Paired.imp q fun _ _ q => ⟨q.1, ShN.weak m q.2⟩⟩⟩
theorem Sh.weak (m : ∀ a, O' a → O a) (h : Sh K O H v d) : Sh K O' H v d := h.imp fun _ q => q.weak m
theorem ShA.weak {vs : List V} {ds : List PyData} (m : ∀ a, O' a → O a) (h : ShA K O H vs ds) : ShA K O' H vs ds := Paired.imp h fun _ _ q => Sh.weak m q
/-- a new address is in no data -/
theorem LsAt.fresh {a : Addr} {xs : List V} {p : AP} (n : ∀ a, p a → H a = none) (h : LsAt K O H a xs) : LsAt K (fun a => O a ∨ p a) H a xs := ⟨fun q => q.elim h.1 (fun q => by
    have z := h.2
    rw [n a q] at z
    exact nomatch z), h.2⟩
theorem ShN.fresh {p : AP} (nn : ∀ a, p a → H a = none) : ∀ {n : Nat} {v : V} {d : PyData}, ShN K O H n v d → ShN K (fun a => O a ∨ p a) H n v d
  | 0, _, _, h => h.elim
  | n + 1, v, .none, h => h
  | n + 1, v, .bool _, h => h
  | n + 1, v, .int _, h => h
  | n + 1, v, .str _, h => h
  | n + 1, v, .list ds, ⟨a, xs, e, l, z, q⟩ => ⟨a, xs, e, l.fresh nn, z, Paired.imp q fun _ _ q => ShN.fresh nn q⟩
  | n + 1, v, .tuple ds, ⟨a, xs, e, l, z, q⟩ => ⟨a, xs, e, l, z, Paired.imp q fun _ _ q => ShN.fresh nn q⟩
  | n + 1, v, .dict kvs, ⟨a, e, o, q⟩ => ⟨a, e, fun z => z.elim o fun z => (by rcases q with ⟨ks, h, _⟩ | ⟨ks, h, _⟩ <;> (rw [nn a z] at h; cases h)), q.imp (fun ⟨ks, h, q⟩ => ⟨ks, h, Paired.imp q fun _ _ q => ⟨q.1, ShN.fresh nn q.2⟩⟩)
      fun ⟨ks, h, q⟩ => ⟨ks, h, Paired.imp q fun _ _ q => ⟨q.1, ShN.fresh nn q.2⟩⟩⟩
theorem Sh.fresh {p : AP} (nn : ∀ a, p a → H a = none) (h : Sh K O H v d) : Sh K (fun a => O a ∨ p a) H v d := h.imp fun _ q => q.fresh nn
theorem ShA.fresh {p : AP} {vs : List V} {ds : List PyData} (nn : ∀ a, p a → H a = none) (h : ShA K O H vs ds) : ShA K (fun a => O a ∨ p a) H vs ds := Paired.imp h fun _ _ q => Sh.fresh nn q
theorem DcIs.keep {M : AP} {o : HO} {kvs : List (PyData × PyData)} (k : Keep M H H') (m : ∀ a, M a → O a) (h : DcIs K O H o kvs) : DcIs K O H' o kvs :=
  h.imp (fun ⟨ks, e, q⟩ => ⟨ks, e, Paired.imp q fun _ _ q => ⟨q.1, q.2.keep k m⟩⟩) fun ⟨ks, e, q⟩ => ⟨ks, e, Paired.imp q fun _ _ q => ⟨q.1, q.2.keep k m⟩⟩
theorem DcIs.weak {o : HO} {kvs : List (PyData × PyData)} (m : ∀ a, O' a → O a) (h : DcIs K O H o kvs) : DcIs K O' H o kvs :=
  h.imp (fun ⟨ks, e, q⟩ => ⟨ks, e, Paired.imp q fun _ _ q => ⟨q.1, q.2.weak m⟩⟩) fun ⟨ks, e, q⟩ => ⟨ks, e, Paired.imp q fun _ _ q => ⟨q.1, q.2.weak m⟩⟩
theorem DcIs.fresh {p : AP} {o : HO} {kvs : List (PyData × PyData)} (nn : ∀ a, p a → H a = none) (h : DcIs K O H o kvs) : DcIs K (fun a => O a ∨ p a) H o kvs :=
  h.imp (fun ⟨ks, e, q⟩ => ⟨ks, e, Paired.imp q fun _ _ q => ⟨q.1, q.2.fresh nn⟩⟩) fun ⟨ks, e, q⟩ => ⟨ks, e, Paired.imp q fun _ _ q => ⟨q.1, q.2.fresh nn⟩⟩
theorem DcIs.still {o : HO} {kvs : List (PyData × PyData)} (h : DcIs K O H o kvs) : still o = false := by rcases h with ⟨ks, rfl, _⟩ | ⟨ks, rfl, _⟩ <;> rfl
/-- the heap goes on, the set may grow by what is new -/
theorem Sh.go {K : PySem.W.Frag} {O O' M : AP} {H H' : Hp} {v : V} {d : PyData} (h : Sh K O H v d) (k : Keep M H H') (m : ∀ a, M a → O a) (n : ∀ a, O' a → O a ∨ H a = none) : Sh K O' H' v d :=
  Sh.weak n (Sh.keep k (fun a z => .inl (m a z)) (Sh.fresh (p := fun a => H a = none) (fun _ z => z) h))
theorem ShA.go {K : PySem.W.Frag} {O O' M : AP} {H H' : Hp} {vs : List V} {ds : List PyData} (h : ShA K O H vs ds) (k : Keep M H H') (m : ∀ a, M a → O a) (n : ∀ a, O' a → O a ∨ H a = none) : ShA K O' H' vs ds :=
  Paired.imp h fun _ _ q => Sh.go q k m n
mutual
noncomputable def flat : PyData → Bool
  | .list _ => false
  | .dict _ => false
  | .tuple ds => flatA ds
  | _ => true
noncomputable def flatA : List PyData → Bool
  | [] => true
  | d :: ds => flat d && flatA ds
end
theorem flatA_mem : ∀ {ds : List PyData}, flatA ds = true → ∀ d ∈ ds, flat d = true
  | [], _, _, h => nomatch h
  | d :: ds, h, e, m => by
    have h' : flat d = true ∧ flatA ds = true := by simpa [flatA] using h
    rcases List.mem_cons.mp m with rfl | m
    · exact h'.1
    · exact flatA_mem h'.2 e m
theorem Paired.imp_mem {α β : Type} {F G : α → β → Prop} {l₁ : List α} {l₂ : List β} (h : Paired F l₁ l₂) : (∀ a b, b ∈ l₂ → F a b → G a b) → Paired G l₁ l₂ := by
  induction h with
  | nil => intro _; exact .nil
  | cons r _ ih => intro f; exact .cons (f _ _ List.mem_cons_self r) (ih fun a b m => f a b (List.mem_cons_of_mem _ m))
theorem ShN.flat : ∀ {n : Nat} {v : V} {d : PyData}, flat d = true → ShN K O H n v d → ShN K O' H n v d
  | 0, _, _, _, h => h.elim
  | n + 1, v, .none, _, h => h
  | n + 1, v, .bool _, _, h => h
  | n + 1, v, .int _, _, h => h
  | n + 1, v, .str _, _, h => h
  | n + 1, v, .list ds, f, _ => by simp [PV.flat] at f
  | n + 1, v, .tuple ds, f, ⟨a, xs, e, l, z, p⟩ => ⟨a, xs, e, l, z, Paired.imp_mem p fun _ b m q => ShN.flat (flatA_mem (by simpa [PV.flat] using f) b m) q⟩
  | n + 1, v, .dict kvs, f, _ => by simp [PV.flat] at f
theorem Sh.flat (f : flat d = true) (h : Sh K O H v d) : Sh K O' H v d := h.imp fun _ q => q.flat f
mutual
noncomputable def nod : PyData → Bool
  | .dict _ => false
  | .tuple ds => nodA ds
  | .list ds => nodA ds
  | _ => true
noncomputable def nodA : List PyData → Bool
  | [] => true
  | d :: ds => nod d && nodA ds
end
theorem nodA_mem : ∀ {ds : List PyData}, nodA ds = true → ∀ d ∈ ds, nod d = true
  | [], _, _, h => nomatch h
  | d :: ds, h, e, m => by
    have h' : nod d = true ∧ nodA ds = true := by simpa [nodA] using h
    rcases List.mem_cons.mp m with rfl | m
    · exact h'.1
    · exact nodA_mem h'.2 e m
theorem dpAll_of {xs : List V} {ds : List PyData} (h : Paired (Dp K H) xs ds) : DpAll K H xs ds := by
  induction h with
  | nil => exact .nil
  | cons r _ ih => exact .cons r ih
theorem ShN.dp : ∀ {n : Nat} {v : V} {d : PyData}, nod d = true → ShN K O H n v d → Dp K H v d
  | 0, _, _, _, h => h.elim
  | n + 1, v, .none, _, h => by cases (show v = .non from h); exact .non
  | n + 1, v, .bool b, _, h => by cases (show v = .bl b from h); exact .bl b
  | n + 1, v, .int i, _, h => by cases (show v = .int i from h); exact .int i
  | n + 1, v, .str s, _, h => by cases (show v = .str s from h); exact .str s
  | n + 1, v, .list ds, f, ⟨a, xs, e, l, z, p⟩ => by subst e; exact .lst l.sq (dpAll_of (Paired.imp_mem p fun _ b m q => ShN.dp (nodA_mem (by simpa [nod] using f) b m) q))
  | n + 1, v, .tuple ds, f, ⟨a, xs, e, l, z, p⟩ => by subst e; exact .tup l.sq (dpAll_of (Paired.imp_mem p fun _ b m q => ShN.dp (nodA_mem (by simpa [nod] using f) b m) q))
  | n + 1, v, .dict kvs, f, _ => by simp [nod] at f
theorem Sh.dp (f : nod d = true) (h : Sh K O H v d) : Dp K H v d := let ⟨_, q⟩ := h; q.dp f
end
/-- read at the top, whoever owns it -/
noncomputable def ShT (K : PySem.W.Frag) (O : AP) (H : Hp) (v : V) : PyData → Prop
  | .list ds => ∃ a xs, v = .ref a ∧ H a = some (.lst xs) ∧ xs.length ≤ sizeLine ∧ ShA K O H xs ds
  | .dict kvs => ∃ a o, v = .ref a ∧ H a = some o ∧ DcIs K O H o kvs
  | d => Sh K O H v d
theorem Sh.top {K : PySem.W.Frag} {O : AP} {H : Hp} {v : V} {d : PyData} (h : Sh K O H v d) : ShT K O H v d := by
  cases d with
  | list ds => obtain ⟨a, xs, e, l, z, p⟩ := sh_list.mp h; exact ⟨a, xs, e, l.2, z, p⟩
  | dict kvs => obtain ⟨a, o, e, _, ho, p⟩ := sh_dict.mp h; exact ⟨a, o, e, ho, p⟩
  | none => exact h
  | bool b => exact h
  | int i => exact h
  | str s => exact h
  | tuple ds => exact h
theorem ShT.dp {K : PySem.W.Frag} {O : AP} {H : Hp} {v : V} {d : PyData} (f : nod d = true) (h : ShT K O H v d) : Dp K H v d := by
  cases d with
  | list ds =>
    obtain ⟨a, xs, rfl, l, z, p⟩ := h
    exact .lst (SqL.of l) (dpAll_of (Paired.imp_mem p fun _ b m q => q.dp (nodA_mem (by simpa [nod] using f) b m)))
  | dict kvs => simp [nod] at f
  | none => exact Sh.dp f h
  | bool b => exact Sh.dp f h
  | int i => exact Sh.dp f h
  | str s => exact Sh.dp f h
  | tuple ds => exact Sh.dp f h
end PV
namespace PySem
/-- text.replace(y, z, 1) -/
noncomputable def Txt.replace1 (x y z : Str) : Str :=
  if ((Builtin.Str.occurrences x y 0 x.length 1).isEmpty || (y.length == 0 && z.length == 0)) = true then x
  else Builtin.Str.glued z (Builtin.Str.partsBetween x (Builtin.Str.occurrences x y 0 x.length 1) y.length)
end PySem
namespace PV
open PySem
/-- objects: a board with its states, the edits that stand, whether a goal runs; a shell with its board -/
inductive OB where
  | board (sts eds : List PyData) (ask : Bool) | shell (j : Nat)
/-- the deck of draws: the cells, the number of draws, the rests; the objects -/
structure DS where
  cells : List Int
  cnt : Int
  rests : List Int
  obs : List OB
inductive R where
  | v (d : PyData) | pl (i : Nat) | fl (ds : List PyData) | fd (t : Bool) (kvs : List (PyData × PyData)) | dk (k : Nat)
inductive Slot where
  | un | sh (d : PyData) | ol (ds : List PyData) | od (t : Bool) (kvs : List (PyData × PyData)) | dk (k : Nat) | ex (a : Addr) (f : Option (Addr × Str × PyData))
noncomputable abbrev Env := List Slot
structure M where
  e : Env
  s : DS
inductive Res (α : Type) where
  | ok (a : α) (m : M) | rz (c : Nat) (f : Option PyData) (m : M) | bad
noncomputable def Res.bind {α β : Type} (r : Res α) (f : α → M → Res β) : Res β := match r with
  | .ok a m => f a m
  | .rz c x m => .rz c x m
  | .bad => .bad
inductive Arg where
  | sh (d : PyData) | dk (k : Nat) | nil
inductive FRes where
  | ok (r : R) (s : DS) | rz (c : Nat) (f : Option PyData) (s : DS) | bad
inductive Op where
  | add | sub | mul | fdiv | mod | pow | neg | eq | ne | lt | le | gt | ge | isN | notN | inn | notin
  | idx | sl (lo hi : Bool) | rev | len | tuple | list | lrng | sorted | abs | min2 | max2 | min1 | max1 | sum | any | all | int | str | repr
  | isi (k : Nat) | get | not | idi | g (k : Nat)
/-- what is asked of an object -/
inductive FO where
  | stA | lenS | lenE | ask | appS | appE | popS | popE | tupE | lstS | lstE | brd
inductive MOp where
  | app | pop | popAt | ext | rem | upd | ins | clr
mutual
inductive E where
  | c (d : PyData) | x (i : Nat) | op (o : Op) (es : Es) | call (f : Nat) (es : Es) | tup (es : Es) | lst (es : Es) | emp (t : Bool) | dsp (t : Bool) (k v : E)
  | and2 (a b : E) | or2 (a b : E) | ite (c : T) (a b : E) | chn (o1 o2 : Op) (a b c : E) | mut (m : MOp) (i : Nat) (es : Es)
  | lc (t : Tg) (it : It) (c : T) (elt : E) (own : List Nat) | dc (t : Tg) (it : It) (c : T) (k v : E) (own : List Nat) | ofT (t : T)
  | xi (i : Nat) (a b : Addr) (v : Bool) | xf (i : Nat) (a b : Addr) (n : Str) | fld (o : FO) (i : Nat) (es : Es) | cnew (f1 : Nat) (es : Es) (f2 : Nat) (rest : Es)
  | dcT (t : Tg) (it : It) (c : T) (k v : E) (own : List Nat) | updT (i : Nat) (e : E)
  | meth (sh : Bool) (f : Nat) (o : E) (es : Es) | chk (e : E) | eqO (f : Nat) (a b : E) | isO (sh : Bool) (i : Nat)
  | xk (i : Nat) (a b : Addr) (d : PyData) | callX (i : Nat) (a : Addr) (f : Nat) (es : Es) | cnewS (f1 : Nat) (es : Es) (f2 : Nat) (rest : Es) | isL (i : Nat)
inductive Es where
  | nil | cons (e : E) (es : Es)
inductive T where
  | e (e : E) | yes | and (a b : T) | or (a b : T) | not (a : T)
inductive It where
  | e (e : E) | rng (es : Es) | enm (e : E) (k : Int) | zip (es : Es) | zpl (es : Es) | zp3 (es : Es) | txt (e : E) | rg3 (es : Es)
inductive Tg where
  | nm (i : Nat) | tp (ts : Tgs)
inductive Tgs where
  | nil | cons (t : Tg) (ts : Tgs)
end
mutual
inductive S where
  | set (t : Tg) (e : E) | par (is : List Nat) (es : Es) | sub (i : Nat) (k e : E) | ex (e : E) | ret (e : E) | retN
  | ite (c : T) (t f : Ss) | lop (t : Tg) (it : It) (b : Ss) | wh (c : T) (b : Ss) | pass | brk | cont | raise (c : Nat) (es : Es)
  | tr (b : Ss) (i : Nat) (ws : List Nat) (hc : Nat → Bool) (fn : Nat → Option Str) (su : Nat → Addr → Addr → Ss)
  | swp (i : Nat) (e : E) (ja jb : Nat) | fin (b f : Ss) | ask (i : Nat) (b : Bool) | new (i f : Nat) (es : Es) (b : Ss) | newS (i j : Nat) (b : Ss)
  | star (i j : Nat) (e : E) | forF (i n : Nat) (ws : List Nat) (su : Nat → Addr → Ss) | newSP (i j k : Nat) (e : E) (b : Ss) | newBS (i f : Nat) (es : Es) (b : Ss) | newPB (i j f : Nat) (es1 es2 : Es) (b : Ss)
  | newMd (i j f : Nat) (es : Es) (md : Nat → Option PyData → Option (List PyData)) (e : E) (b : Ss)
inductive Ss where
  | nil | cons (s : S) (ss : Ss)
end
inductive Flow where
  | nx | brk | ct | rt (r : R)
noncomputable def LIM : Nat := 16777216
noncomputable def deref (e : Env) : R → Option PyData
  | .v d => some d
  | .fl ds => some (.list ds)
  | .fd _ kvs => some (.dict kvs)
  | .pl i => match e[i]? with
    | some (.ol ds) => some (.list ds)
    | some (.od _ kvs) => some (.dict kvs)
    | some (.sh d) => some d
    | _ => none
  | .dk _ => none
noncomputable def derefs (e : Env) : List R → Option (List PyData)
  | [] => some []
  | r :: rs => match deref e r, derefs e rs with
    | some d, some ds => some (d :: ds)
    | _, _ => none
/-- as shared data: what was owned is so no more -/
noncomputable def esc (e : Env) : R → Option (PyData × Env)
  | .v d => some (d, e)
  | .fl ds => some (.list ds, e)
  | .fd _ kvs => some (.dict kvs, e)
  | .pl i => match e[i]? with
    | some (.ol ds) => some (.list ds, e.set i (.sh (.list ds)))
    | some (.od _ kvs) => some (.dict kvs, e.set i (.sh (.dict kvs)))
    | some (.sh d) => some (d, e)
    | _ => none
  | .dk _ => none
noncomputable def escs (e : Env) : List R → Option (List PyData × Env)
  | [] => some ([], e)
  | r :: rs => match esc e r with
    | some (d, e1) => match escs e1 rs with
      | some (ds, e2) => some (d :: ds, e2)
      | none => none
    | none => none
noncomputable def toArgs (e : Env) : List R → Option (List Arg)
  | [] => some []
  | .dk k :: rs => (toArgs e rs).map (.dk k :: ·)
  | r :: rs => match deref e r, toArgs e rs with
    | some d, some ds => some (.sh d :: ds)
    | _, _ => none
noncomputable def hasPl : List R → Bool
  | [] => false
  | .pl _ :: _ => true
  | _ :: rs => hasPl rs
noncomputable def flatR : R → Bool
  | .v d => flat d
  | .fl ds => flatA ds
  | _ => false
noncomputable def flatO : Option PyData → Bool
  | none => true
  | some d => flat d
noncomputable def toKey : PyData → Option L2.Key
  | .int i => some (.inl i)
  | .str s => some (.inr s)
  | _ => none
noncomputable def toKeys : List PyData → Option (List L2.Key)
  | [] => some []
  | d :: ds => match toKey d, toKeys ds with
    | some k, some ks => some (k :: ks)
    | _, _ => none
noncomputable def keyOk : Bool → PyData → Bool
  | false, d => (toKey d).isSome
  | true, .tuple ds => (toKeys ds).isSome
  | true, _ => false
noncomputable section
open Classical
noncomputable def look (kvs : List (PyData × PyData)) (k : PyData) : Option PyData := (kvs.find? fun p => decide (p.1 = k)).map (·.2)
noncomputable def putD (kvs : List (PyData × PyData)) (k v : PyData) : List (PyData × PyData) :=
  if kvs.any (fun p => decide (p.1 = k)) then kvs.map fun p => if p.1 = k then (k, v) else p else kvs ++ [(k, v)]
/-- d.update(d2) -/
noncomputable def mergeD (kvs more : List (PyData × PyData)) : List (PyData × PyData) := more.foldl (fun acc p => putD acc p.1 p.2) kvs
end
/-- which kind of keys: all plain, or all tuples -/
noncomputable def keysK (kvs : List (PyData × PyData)) : Bool := kvs.all fun p => keyOk false p.1
noncomputable def keysT (kvs : List (PyData × PyData)) : Bool := kvs.all fun p => keyOk true p.1
noncomputable def lexLe : List Int → List Int → Bool
  | [], _ => true
  | _ :: _, [] => false
  | x :: xs, y :: ys => if x = y then lexLe xs ys else decide (x ≤ y)
noncomputable def toInts : List PyData → Option (List Int)
  | [] => some []
  | .int i :: ds => (toInts ds).map (i :: ·)
  | _ :: _ => none
noncomputable def toBls : List PyData → Option (List Bool)
  | [] => some []
  | .bool i :: ds => (toBls ds).map (i :: ·)
  | _ :: _ => none
noncomputable def truth : PyData → Bool
  | .none => false
  | .bool b => b
  | .int i => i != 0
  | .str s => (s.length : Int) != 0
  | .list ds => !ds.isEmpty
  | .tuple ds => !ds.isEmpty
  | .dict kvs => !kvs.isEmpty
noncomputable def strFits : PyData → Bool
  | .str s => decide (s.length ≤ LIM)
  | .dict _ => false
  | _ => true
noncomputable def cutD {α : Type} (xs : List α) (lo hi : Option Int) : List α := (xs.drop (HT.sIx xs.length 0 lo)).take (HT.sIx xs.length xs.length hi - HT.sIx xs.length 0 lo)
/-- the kinds of isinstance: 0 int, 1 bool, 2 str, 3 tuple, 4 list, 5 dict, 6 list or tuple -/
noncomputable def isKind : Nat → PyData → Bool
  | 0, .int _ => true
  | 0, .bool _ => true
  | 1, .bool _ => true
  | 2, .str _ => true
  | 3, .tuple _ => true
  | 4, .list _ => true
  | 5, .dict _ => true
  | 6, .list _ => true
  | 6, .tuple _ => true
  | _, _ => false
noncomputable def cmpD (o : Op) (a b : PyData) : Option Bool := match a, b with
  | .int i, .int j => match o with
    | .lt => some (decide (i < j))
    | .le => some (decide (i ≤ j))
    | .gt => some (decide (j < i))
    | .ge => some (decide (j ≤ i))
    | _ => none
  | .tuple xs, .tuple ys => match toInts xs, toInts ys with
    | some ns, some ms => match o with
      | .lt => some (HT.lexLt ns ms)
      | .le => some (lexLe ns ms)
      | .ge => some (lexLe ms ns)
      | _ => none
    | _, _ => none
  | _, _ => none
noncomputable def pick (xs : List PyData) (i : Int) : Option PyData := L2.atI xs i
noncomputable section
open Classical
noncomputable def addD : List PyData → Option R
  | [.int i, .int j] => some (.v (.int (i + j)))
  | [.str a, .str b] => if a.length + b.length ≤ LIM then some (.v (.str (a ++ b))) else none
  | [.list a, .list b] => if a.length + b.length ≤ LIM then some (.fl (a ++ b)) else none
  | [.tuple a, .tuple b] => if a.length + b.length ≤ LIM then some (.v (.tuple (a ++ b))) else none
  | _ => none
noncomputable def subD : List PyData → Option R
  | [.int i, .int j] => some (.v (.int (i - j)))
  | _ => none
noncomputable def mulD : List PyData → Option R
  | [.list xs, .int k] => if -(2 ^ 63) ≤ k ∧ k < 2 ^ 63 ∧ xs.length * k.toNat ≤ LIM then some (.fl (List.replicate k.toNat xs).flatten) else none
  | [.int i, .int j] => if (-(2 ^ 64) < i ∧ i < 2 ^ 64) ∨ (-(2 ^ 64) < j ∧ j < 2 ^ 64) then some (.v (.int (i * j))) else none
  | [.tuple xs, .int k] => if -(2 ^ 63) ≤ k ∧ k ≤ 1000 ∧ xs.length ≤ 1000 then some (.v (.tuple (List.replicate k.toNat xs).flatten)) else none
  | _ => none
noncomputable def fdivD : List PyData → Option R
  | [.int i, .int j] => if 0 < j ∧ j < 1073741824 then some (.v (.int (i / j))) else none
  | _ => none
noncomputable def modD : List PyData → Option R
  | [.int i, .int j] => if 0 < j then some (.v (.int (i % j))) else none
  | _ => none
noncomputable def powD : List PyData → Option R
  | [.int i, .int j] => if 0 ≤ j ∧ j ≤ 1000000 ∧ i.natAbs < 2 ^ 64 then some (.v (.int (i ^ j.toNat))) else none
  | _ => none
noncomputable def negD : List PyData → Option R
  | [.int i] => some (.v (.int (-i)))
  | _ => none
/-- a row of any kind, and the empty one -/
noncomputable def nilD (neg : Bool) : PyData → PyData → Option R
  | .list xs, .list [] => if xs.length ≤ LIM ∧ xs ≠ [] then some (.v (.bool neg)) else none
  | .tuple xs, .tuple [] => if xs.length ≤ LIM ∧ xs ≠ [] then some (.v (.bool neg)) else none
  | _, _ => none
noncomputable def eqD : List PyData → Option R
  | [.str a, .str b] => some (.v (.bool (decide (a = b))))
  | [a, b] => if SeqAt.shaped a = true ∧ SeqAt.shaped b = true then some (.v (.bool (PyData.eqv a b))) else nilD false a b
  | _ => none
noncomputable def neD : List PyData → Option R
  | [.str a, .str b] => some (.v (.bool (!decide (a = b))))
  | [a, b] => if SeqAt.shaped a = true ∧ SeqAt.shaped b = true then some (.v (.bool (!PyData.eqv a b))) else nilD true a b
  | _ => none
noncomputable def cmpR (o : Op) : List PyData → Option R
  | [a, b] => (cmpD o a b).map fun b => .v (.bool b)
  | _ => none
noncomputable def isND : List PyData → Option R
  | [a] => some (.v (.bool (match a with | .none => true | _ => false)))
  | _ => none
noncomputable def notND : List PyData → Option R
  | [a] => some (.v (.bool (match a with | .none => false | _ => true)))
  | _ => none
/-- a dict that is not empty shows by its keys which kind it is -/
noncomputable def dkOk (kvs : List (PyData × PyData)) (k : PyData) : Bool := !kvs.isEmpty && ((keysK kvs && keyOk false k) || (keysT kvs && keyOk true k))
noncomputable def hasD (a : PyData) : PyData → Option Bool
  | .list ds => if SeqAt.shaped a = true ∧ SeqAt.shaped (.list ds) = true then some (ds.any fun z => PyData.eqv z a) else none
  | .tuple ds => if SeqAt.shaped a = true ∧ SeqAt.shaped (.tuple ds) = true then some (ds.any fun z => PyData.eqv z a) else none
  | .dict kvs => if dkOk kvs a = true then some (look kvs a).isSome else none
  | _ => none
noncomputable def inD : List PyData → Option R
  | [a, b] => (hasD a b).map fun c => .v (.bool c)
  | _ => none
noncomputable def notinD : List PyData → Option R
  | [a, b] => (hasD a b).map fun c => .v (.bool (!c))
  | _ => none
noncomputable def idxD : List PyData → Option R
  | [.list xs, .int i] => (pick xs i).map .v
  | [.tuple xs, .int i] => (pick xs i).map .v
  | [.dict kvs, k] => if dkOk kvs k = true then (look kvs k).map .v else none
  | _ => none
noncomputable def slD (lo hi : Bool) : List PyData → Option R
  | [.list xs] => if lo = false ∧ hi = false then some (.fl (cutD xs none none)) else none
  | [.tuple xs] => if lo = false ∧ hi = false then some (.v (.tuple (cutD xs none none))) else none
  | [.list xs, .int i] => if lo = true ∧ hi = false then some (.fl (cutD xs (some i) none)) else if lo = false ∧ hi = true then some (.fl (cutD xs none (some i))) else none
  | [.tuple xs, .int i] => if lo = true ∧ hi = false then some (.v (.tuple (cutD xs (some i) none))) else if lo = false ∧ hi = true then some (.v (.tuple (cutD xs none (some i)))) else none
  | [.list xs, .int i, .int j] => if lo = true ∧ hi = true then some (.fl (cutD xs (some i) (some j))) else none
  | [.tuple xs, .int i, .int j] => if lo = true ∧ hi = true then some (.v (.tuple (cutD xs (some i) (some j)))) else none
  | _ => none
noncomputable def revD : List PyData → Option R
  | [.list xs] => some (.fl xs.reverse)
  | [.tuple xs] => some (.v (.tuple xs.reverse))
  | _ => none
noncomputable def lenD : List PyData → Option R
  | [.list xs] => some (.v (.int xs.length))
  | [.tuple xs] => some (.v (.int xs.length))
  | [.str s] => if s.length ≤ LIM then some (.v (.int s.length)) else none
  | _ => none
noncomputable def tupleD : List PyData → Option R
  | [.list xs] => some (.v (.tuple xs))
  | [.tuple xs] => some (.v (.tuple xs))
  | _ => none
noncomputable def listD : List PyData → Option R
  | [.list xs] => some (.fl xs)
  | [.tuple xs] => some (.fl xs)
  | _ => none
noncomputable def lrngD : List PyData → Option R
  | [.int n] => if 0 ≤ n ∧ n ≤ 16777216 then some (.fl ((List.range n.toNat).map fun (i : Nat) => .int (0 + (i : Int)))) else none
  | _ => none
/-- a list that can be sorted: that of the kit, or one item at most -/
noncomputable def Srtb (xs : List PyData) : Prop := PySem.W.Sortable xs ∨ xs.length ≤ 1 ∧ ∀ d ∈ xs, d ≠ .none
noncomputable def srt (xs : List PyData) : Option R := if PySem.W.AllAlike xs ∧ Srtb xs ∧ (∀ d ∈ xs, nod d = true ∧ d.depth ≤ 20) then some (.fl (xs.mergeSort (PySem.W.dataLe false id))) else none
noncomputable def sortedD : List PyData → Option R
  | [.list xs] => srt xs
  | [.tuple xs] => srt xs
  | [.dict kvs] => match toInts (kvs.map (·.1)) with
    | some ns => if 0 < ns.length ∧ ns.length < 64 then some (.fl ((ns.mergeSort fun a b => decide (a ≤ b)).map .int)) else none
    | none => if keysT kvs = true ∧ kvs.length ≤ LIM then srt (kvs.map (·.1)) else none
  | _ => none
noncomputable def absD : List PyData → Option R
  | [.int i] => some (.v (.int (if i < 0 then -i else i)))
  | _ => none
noncomputable def min2D : List PyData → Option R
  | [.int i, .int j] => some (.v (.int (if j < i then j else i)))
  | _ => none
noncomputable def max2D : List PyData → Option R
  | [.int i, .int j] => some (.v (.int (if j > i then j else i)))
  | _ => none
noncomputable def min1D : List PyData → Option R
  | [.list xs] => match toInts xs with
    | some (n :: ns) => some (.v (.int (ns.foldl min n)))
    | _ => none
  | [.tuple xs] => match toInts xs with
    | some (n :: ns) => some (.v (.int (ns.foldl min n)))
    | _ => none
  | _ => none
noncomputable def max1D : List PyData → Option R
  | [.list xs] => match toInts xs with
    | some (n :: ns) => some (.v (.int (ns.foldl max n)))
    | _ => none
  | [.tuple xs] => match toInts xs with
    | some (n :: ns) => some (.v (.int (ns.foldl max n)))
    | _ => none
  | _ => none
noncomputable def sumD : List PyData → Option R
  | [.list xs] => (toInts xs).map fun ns => .v (.int ns.sum)
  | [.tuple xs] => (toInts xs).map fun ns => .v (.int ns.sum)
  | _ => none
noncomputable def anyD : List PyData → Option R
  | [.list xs] => (toBls xs).map fun bs => .v (.bool (bs.any id))
  | _ => none
noncomputable def allD : List PyData → Option R
  | [.list xs] => (toBls xs).map fun bs => .v (.bool (bs.all id))
  | _ => none
noncomputable def intD : List PyData → Option R
  | [.int i] => some (.v (.int i))
  | [.bool b] => some (.v (.int (if b then 1 else 0)))
  | _ => none
noncomputable def strD : List PyData → Option R
  | [.int i] => if i.natAbs.log2 < 1920 then some (.v (.str (toString i))) else none
  | _ => none
mutual
noncomputable def rok : PyData → Bool
  | .dict kvs => rokK kvs
  | .tuple ds => rokA ds
  | .list ds => rokA ds
  | _ => true
noncomputable def rokA : List PyData → Bool
  | [] => true
  | d :: ds => rok d && rokA ds
noncomputable def rokK : List (PyData × PyData) → Bool
  | [] => true
  | p :: ds => keyOk false p.1 && rok p.2 && rokK ds
end
noncomputable def reprD : List PyData → Option R
  | [d] => if d.showable = true ∧ rok d = true ∧ d.shown.length ≤ LIM ∧ d.depth ≤ 60 then some (.v (.str d.shown)) else none
  | _ => none
noncomputable def isiD (k : Nat) : List PyData → Option R
  | [d] => some (.v (.bool (isKind k d)))
  | _ => none
noncomputable def getD1 : List PyData → Option R
  | [.dict kvs, k] => if dkOk kvs k = true then some (.v ((look kvs k).getD .none)) else none
  | _ => none
noncomputable def notD : List PyData → Option R
  | [.bool b] => some (.v (.bool (!b)))
  | _ => none
noncomputable def idiD : List PyData → Option R
  | [.int i] => some (.v (.int i))
  | _ => none
noncomputable def isBD (b neg : Bool) : List PyData → Option R
  | [.bool c] => some (.v (.bool ((c == b) != neg)))
  | [_] => some (.v (.bool neg))
  | _ => none
/-- in its place, once -/
noncomputable def insI (x : Int) : List Int → List Int
  | [] => [x]
  | y :: ys => if x < y then x :: y :: ys else if x = y then y :: ys else y :: insI x ys
noncomputable def isd (ns : List Int) : List Int := ns.foldr insI []
noncomputable def insT (x : List Int) : List (List Int) → List (List Int)
  | [] => [x]
  | y :: ys => if HT.lexLt x y = true then x :: y :: ys else if x = y then y :: ys else y :: insT x ys
noncomputable def ist (ts : List (List Int)) : List (List Int) := ts.foldr insT []
noncomputable def toTups : List PyData → Option (List (List Int))
  | [] => some []
  | .tuple xs :: ds => match toInts xs, toTups ds with
    | some a, some b => some (a :: b)
    | _, _ => none
  | _ :: _ => none
/-- sorted(set(x)) of whole numbers -/
noncomputable def ssetI : List PyData → Option R
  | [.tuple xs] => match toInts xs with
    | some ns => if ns.length < 64 then some (.fl ((isd ns).map .int)) else none
    | none => none
  | _ => none
/-- .. of tuples of whole numbers -/
noncomputable def ssetTs (xs : List PyData) : Option R := match toTups xs with
  | some ts => if ts.length < 64 ∧ ((∀ t ∈ ts, t ≠ []) ∨ ts.length ≤ 1) then some (.fl ((ist ts).map fun t => .tuple (t.map .int))) else none
  | none => none
noncomputable def ssetT : List PyData → Option R
  | [.list xs] => ssetTs xs
  | [.tuple xs] => ssetTs xs
  | _ => none
noncomputable def ssetD (ds : List PyData) : Option R := match ssetI ds with
  | some z => some z
  | none => ssetT ds
/-- len(set(x)) of whole numbers -/
noncomputable def lsetD : List PyData → Option R
  | [.tuple xs] => match toInts xs with
    | some ns => if ns.length < 64 then some (.v (.int (isd ns).length)) else none
    | none => none
  | _ => none
noncomputable def trngD : List PyData → Option R
  | [.int n] => if 0 ≤ n ∧ n ≤ 16777216 then some (.v (.tuple ((List.range n.toNat).map fun (i : Nat) => .int (0 + (i : Int))))) else none
  | _ => none
noncomputable def indexD : List PyData → Option R
  | [.list xs, .int v] => match toInts xs with
    | some ns => if v ∈ ns then some (.v (.int (ns.idxOf v))) else none
    | none => none
  | _ => none
/-- xs.count(x) of truth values -/
noncomputable def isBl : PyData → Bool
  | .bool _ => true
  | _ => false
noncomputable def countD : List PyData → Option R
  | [.list xs, .bool b] => if xs.all isBl = true then some (.v (.int (xs.countP fun y => PyData.eqv y (.bool b) : Nat))) else none
  | _ => none
/-- dict(xs), a list of pairs with plain keys -/
noncomputable def toPrs : List PyData → Option (List (PyData × PyData))
  | [] => some []
  | .tuple [k, v] :: ds => if keyOk false k = true then (toPrs ds).map ((k, v) :: ·) else none
  | _ :: _ => none
noncomputable def dictPD : List PyData → Option R
  | [.list ds] => (toPrs ds).map fun ps => .fd false (mergeD [] ps)
  | _ => none
/-- list(zip(xs, ys)) of tuples of ints -/
noncomputable def zipLD : List PyData → Option R
  | [.tuple xs, .tuple ys] => match toInts xs, toInts ys with
    | some ms, some ns => some (.fl ((ms.zip ns).map fun p => .tuple [.int p.1, .int p.2]))
    | _, _ => none
  | [.list xs, .list ys] => some (.fl ((xs.zip ys).map fun p => .tuple [p.1, p.2]))
  | _ => none
/-- min of a list of alike data -/
noncomputable def minTD : List PyData → Option R
  | [.list (d :: ds)] => if PySem.W.AlikeAll (d :: ds) ∧ ∀ x ∈ d :: ds, nod x = true ∧ x.depth ≤ 20 then some (.v (PySem.W.minD d ds)) else none
  | _ => none
/-- texts alone -/
noncomputable def strsD : List PyData → Option (List Str)
  | [] => some []
  | .str s :: ds => (strsD ds).map (s :: ·)
  | _ => none
/-- one behind the other -/
noncomputable def catS : List Str → Str
  | [] => Str.empty
  | s :: ss => s ++ catS ss
noncomputable def joinD : List PyData → Option R
  | [.str a, .list ds] => match strsD ds with
    | some ys => if (ys.map (·.length)).sum + ys.length * a.length ≤ LIM then some (.v (.str (Txt.join a ys))) else none
    | none => none
  | _ => none
noncomputable def catD (ds : List PyData) : Option R := match strsD ds with
  | some ys => some (.v (.str (catS ys)))
  | none => none
noncomputable def fmtD : List PyData → Option R
  | [.str y] => if y.length ≤ 1000000 then some (.v (.str y)) else none
  | [.int i] => if i.natAbs < 10 ^ 12 then some (.v (.str (toString i))) else none
  | _ => none
/-- a length -/
noncomputable def lenI : List PyData → Option R
  | [.int n] => if 0 ≤ n ∧ n < 2 ^ 62 then some (.v (.int n)) else none
  | _ => none
/-- a text -/
noncomputable def strI : List PyData → Option R
  | [.str y] => some (.v (.str y))
  | _ => none
noncomputable def splitD : List PyData → Option R
  | [.str a, .str b] => if (b.length == 0) = false ∧ a.length + 2 ≤ LIM then some (.fl ((Txt.split a b).map .str)) else none
  | _ => none
/-- the sign c -/
noncomputable def sgn (c : Nat) : Str := ⟨#[c]⟩
/-- a sign in a text -/
noncomputable def inSg (neg : Bool) : List PyData → Option R
  | [.str ⟨⟨[c]⟩⟩, .str z] => some (.v (.bool (decide (c ∈ z.cps.toList) != neg)))
  | _ => none
noncomputable def ixSD : List PyData → Option R
  | [.str z, .int i] => if z.length ≤ LIM then (L2.atI z.cps.toList i).map fun c => .v (.str (sgn c)) else none
  | _ => none
noncomputable def slSD (lo hi : Bool) : List PyData → Option R
  | [.str z, .int i] => if z.length ≤ LIM ∧ lo = true ∧ hi = false then some (.v (.str (L2.cutS z (some i) none))) else if z.length ≤ LIM ∧ lo = false ∧ hi = true then some (.v (.str (L2.cutS z none (some i)))) else none
  | [.str z, .int i, .int j] => if z.length ≤ LIM ∧ lo = true ∧ hi = true then some (.v (.str (L2.cutS z (some i) (some j)))) else none
  | _ => none
noncomputable def intSD : List PyData → Option R
  | [.str a] => if a.length ≤ 640 then (PySem.intText? a).map fun n => .v (.int n) else none
  | _ => none
/-- s * 0, s * 1 -/
noncomputable def mulSD : List PyData → Option R
  | [.str a, .int i] => if a.length ≤ LIM ∧ i = 0 then some (.v (.str Str.empty)) else if a.length ≤ LIM ∧ i = 1 then some (.v (.str a)) else none
  | _ => none
/-- list(d), the keys tuples -/
noncomputable def listDTD : List PyData → Option R
  | [.dict kvs] => if kvs ≠ [] ∧ keysT kvs = true ∧ kvs.length ≤ LIM then some (.fl (kvs.map (·.1))) else none
  | _ => none
/-- the hash of a tuple of whole numbers -/
noncomputable def hashTI (ns : List Int) : Int := PySem.reduceHash (PySem.Builtin.Tuple.tupleHashOf (ns.map PySem.hashInt))
/-- keys of whole numbers, their hashes are different -/
noncomputable def apartT (more : List (PyData × PyData)) : Prop := ∃ rows : List (List Int), more.map (·.1) = rows.map (fun r => PyData.tuple (r.map .int)) ∧ (rows.map hashTI).Nodup
noncomputable instance {more : List (PyData × PyData)} : Decidable (apartT more) := Classical.propDecidable _
/-- != where the one is a dict and the other is a tuple -/
noncomputable def neDT : List PyData → Option R
  | [.dict _, .tuple _] => some (.v (.bool true))
  | ds => neD ds
noncomputable def allStr : List PyData → Bool
  | [] => true
  | .str _ :: ds => allStr ds
  | _ :: _ => false
/-- a text in a constant tuple of texts -/
noncomputable def inKD : List PyData → Option R
  | [.str w, .tuple ds] => if allStr ds = true then some (.v (.bool (ds.any fun d => decide (d = .str w)))) else none
  | _ => none
/-- l.index(b) of truth values -/
noncomputable def indexB : List PyData → Option R
  | [.list xs, .bool b] => match toBls xs with
    | some bs => if b ∈ bs then some (.v (.int (bs.idxOf b))) else none
    | none => none
  | _ => none
/-- text.replace(y, z, 1) -/
noncomputable def repl1D : List PyData → Option R
  | [.str x, .str y, .str z] => if x.length + (x.length + 1) * z.length ≤ LIM ∧ (y == z) = false then some (.v (.str (Txt.replace1 x y z))) else none
  | _ => none
noncomputable def upperD : List PyData → Option R
  | [.str x] => if x.length ≤ 1000000 then some (.v (.str (Txt.upper x))) else none
  | _ => none
/-- sorted(d, key=lambda x: d[x]): keys that are tuples, values that are whole numbers -/
noncomputable def sortKD : List PyData → Option R
  | [.dict kvs] => match toInts (kvs.map (·.2)) with
    | some _ => if keysT kvs = true ∧ kvs ≠ [] ∧ kvs.length ≤ LIM then some (.fl ((kvs.mergeSort (PySem.W.dataLe false fun p => p.2)).map fun p => p.1)) else none
    | none => none
  | _ => none
/-- t.index(v), t a tuple of whole numbers -/
noncomputable def tindexD : List PyData → Option R
  | [.tuple xs, .int v] => match toInts xs with
    | some ns => if v ∈ ns then some (.v (.int (ns.idxOf v))) else none
    | none => none
  | _ => none
/-- the first k of a place's words, one by one -/
noncomputable def gD : Nat → List PyData → Option R
  | 0 => isBD true false | 1 => isBD true true | 2 => isBD false false | 3 => isBD false true
  | 4 => ssetD | 5 => lsetD | 6 => trngD | 7 => indexD | 8 => dictPD | 9 => countD | 10 => zipLD | 11 => minTD | 12 => joinD | 13 => catD | 14 => fmtD | 15 => splitD | 16 => lenI | 17 => strI
  | 18 => inSg false | 19 => inSg true | 20 => ixSD | 21 => slSD true false | 22 => slSD false true | 23 => slSD true true | 24 => intSD | 25 => mulSD | 26 => listDTD | 27 => neDT | 28 => inKD | 29 => indexB | 30 => repl1D | 31 => upperD | 32 => sortKD | 33 => tindexD
  | _ => fun _ => none
noncomputable def opD : Op → List PyData → Option R
  | .g k => gD k
  | .idi => idiD
  | .add => addD | .sub => subD | .mul => mulD | .fdiv => fdivD | .mod => modD | .pow => powD | .neg => negD | .eq => eqD | .ne => neD
  | .lt => cmpR .lt | .le => cmpR .le | .gt => cmpR .gt | .ge => cmpR .ge | .isN => isND | .notN => notND | .inn => inD | .notin => notinD
  | .idx => idxD | .sl lo hi => slD lo hi | .rev => revD | .len => lenD | .tuple => tupleD | .list => listD | .lrng => lrngD | .sorted => sortedD
  | .abs => absD | .min2 => min2D | .max2 => max2D | .min1 => min1D | .max1 => max1D | .sum => sumD | .any => anyD | .all => allD | .int => intD
  | .str => strD | .repr => reprD | .isi k => isiD k | .get => getD1 | .not => notD
/-- a dict of one's own, asked -/
noncomputable def dictOp (e : Env) : Op → List R → Option R
  | .inn, [.v k, .pl i] => match e[i]? with
    | some (.od t kvs) => if keyOk t k = true then some (.v (.bool (look kvs k).isSome)) else none
    | _ => none
  | .notin, [.v k, .pl i] => match e[i]? with
    | some (.od t kvs) => if keyOk t k = true then some (.v (.bool (!(look kvs k).isSome))) else none
    | _ => none
  | .idx, [.pl i, .v k] => match e[i]? with
    | some (.od t kvs) => if keyOk t k = true then (look kvs k).map .v else none
    | _ => none
  | .get, [.pl i, .v k] => match e[i]? with
    | some (.od t kvs) => if keyOk t k = true then some (.v ((look kvs k).getD .none)) else none
    | _ => none
  | _, _ => none
noncomputable def opE (e : Env) (o : Op) (rs : List R) : Option R := match dictOp e o rs with
  | some r => some r
  | none => match derefs e rs with
    | some ds => opD o ds
    | none => none
/-- the operations that write slot i's own list or dict -/
noncomputable def mutD (o : MOp) (i : Nat) (rs : List R) (m : M) : Res R := match o, rs with
  | .app, [r] => match esc m.e r with
    | some (d, e) => match e[i]? with
      | some (.ol ds) => if ds.length < LIM then .ok (.v .none) ⟨e.set i (.ol (ds ++ [d])), m.s⟩ else .bad
      | _ => .bad
    | none => .bad
  | .pop, [] => match m.e[i]? with
    | some (.ol ds) => match ds[ds.length - 1]? with
      | some d => .ok (.v d) ⟨m.e.set i (.ol ds.dropLast), m.s⟩
      | none => .bad
    | _ => .bad
  | .popAt, [.v (.int k)] => match m.e[i]? with
    | some (.ol ds) => match L2.ixN ds.length k with
      | some j => match ds[j]? with
        | some d => .ok (.v d) ⟨m.e.set i (.ol (ds.eraseIdx j)), m.s⟩
        | none => .bad
      | none => .bad
    | _ => .bad
  | .ext, [.fl zs] => match m.e[i]? with
    | some (.ol ds) => if ds.length + zs.length ≤ LIM then .ok (.v .none) ⟨m.e.set i (.ol (ds ++ zs)), m.s⟩ else .bad
    | _ => .bad
  | .ext, [.pl j] => match m.e[i]?, m.e[j]? with
    | some (.ol ds), some (.ol zs) => if i ≠ j ∧ ds.length + zs.length ≤ LIM then .ok (.v .none) ⟨m.e.set i (.ol (ds ++ zs)), m.s⟩ else .bad
    | _, _ => .bad
  | .rem, [.v (.int k)] => match m.e[i]? with
    | some (.ol ds) => match toInts ds with
      | some ns => if k ∈ ns then .ok (.v .none) ⟨m.e.set i (.ol ((ns.erase k).map .int)), m.s⟩ else .bad
      | none => .bad
    | _ => .bad
  | .upd, [.fd false more] => match m.e[i]? with
    | some (.od false kvs) => if kvs.length + more.length ≤ LIM then .ok (.v .none) ⟨m.e.set i (.od false (mergeD kvs more)), m.s⟩ else .bad
    | _ => .bad
  | .ins, [.v (.int k), .v d] => match m.e[i]? with
    | some (.ol ds) => if 0 ≤ k ∧ k < 2 ^ 62 ∧ ds.length < LIM then .ok (.v .none) ⟨m.e.set i (.ol (ds.take k.toNat ++ [d] ++ ds.drop k.toNat)), m.s⟩ else .bad
    | _ => .bad
  | _, _ => .bad
/-- x[a], x[b] = a pair -/
noncomputable def swpR (i ja jb : Nat) (r : R) (e : Env) : Option Env := match r with
  | .v (.tuple [d1, d2]) => match e[ja]?, e[jb]?, e[i]? with
    | some (.sh (.int a)), some (.sh (.int b)), some (.ol ds) => match L2.ixN ds.length a, L2.ixN ds.length b with
      | some j, some k => some (e.set i (.ol ((ds.set j d1).set k d2)))
      | _, _ => none
    | _, _, _ => none
  | _ => none
end
noncomputable def isOwn : Option Slot → Bool
  | some (.ol _) => true
  | some (.od _ _) => true
  | _ => false
noncomputable def mutOk : MOp → Option Slot → Bool
  | .upd, some (.od _ _) => true
  | .upd, _ => false
  | _, some (.ol _) => true
  | _, _ => false
noncomputable def clear (e : Env) : List Nat → Env
  | [] => e
  | i :: is => (clear e is).set i .un
/-- the block's own slots as they were ahead -/
noncomputable def back (e e0 : Env) : List Nat → Env
  | [] => e
  | i :: is => (back e e0 is).set i ((e0[i]?).getD .un)
/-- the source's list stands as it was -/
noncomputable abbrev Src := Option (Nat × List PyData)
noncomputable def srcOk (m : M) : Src → Prop
  | none => True
  | some (i, ds) => m.e[i]? = some (.ol ds)
noncomputable def items (e : Env) : R → Option (List PyData × Src)
  | .v (.list ds) => some (ds, none)
  | .v (.tuple ds) => some (ds, none)
  | .fl ds => some (ds, none)
  | .pl i => match e[i]? with
    | some (.ol ds) => some (ds, some (i, ds))
    | some (.sh (.list ds)) => some (ds, none)
    | _ => none
  | _ => none
noncomputable def rngD : List R → Option (List PyData)
  | [.v (.int j)] => if -(2 ^ 62) ≤ j ∧ j < 2 ^ 62 then some ((List.range j.toNat).map fun (k : Nat) => .int (0 + (k : Int))) else none
  | [.v (.int i), .v (.int j)] => if -(2 ^ 62) ≤ i ∧ i < 2 ^ 62 ∧ -(2 ^ 62) ≤ j ∧ j < 2 ^ 62 then some ((List.range (j - i).toNat).map fun (k : Nat) => .int (i + (k : Int))) else none
  | _ => none
/-- range(i, j, c) -/
noncomputable def rg3D : List R → Option (List PyData)
  | [.v (.int i), .v (.int j), .v (.int c)] => if c ≠ 0 ∧ c.natAbs < 1073741824 ∧ Builtin.Range.small i j c = true then
      some ((List.range (Builtin.Range.rangeSize i j c).toNat).map fun (k : Nat) => .int (i + (k : Int) * c)) else none
  | _ => none
mutual
noncomputable def bind1 (e : Env) : Tg → PyData → Option Env
  | .nm i, d => some (e.set i (.sh d))
  | .tp ts, .tuple ds => bindL e ts ds
  | .tp ts, .list ds => bindL e ts ds
  | .tp _, _ => none
noncomputable def bindL (e : Env) : Tgs → List PyData → Option Env
  | .nil, [] => some e
  | .cons t ts, d :: ds => match bind1 e t d with
    | some e1 => bindL e1 ts ds
    | none => none
  | _, _ => none
end
section
variable {m : M}
noncomputable section
open Classical
noncomputable def lcL (src : Src) (own : List Nat) (bd : PyData → M → Res Bool) (el : M → Res R) : List PyData → List PyData → M → Res (List PyData)
  | [], acc, m => if srcOk m src then .ok acc m else .bad
  | d :: ds, acc, m => if srcOk m src then
      match bd d m with
      | .ok true m1 => match el m1 with
        | .ok r m2 => match esc m2.e r with
          | some (x, e3) => lcL src own bd el ds (acc ++ [x]) ⟨clear e3 own, m2.s⟩
          | none => .bad
        | _ => .bad
      | .ok false m1 => lcL src own bd el ds acc ⟨clear m1.e own, m1.s⟩
      | _ => .bad
    else .bad
noncomputable def dcL (src : Src) (own : List Nat) (bd : PyData → M → Res Bool) (ek ev : M → Res R) (t : Bool) : List PyData → List (PyData × PyData) → M → Res (List (PyData × PyData))
  | [], acc, m => if srcOk m src then .ok acc m else .bad
  | d :: ds, acc, m => if srcOk m src then
      match bd d m with
      | .ok true m1 => match ek m1 with
        | .ok (.v k) m2 => match ev m2 with
          | .ok (.v x) m3 => if keyOk t k = true then dcL src own bd ek ev t ds (putD acc k x) ⟨clear m3.e own, m3.s⟩ else .bad
          | _ => .bad
        | _ => .bad
      | .ok false m1 => dcL src own bd ek ev t ds acc ⟨clear m1.e own, m1.s⟩
      | _ => .bad
    else .bad
noncomputable def lopL (src : Src) (bd : PyData → M → Res Flow) : List PyData → M → Res Flow
  | [], m => if srcOk m src then .ok .nx m else .bad
  | d :: ds, m => if srcOk m src then
      match bd d m with
      | .ok .nx m1 => lopL src bd ds m1
      | .ok .ct m1 => lopL src bd ds m1
      | .ok .brk m1 => .ok .nx m1
      | .ok (.rt r) m1 => .ok (.rt r) m1
      | .rz c f m1 => .rz c f m1
      | .bad => .bad
    else .bad
end
end
noncomputable def whL (c : M → Res Bool) (b : M → Res Flow) : Nat → M → Res Flow
  | 0, _ => .bad
  | n + 1, m => match c m with
    | .ok true m1 => match b m1 with
      | .ok .nx m2 => whL c b n m2
      | .ok .ct m2 => whL c b n m2
      | .ok .brk m2 => .ok .nx m2
      | .ok (.rt r) m2 => .ok (.rt r) m2
      | .rz x f m2 => .rz x f m2
      | .bad => .bad
    | .ok false m1 => .ok .nx m1
    | .rz x f m1 => .rz x f m1
    | .bad => .bad
noncomputable def zipD : List (List PyData) → List PyData
  | [xs, ys] => List.zipWith (fun a b => .tuple [a, b]) xs ys
  | _ => []
noncomputable def zip3D (xs ys zs : List PyData) : List PyData := (xs.zip (ys.zip zs)).map fun p => .tuple [p.1, p.2.1, p.2.2]
noncomputable def enumD (k : Int) (xs : List PyData) : List PyData := (xs.zipIdx).map fun p => .tuple [.int (k + (p.2 : Int)), p.1]
noncomputable def unAt : Option Slot → Bool
  | some .un => true
  | _ => false
/-- a slot that holds what lies at a -/
noncomputable def exAt (a : Addr) : Option Slot → Bool
  | some (.ex a' none) => decide (a' = a)
  | _ => false
noncomputable def xiR (a b : Addr) (v : Bool) (m : M) : Option Slot → Res R
  | some (.ex a' none) => if a' = a then .ok (.v (.bool v)) m else .bad
  | some (.ex a' (some (b', _, _))) => if a' = a ∧ b' = b then .ok (.v (.bool v)) m else .bad
  | _ => .bad
noncomputable def xfR (a b : Addr) (n : Str) (m : M) : Option Slot → Res R
  | some (.ex a' (some (b', n', d))) => if a' = a ∧ b' = b ∧ n' = n then .ok (.v d) m else .bad
  | _ => .bad
/-- object k: 0 is the deck -/
noncomputable def obG (s : DS) : Nat → Option OB
  | 0 => none
  | k + 1 => s.obs[k]?
noncomputable def obS (s : DS) (k : Nat) (o : OB) : DS := { s with obs := s.obs.set (k - 1) o }
noncomputable def fldB (k : Nat) (sts eds : List PyData) (ask : Bool) (m : M) : FO → List R → Res R
  | .stA, [.v (.int j)] => match pick sts j with
    | some d => .ok (.v d) m
    | none => .bad
  | .lenS, [] => .ok (.v (.int sts.length)) m
  | .lenE, [] => .ok (.v (.int eds.length)) m
  | .ask, [] => .ok (.v (.bool ask)) m
  | .appS, [.v d] => if flat d = true ∧ sts.length < 10000 then .ok (.v .none) ⟨m.e, obS m.s k (.board (sts ++ [d]) eds ask)⟩ else .bad
  | .appE, [.v d] => if flat d = true ∧ eds.length < 10000 then .ok (.v .none) ⟨m.e, obS m.s k (.board sts (eds ++ [d]) ask)⟩ else .bad
  | .popS, [] => match sts[sts.length - 1]? with
    | some d => .ok (.v d) ⟨m.e, obS m.s k (.board sts.dropLast eds ask)⟩
    | none => .bad
  | .popE, [] => match eds[eds.length - 1]? with
    | some d => .ok (.v d) ⟨m.e, obS m.s k (.board sts eds.dropLast ask)⟩
    | none => .bad
  | .tupE, [] => .ok (.v (.tuple eds)) m
  | .lstS, [] => .ok (.fl sts) m
  | .lstE, [] => .ok (.fl eds) m
  | _, _ => .bad
noncomputable def fldD (o : FO) (k : Nat) (rs : List R) (m : M) : Res R := match obG m.s k with
  | some (.board sts eds ask) => fldB k sts eds ask m o rs
  | some (.shell j) => match o, rs with
    | .brd, [] => .ok (.dk (j + 1)) m
    | _, _ => .bad
  | none => .bad
noncomputable def kindOk : FO → Option OB → Bool
  | .brd, some (.shell _) => true
  | .brd, _ => false
  | _, some (.board _ _ _) => true
  | _, _ => false
noncomputable def obKind : Bool → Option OB → Bool
  | true, some (.shell _) => true
  | false, some (.board _ _ _) => true
  | _, _ => false
noncomputable def kindE (sh : Bool) : Res R → Bool
  | .ok (.dk k) m => obKind sh (obG m.s k)
  | .rz _ _ _ => true
  | _ => false
noncomputable def consR (a : Res R) (b : M → Res (List R)) : Res (List R) := match a with
  | .ok r m1 => match b m1 with
    | .ok rs m2 => .ok (r :: rs) m2
    | .rz c f m2 => .rz c f m2
    | .bad => .bad
  | .rz c f m1 => .rz c f m1
  | .bad => .bad
noncomputable def dkLe (n : Nat) : Slot → Bool
  | .dk k => decide (k ≤ n)
  | _ => true
noncomputable def rdk : Flow → Bool
  | .rt (.dk _) => false
  | _ => true
/-- the n objects that were there stay; slot i is free again -/
noncomputable def cutM (i n : Nat) (m : M) : M := ⟨m.e.set i .un, { m.s with obs := m.s.obs.take n }⟩
/-- a shell's board is one of the first n objects -/
noncomputable def shLe (n : Nat) : OB → Bool
  | .shell j => decide (j < n)
  | _ => true
noncomputable def cutOk (i n : Nat) (m : M) : Bool := m.s.obs.length == n + 1 && ((m.e.set i .un).all (dkLe n) && (m.s.obs.take n).all (shLe n))
noncomputable def scp (i n : Nat) : Res Flow → Res Flow
  | .ok fl m => if cutOk i n m = true ∧ rdk fl = true then .ok fl (cutM i n m) else .bad
  | .rz c f m => if cutOk i n m = true then .rz c f (cutM i n m) else .bad
  | .bad => .bad
/-- two objects for the rest of a suite -/
noncomputable def cutM2 (i j n : Nat) (m : M) : M := ⟨(m.e.set i .un).set j .un, { m.s with obs := m.s.obs.take n }⟩
noncomputable def cutOk2 (i j n : Nat) (m : M) : Bool := m.s.obs.length == n + 2 && (((m.e.set i .un).set j .un).all (dkLe n) && (m.s.obs.take n).all (shLe n))
noncomputable def scp2 (i j n : Nat) : Res Flow → Res Flow
  | .ok fl m => if cutOk2 i j n m = true ∧ rdk fl = true then .ok fl (cutM2 i j n m) else .bad
  | .rz c f m => if cutOk2 i j n m = true then .rz c f (cutM2 i j n m) else .bad
  | .bad => .bad
noncomputable def addM (i : Nat) (o : OB) (m : M) : M := ⟨m.e.set i (.dk (m.s.obs.length + 1)), { m.s with obs := m.s.obs ++ [o] }⟩
noncomputable section
variable (cl : Nat → List Arg → DS → FRes)
mutual
noncomputable def ev : E → M → Res R
  | .c d, m => .ok (.v d) m
  | .x i, m => match m.e[i]? with
    | some (.sh d) => .ok (.v d) m
    | some (.ol _) => .ok (.pl i) m
    | some (.od _ _) => .ok (.pl i) m
    | some (.dk k) => .ok (.dk k) m
    | _ => .bad
  | .op o es, m => match evs es m with
    | .ok rs m1 => match opE m1.e o rs with
      | some r => .ok r m1
      | none => .bad
    | .rz c f m1 => .rz c f m1
    | .bad => .bad
  | .call f es, m => match evs es m with
    | .ok rs m1 => match toArgs m1.e rs with
      | some as => match cl f as m1.s with
        | .ok r s => if hasPl rs = true ∧ flatR r = false then .bad else match r with
          | .pl _ => .bad
          | .dk _ => .bad
          | r => .ok r ⟨m1.e, s⟩
        | .rz c f s => if hasPl rs = true ∧ flatO f = false then .bad else .rz c f ⟨m1.e, s⟩
        | .bad => .bad
      | none => .bad
    | .rz c f m1 => .rz c f m1
    | .bad => .bad
  | .tup es, m => match evs es m with
    | .ok rs m1 => match escs m1.e rs with
      | some (ds, e) => if ds.length ≤ LIM then .ok (.v (.tuple ds)) ⟨e, m1.s⟩ else .bad
      | none => .bad
    | .rz c f m1 => .rz c f m1
    | .bad => .bad
  | .lst es, m => match evs es m with
    | .ok rs m1 => match escs m1.e rs with
      | some (ds, e) => if ds.length ≤ LIM then .ok (.fl ds) ⟨e, m1.s⟩ else .bad
      | none => .bad
    | .rz c f m1 => .rz c f m1
    | .bad => .bad
  | .emp t, m => .ok (.fd t []) m
  | .dsp t k v, m => match ev k m with
    | .ok (.v dk) m1 => match ev v m1 with
      | .ok (.v dv) m2 => if keyOk t dk = true then .ok (.fd t [(dk, dv)]) m2 else .bad
      | _ => .bad
    | _ => .bad
  | .and2 a b, m => match ev a m with
    | .ok (.v (.bool true)) m1 => ev b m1
    | .ok (.v (.bool false)) m1 => .ok (.v (.bool false)) m1
    | .ok _ _ => .bad
    | .rz c f m1 => .rz c f m1
    | .bad => .bad
  | .or2 a b, m => match ev a m with
    | .ok (.v d) m1 => if strFits d = true then (if truth d = true then .ok (.v d) m1 else ev b m1) else .bad
    | .ok _ _ => .bad
    | .rz c f m1 => .rz c f m1
    | .bad => .bad
  | .ite c a b, m => match evT c m with
    | .ok true m1 => ev a m1
    | .ok false m1 => ev b m1
    | .rz c f m1 => .rz c f m1
    | .bad => .bad
  | .chn o1 o2 a b c, m => match ev a m with
    | .ok (.v da) m1 => match ev b m1 with
      | .ok (.v db) m2 => match opD o1 [da, db] with
        | some (.v (.bool true)) => match ev c m2 with
          | .ok (.v dc) m3 => match opD o2 [db, dc] with
            | some r => .ok r m3
            | none => .bad
          | .ok _ _ => .bad
          | .rz c f m3 => .rz c f m3
          | .bad => .bad
        | some (.v (.bool false)) => .ok (.v (.bool false)) m2
        | _ => .bad
      | .ok _ _ => .bad
      | .rz c f m2 => .rz c f m2
      | .bad => .bad
    | .ok _ _ => .bad
    | .rz c f m1 => .rz c f m1
    | .bad => .bad
  | .mut o i es, m => if mutOk o m.e[i]? = true then match evs es m with
      | .ok rs m1 => mutD o i rs m1
      | .rz c f m1 => .rz c f m1
      | .bad => .bad
    else .bad
  | .lc t it c elt own, m => match evI it m with
      | .ok (ds, src) m1 => if own.all (fun i => !isOwn m1.e[i]?) = true ∧ ds.length ≤ LIM then match lcL src own (fun d m => match bind1 m.e t d with
            | some e => evT c ⟨e, m.s⟩
            | none => .bad) (fun m => ev elt m) ds [] ⟨clear m1.e own, m1.s⟩ with
        | .ok acc m2 => .ok (.fl acc) ⟨back m2.e m1.e own, m2.s⟩
        | _ => .bad
        else .bad
      | .rz c f m1 => .rz c f m1
      | .bad => .bad
  | .dc t it c k v own, m => match evI it m with
      | .ok (ds, src) m1 => if own.all (fun i => !isOwn m1.e[i]?) = true ∧ ds.length ≤ LIM then match dcL src own (fun d m => match bind1 m.e t d with
            | some e => evT c ⟨e, m.s⟩
            | none => .bad) (fun m => ev k m) (fun m => ev v m) false ds [] ⟨clear m1.e own, m1.s⟩ with
        | .ok acc m2 => .ok (.fd false acc) ⟨back m2.e m1.e own, m2.s⟩
        | _ => .bad
        else .bad
      | .rz c f m1 => .rz c f m1
      | .bad => .bad
  | .dcT t it c k v own, m => match evI it m with
      | .ok (ds, src) m1 => if own.all (fun i => !isOwn m1.e[i]?) = true ∧ ds.length ≤ LIM then match dcL src own (fun d m => match bind1 m.e t d with
            | some e => evT c ⟨e, m.s⟩
            | none => .bad) (fun m => ev k m) (fun m => ev v m) true ds [] ⟨clear m1.e own, m1.s⟩ with
        | .ok acc m2 => .ok (.fd true acc) ⟨back m2.e m1.e own, m2.s⟩
        | _ => .bad
        else .bad
      | .rz c f m1 => .rz c f m1
      | .bad => .bad
  | .updT i e, m => match m.e[i]? with
    | some (.od true _) => match ev e m with
      | .ok (.fd true more) m1 => match m1.e[i]? with
        | some (.od true kvs) => if kvs.length + more.length ≤ LIM ∧ (kvs ≠ [] ∨ apartT more) then .ok (.v .none) ⟨m1.e.set i (.od true (mergeD kvs more)), m1.s⟩ else .bad
        | _ => .bad
      | .ok _ _ => .bad
      | .rz c f m1 => .rz c f m1
      | .bad => .bad
    | _ => .bad
  | .ofT t, m => match evT t m with
    | .ok b m1 => .ok (.v (.bool b)) m1
    | .rz c f m1 => .rz c f m1
    | .bad => .bad
  | .xi i a b v, m => xiR a b v m m.e[i]?
  | .xf i a b n, m => xfR a b n m m.e[i]?
  | .fld o i es, m => match m.e[i]? with
    | some (.dk k) => if kindOk o (obG m.s k) = true then match evs es m with
      | .ok rs m1 => fldD o k rs m1
      | .rz c f m1 => .rz c f m1
      | .bad => .bad
      else .bad
    | _ => .bad
  | .meth sh f o es, m => if kindE sh (ev o m) = true then match consR (ev o m) (fun m => evs es m) with
    | .ok rs m1 => match toArgs m1.e rs with
      | some as => match cl f as m1.s with
        | .ok r s => if hasPl rs = true ∧ flatR r = false then .bad else match r with
          | .pl _ => .bad
          | .dk _ => .bad
          | r => .ok r ⟨m1.e, s⟩
        | .rz c f s => if hasPl rs = true ∧ flatO f = false then .bad else .rz c f ⟨m1.e, s⟩
        | .bad => .bad
      | none => .bad
    | .rz c f m1 => .rz c f m1
    | .bad => .bad
    else .bad
  | .chk e, m => match ev e m with
    | .ok r m1 => .ok r m1
    | _ => .bad
  | .eqO f a b, m => match ev a m with
    | .ok (.dk j) m1 => match ev b m1 with
      | .ok (.dk k) m2 => if obKind false (obG m2.s j) = true ∧ obKind false (obG m2.s k) = true then match cl f [.dk j, .dk k] m2.s with
        | .ok (.v d) s => .ok (.v d) ⟨m2.e, s⟩
        | _ => .bad
        else .bad
      | _ => .bad
    | _ => .bad
  | .isO sh i, m => match m.e[i]? with
    | some (.dk k) => if (obG m.s k).isSome = true then .ok (.v (.bool (obKind sh (obG m.s k)))) m else .bad
    | some (.sh _) => .ok (.v (.bool false)) m
    | _ => .bad
  | .isL i, m => match m.e[i]? with
    | some (.dk k) => if obKind false (obG m.s k) = true then .ok (.v (.bool false)) m else .bad
    | some (.ol _) => .ok (.v (.bool true)) m
    | _ => .bad
  | .cnew f1 es f2 rest, m => match evs es m with
    | .ok rs m1 => match toArgs m1.e rs with
      | some as => match cl f1 (.nil :: as) m1.s with
        | .ok (.v d) s => if flat d = true ∧ hasPl rs = false ∧ m1.e.all (dkLe s.obs.length) = true then match evs rest ⟨m1.e, { s with obs := s.obs ++ [.board [d] [] false] }⟩ with
          | .ok rs2 m3 => match toArgs m3.e rs2 with
            | some as2 => match cl f2 (.dk (s.obs.length + 1) :: as2) m3.s with
              | .ok r s4 => if flatR r = true ∧ hasPl rs2 = false ∧ s4.obs.length = s.obs.length + 1 ∧ (s4.obs.take s.obs.length).all (shLe s.obs.length) = true ∧ m3.e.all (dkLe s.obs.length) = true then .ok r ⟨m3.e, { s4 with obs := s4.obs.take s.obs.length }⟩ else .bad
              | _ => .bad
            | none => .bad
          | _ => .bad
          else .bad
        | _ => .bad
      | none => .bad
    | .rz c f m1 => .rz c f m1
    | .bad => .bad
  | .xk i a b d, m => match xiR a b true m m.e[i]? with
    | .ok _ m1 => if flat d = true then .ok (.v d) m1 else .bad
    | .rz _ _ _ => .bad
    | .bad => .bad
  | .callX i a f es, m => if exAt a m.e[i]? = true then match evs es m with
    | .ok rs m1 => match toArgs m1.e rs with
      | some as => match cl f as m1.s with
        | .ok r s => if hasPl rs = true ∧ flatR r = false then .bad else match r with
          | .pl _ => .bad
          | .dk _ => .bad
          | r => .ok r ⟨m1.e, s⟩
        | .rz c f s => if hasPl rs = true ∧ flatO f = false then .bad else .rz c f ⟨m1.e, s⟩
        | .bad => .bad
      | none => .bad
    | .rz c f m1 => .rz c f m1
    | .bad => .bad
    else .bad
  | .cnewS f1 es f2 rest, m => match evs es m with
    | .ok rs m1 => match toArgs m1.e rs with
      | some as => match cl f1 (.nil :: as) m1.s with
        | .ok (.v d) s => if flat d = true ∧ hasPl rs = false ∧ m1.e.all (dkLe s.obs.length) = true then match evs rest ⟨m1.e, { s with obs := s.obs ++ [.board [d] [] false, .shell s.obs.length] }⟩ with
          | .ok rs2 m3 => match toArgs m3.e rs2 with
            | some as2 => match cl f2 (.dk (s.obs.length + 2) :: as2) m3.s with
              | .ok r s4 => if flatR r = true ∧ hasPl rs2 = false ∧ s4.obs.length = s.obs.length + 2 ∧ (s4.obs.take s.obs.length).all (shLe s.obs.length) = true ∧ m3.e.all (dkLe s.obs.length) = true then .ok r ⟨m3.e, { s4 with obs := s4.obs.take s.obs.length }⟩ else .bad
              | _ => .bad
            | none => .bad
          | _ => .bad
          else .bad
        | _ => .bad
      | none => .bad
    | .rz c f m1 => .rz c f m1
    | .bad => .bad
noncomputable def evs : Es → M → Res (List R)
  | .nil, m => .ok [] m
  | .cons e es, m => match ev e m with
    | .ok r m1 => match evs es m1 with
      | .ok rs m2 => .ok (r :: rs) m2
      | .rz c f m2 => .rz c f m2
      | .bad => .bad
    | .rz c f m1 => .rz c f m1
    | .bad => .bad
noncomputable def evT : T → M → Res Bool
  | .yes, m => .ok true m
  | .e e, m => match ev e m with
    | .ok r m1 => match deref m1.e r with
      | some d => if strFits d = true then .ok (truth d) m1 else .bad
      | none => .bad
    | .rz c f m1 => .rz c f m1
    | .bad => .bad
  | .and a b, m => match evT a m with
    | .ok true m1 => evT b m1
    | .ok false m1 => .ok false m1
    | .rz c f m1 => .rz c f m1
    | .bad => .bad
  | .or a b, m => match evT a m with
    | .ok true m1 => .ok true m1
    | .ok false m1 => evT b m1
    | .rz c f m1 => .rz c f m1
    | .bad => .bad
  | .not a, m => match evT a m with
    | .ok b m1 => .ok (!b) m1
    | .rz c f m1 => .rz c f m1
    | .bad => .bad
noncomputable def evI : It → M → Res (List PyData × Src)
  | .e e, m => match ev e m with
    | .ok r m1 => match items m1.e r with
      | some p => .ok p m1
      | none => .bad
    | .rz c f m1 => .rz c f m1
    | .bad => .bad
  | .rng es, m => match evs es m with
    | .ok rs m1 => match rngD rs with
      | some ds => .ok (ds, none) m1
      | none => .bad
    | .rz c f m1 => .rz c f m1
    | .bad => .bad
  | .enm e k, m => match ev e m with
    | .ok r m1 => match items m1.e r with
      | some (ds, src) => .ok (enumD k ds, src) m1
      | none => .bad
    | .rz c f m1 => .rz c f m1
    | .bad => .bad
  | .zip es, m => match evs es m with
    | .ok [.v (.tuple xs), .v (.tuple ys)] m1 => .ok (zipD [xs, ys], none) m1
    | .ok [.v (.list xs), .v (.list ys)] m1 => .ok (zipD [xs, ys], none) m1
    | .ok [.fl xs, .fl ys] m1 => .ok (zipD [xs, ys], none) m1
    | .ok [.v (.list xs), .fl ys] m1 => .ok (zipD [xs, ys], none) m1
    | .ok [.fl xs, .v (.list ys)] m1 => .ok (zipD [xs, ys], none) m1
    | .ok _ _ => .bad
    | .rz c f m1 => .rz c f m1
    | .bad => .bad
  | .zp3 es, m => match evs es m with
    | .ok [.v (.tuple xs), .v (.tuple ys), .v (.tuple zs)] m1 => .ok (zip3D xs ys zs, none) m1
    | .ok _ _ => .bad
    | .rz c f m1 => .rz c f m1
    | .bad => .bad
  | .txt e, m => match ev e m with
    | .ok (.v (.str x)) m1 => .ok (x.cps.toList.map fun c => .str (sgn c), none) m1
    | .ok _ _ => .bad
    | .rz c f m1 => .rz c f m1
    | .bad => .bad
  | .rg3 es, m => match evs es m with
    | .ok rs m1 => match rg3D rs with
      | some ds => .ok (ds, none) m1
      | none => .bad
    | .rz c f m1 => .rz c f m1
    | .bad => .bad
  | .zpl es, m => match evs es m with
    | .ok [.v (.list xs), .v (.list ys)] m1 => .ok (zipD [xs, ys], none) m1
    | .ok [.fl xs, .fl ys] m1 => .ok (zipD [xs, ys], none) m1
    | .ok [.v (.list xs), .fl ys] m1 => .ok (zipD [xs, ys], none) m1
    | .ok [.fl xs, .v (.list ys)] m1 => .ok (zipD [xs, ys], none) m1
    | .ok _ _ => .bad
    | .rz c f m1 => .rz c f m1
    | .bad => .bad
end
/-- slot i takes what an expression gave -/
noncomputable def setR (i : Nat) (r : R) (e : Env) : Option Env := match r with
  | .fl ds => some (e.set i (.ol ds))
  | .fd t kvs => some (e.set i (.od t kvs))
  | .dk k => some (e.set i (.dk k))
  | r => match esc e r with
    | some (d, e1) => some (e1.set i (.sh d))
    | none => none
mutual
noncomputable def asgT : Tg → Nat → Bool
  | .nm i, j => i == j
  | .tp ts, j => asgTs ts j
noncomputable def asgTs : Tgs → Nat → Bool
  | .nil, _ => false
  | .cons t ts, j => asgT t j || asgTs ts j
end
mutual
noncomputable def asgS : S → Nat → Bool
  | .set t _, j => asgT t j
  | .par is _, j => is.contains j
  | .ite _ t f, j => asgSs t j || asgSs f j
  | .lop t _ b, j => asgT t j || asgSs b j
  | .wh _ b, j => asgSs b j
  | .tr b i ws _ _ _, j => asgSs b j || i == j || ws.contains j
  | .new i _ _ b, j => i == j || asgSs b j
  | .newS i _ b, j => i == j || asgSs b j
  | .fin b f, j => asgSs b j || asgSs f j
  | .star i k _, j => i == j || k == j
  | .forF i _ ws _, j => i == j || ws.contains j
  | .newSP i _ k _ b, j => i == j || (k == j || asgSs b j)
  | .newBS i _ _ b, j => i == j || asgSs b j
  | .newPB i k _ _ _ b, j => i == j || (k == j || asgSs b j)
  | .newMd i k _ _ _ _ b, j => i == j || (k == j || asgSs b j)
  | _, _ => false
noncomputable def asgSs : Ss → Nat → Bool
  | .nil, _ => false
  | .cons s ss, j => asgS s j || asgSs ss j
end
noncomputable def srcFree (A : Nat → Bool) : Src → Bool
  | none => true
  | some (i, _) => !A i
noncomputable def setRs : List Nat → List R → Env → Option Env
  | [], [], e => some e
  | i :: is, r :: rs, e => match setR i r e with
    | some e1 => setRs is rs e1
    | none => none
  | _, _, _ => none
noncomputable def noPl : List R → Bool
  | [] => true
  | .pl _ :: _ => false
  | _ :: rs => noPl rs
noncomputable def rzR (c : Nat) (m : M) : List R → Res Flow
  | [] => .rz c none m
  | [r] => match esc m.e r with
    | some (d, e) => .rz c (some d) ⟨e, m.s⟩
    | none => .bad
  | _ => .bad
noncomputable def exSlot (a b : Addr) : Option Str → Option PyData → Option Slot
  | none, none => some (.ex a none)
  | some n, some d => some (.ex a (some (b, n, d)))
  | _, _ => none
/-- the exception's name goes -/
noncomputable def unE (i : Nat) : Res Flow → Res Flow
  | .ok (.rt (.pl _)) _ => .bad
  | .ok fl m => .ok fl ⟨m.e.set i .un, m.s⟩
  | _ => .bad
open Classical in
/-- a suite: its end is the same wherever the exception lies -/
noncomputable def trF (i : Nat) (F : Addr → Addr → Res Flow) : Res Flow := if ∀ a b, unE i (F a b) = unE i (F 0 0) then unE i (F 0 0) else .bad
/-- turns over functions: the slot holds the function's address, which tells nothing -/
noncomputable def forL (F : Nat → M → Res Flow) : Nat → Nat → M → Res Flow
  | 0, _, m => .ok .nx m
  | n + 1, k, m => match F k m with
    | .ok .nx m1 => forL F n (k + 1) m1
    | .ok .ct m1 => forL F n (k + 1) m1
    | .ok .brk m1 => .ok .nx m1
    | .ok (.rt r) m1 => .ok (.rt r) m1
    | .rz c f m1 => .rz c f m1
    | .bad => .bad
noncomputable def starR (i j : Nat) (m : M) : R → Res Flow
  | .v (.tuple (d :: ds)) => .ok .nx ⟨(m.e.set i (.sh d)).set j (.ol ds), m.s⟩
  | _ => .bad
/-- a place from 1000 on: no name -/
noncomputable def trG (i n : Nat) (F : Addr → Addr → Res Flow) : Res Flow := if 1000 ≤ i ∧ i < n then .bad else trF i F
mutual
noncomputable def ex : S → M → Res Flow
  | .set (.nm i) e, m => match ev cl e m with
    | .ok r m1 => match setR i r m1.e with
      | some e => .ok .nx ⟨e, m1.s⟩
      | none => .bad
    | .rz c f m1 => .rz c f m1
    | .bad => .bad
  | .set t e, m => match ev cl e m with
    | .ok r m1 => match esc m1.e r with
      | some (d, e1) => match bind1 e1 t d with
        | some e => .ok .nx ⟨e, m1.s⟩
        | none => .bad
      | none => .bad
    | .rz c f m1 => .rz c f m1
    | .bad => .bad
  | .par is es, m => match evs cl es m with
    | .ok rs m1 => if noPl rs = true then match setRs is rs m1.e with
        | some e => .ok .nx ⟨e, m1.s⟩
        | none => .bad
      else .bad
    | .rz c f m1 => .rz c f m1
    | .bad => .bad
  | .sub i k e, m => match ev cl e m with
    | .ok r m1 => match esc m1.e r with
      | some (d, e1) => if isOwn e1[i]? = true then match ev cl k ⟨e1, m1.s⟩ with
          | .ok (.v dk) m2 => match m2.e[i]?, dk with
            | some (.ol ds), .int j => match L2.ixN ds.length j with
              | some n => .ok .nx ⟨m2.e.set i (.ol (ds.set n d)), m2.s⟩
              | none => .bad
            | some (.od t kvs), k => if keyOk t k = true ∧ kvs.length < LIM then .ok .nx ⟨m2.e.set i (.od t (putD kvs k d)), m2.s⟩ else .bad
            | _, _ => .bad
          | .ok _ _ => .bad
          | .rz c f m2 => .rz c f m2
          | .bad => .bad
        else .bad
      | none => .bad
    | .rz c f m1 => .rz c f m1
    | .bad => .bad
  | .ex e, m => match ev cl e m with
    | .ok _ m1 => .ok .nx m1
    | .rz c f m1 => .rz c f m1
    | .bad => .bad
  | .ret e, m => match ev cl e m with
    | .ok r m1 => .ok (.rt r) m1
    | .rz c f m1 => .rz c f m1
    | .bad => .bad
  | .retN, m => .ok (.rt (.v .none)) m
  | .ite c t f, m => match evT cl c m with
    | .ok true m1 => exs t m1
    | .ok false m1 => exs f m1
    | .rz c f m1 => .rz c f m1
    | .bad => .bad
  | .lop t it b, m => match evI cl it m with
    | .ok (ds, src) m1 => if srcFree (fun j => asgT t j || asgSs b j) src = true then lopL src (fun d m => match bind1 m.e t d with
        | some e => exs b ⟨e, m.s⟩
        | none => .bad) ds m1 else .bad
    | .rz c f m1 => .rz c f m1
    | .bad => .bad
  | .wh c b, m => whL (fun m => evT cl c m) (fun m => exs b m) 100000 m
  | .pass, m => .ok .nx m
  | .brk, m => .ok .brk m
  | .cont, m => .ok .ct m
  | .raise c es, m => match evs cl es m with
    | .ok rs m1 => rzR c m1 rs
    | .rz c f m1 => .rz c f m1
    | .bad => .bad
  | .tr b i _ hc fn su, m => match exs b m with
    | .rz c f m1 => if hc c = true then trG i m1.e.length fun a b' => match exSlot a b' (fn c) f with
        | some sl => exs (su c a b') ⟨m1.e.set i sl, m1.s⟩
        | none => .bad
      else .rz c f m1
    | r => r
  | .fin b f, m => match exs b m with
    | .ok .nx m1 => exs f m1
    | _ => .bad
  | .swp i e ja jb, m => match ev cl e m with
    | .ok r m1 => match swpR i ja jb r m1.e with
      | some e1 => .ok .nx ⟨e1, m1.s⟩
      | none => .bad
    | .rz c f m1 => .rz c f m1
    | .bad => .bad
  | .ask i b, m => match m.e[i]? with
    | some (.dk k) => match obG m.s k with
      | some (.board sts eds _) => .ok .nx ⟨m.e, obS m.s k (.board sts eds b)⟩
      | _ => .bad
    | _ => .bad
  | .new i f es b, m => match evs cl es m with
    | .ok rs m1 => match toArgs m1.e rs with
      | some as => if hasPl rs = false ∧ i < m1.e.length then match cl f (.nil :: as) m1.s with
        | .ok (.v d) s => if flat d = true ∧ (m1.e.set i .un).all (dkLe s.obs.length) = true then scp i s.obs.length (exs b (addM i (.board [d] [] false) ⟨m1.e, s⟩)) else .bad
        | .ok _ _ => .bad
        | .rz c f s => .rz c f ⟨m1.e, s⟩
        | .bad => .bad
        else .bad
      | none => .bad
    | .rz c f m1 => .rz c f m1
    | .bad => .bad
  | .newS i j b, m => match m.e[j]? with
    | some (.dk (k + 1)) => if i < m.e.length ∧ (m.e.set i .un).all (dkLe m.s.obs.length) = true ∧ obKind false (obG m.s (k + 1)) = true then scp i m.s.obs.length (exs b (addM i (.shell k) m)) else .bad
    | _ => .bad
  | .star i j e, m => match ev cl e m with
    | .ok r m1 => starR i j m1 r
    | .rz c f m1 => .rz c f m1
    | .bad => .bad
  | .forF i n _ su, m => forL (fun k m => trF i fun a _ => exs (su k a) ⟨m.e.set i (.ex a none), m.s⟩) n 0 m
  | .newSP i j k e b, m => match m.e[j]? with
    | some (.dk (o + 1)) => if i < m.e.length ∧ i ≠ k ∧ (m.e.set i .un).all (dkLe m.s.obs.length) = true ∧ obKind false (obG m.s (o + 1)) = true then match ev cl e ⟨m.e.set i .un, { m.s with obs := m.s.obs ++ [.shell o] }⟩ with
      | .ok (.v d) m1 => if flat d = true ∧ m1.e.all (dkLe m.s.obs.length) = true ∧ unAt m1.e[i]? = true then scp i m.s.obs.length (exs b ⟨(m1.e.set k (.sh d)).set i (.dk (m.s.obs.length + 1)), m1.s⟩) else .bad
      | _ => .bad
      else .bad
    | _ => .bad
  | .newBS i f es b, m => match evs cl es m with
    | .ok rs m1 => match toArgs m1.e rs with
      | some as => if hasPl rs = false ∧ i < m1.e.length then match cl f (.nil :: as) m1.s with
        | .ok (.v d) s => if flat d = true ∧ (m1.e.set i .un).all (dkLe s.obs.length) = true then scp2 i i s.obs.length (exs b ⟨m1.e.set i (.dk (s.obs.length + 2)), { s with obs := s.obs ++ [.board [d] [] false, .shell s.obs.length] }⟩) else .bad
        | .ok _ _ => .bad
        | .rz c f s => .rz c f ⟨m1.e, s⟩
        | .bad => .bad
        else .bad
      | none => .bad
    | .rz c f m1 => .rz c f m1
    | .bad => .bad
  | .newMd i j f es md e b, m => match evs cl es m with
    | .ok rs m1 => match toArgs m1.e rs with
      | some as => if hasPl rs = false ∧ i < m1.e.length ∧ i ≠ j then match cl f (.nil :: as) m1.s with
        | .ok (.v d) s => if flat d = true ∧ (m1.e.set i .un).all (dkLe s.obs.length) = true then match ev cl e ⟨m1.e.set i .un, { s with obs := s.obs ++ [.board [d] [] false] }⟩ with
          | .ok (.v d2) m2 => if flat d2 = true ∧ m2.e.all (dkLe s.obs.length) = true ∧ unAt m2.e[i]? = true then scp i s.obs.length (exs b ⟨(m2.e.set j (.sh d2)).set i (.dk (s.obs.length + 1)), m2.s⟩) else .bad
          | _ => .bad
          else .bad
        | .rz c fx s => match md c fx with
          | some ds => match ev cl e ⟨m1.e.set i .un, s⟩ with
            | .ok (.v d2) m2 => if flat d2 = true ∧ unAt m2.e[i]? = true then exs b ⟨(m2.e.set j (.sh d2)).set i (.ol ds), m2.s⟩ else .bad
            | _ => .bad
          | none => .bad
        | _ => .bad
        else .bad
      | none => .bad
    | .rz c f m1 => .rz c f m1
    | .bad => .bad
  | .newPB i j f es1 es2 b, m => match evs cl es1 m with
    | .ok rs m1 => match toArgs m1.e rs with
      | some as => if hasPl rs = false ∧ i < m1.e.length ∧ j < m1.e.length ∧ i ≠ j then match cl f (.nil :: as) m1.s with
        | .ok (.v d) s => if flat d = true ∧ (m1.e.set i .un).all (dkLe s.obs.length) = true then match evs cl es2 ⟨m1.e.set i .un, { s with obs := s.obs ++ [.board [d] [] false] }⟩ with
          | .ok rs2 m2 => match toArgs m2.e rs2 with
            | some as2 => if hasPl rs2 = false ∧ i < m2.e.length ∧ j < m2.e.length then match cl f (.nil :: as2) m2.s with
              | .ok (.v d2) s2 => if flat d2 = true ∧ m2.e.all (dkLe s2.obs.length) = true ∧ s2.obs.length = s.obs.length + 1 then scp i s.obs.length (scp j (s.obs.length + 1) (exs b ⟨(m2.e.set i (.dk (s.obs.length + 1))).set j (.dk (s.obs.length + 2)), { s2 with obs := s2.obs ++ [.board [d2] [] false] }⟩)) else .bad
              | _ => .bad
              else .bad
            | none => .bad
          | _ => .bad
          else .bad
        | _ => .bad
        else .bad
      | none => .bad
    | .rz c f m1 => .rz c f m1
    | .bad => .bad
noncomputable def exs : Ss → M → Res Flow
  | .nil, m => .ok .nx m
  | .cons s ss, m => match ex s m with
    | .ok .nx m1 => exs ss m1
    | r => r
end
end
/-- a def: its slots, its parameters, its body -/
structure FD where
  ns : Nat
  np : Nat
  body : Ss
noncomputable def slotA : Arg → Slot
  | .sh d => .sh d
  | .dk k => .dk k
  | .nil => .un
noncomputable def finR (r : R) (m : M) : FRes := match r with
  | .pl i => match m.e[i]? with
    | some (.ol ds) => .ok (.fl ds) m.s
    | some (.od t kvs) => .ok (.fd t kvs) m.s
    | some (.sh d) => .ok (.v d) m.s
    | _ => .bad
  | .dk _ => .bad
  | r => .ok r m.s
noncomputable def runB (cl : Nat → List Arg → DS → FRes) (fd : FD) (as : List Arg) (s : DS) : FRes :=
  if as.length = fd.np then match exs cl fd.body ⟨as.map slotA ++ List.replicate (fd.ns - fd.np) .un, s⟩ with
    | .ok .nx m => .ok (.v .none) m.s
    | .ok (.rt r) m => finR r m
    | .ok _ _ => .bad
    | .rz c f m => .rz c f m.s
    | .bad => .bad
  else .bad
inductive FSem where
  | prim (g : List Arg → DS → FRes) | df (fd : FD)
noncomputable def run (tb : Nat → Option FSem) : Nat → Nat → List Arg → DS → FRes
  | 0, _, _, _ => .bad
  | n + 1, f, as, s => match tb f with
    | some (.prim g) => g as s
    | some (.df fd) => runB (run tb n) fd as s
    | none => .bad
end PV
namespace PV
open PySem PySem.Spec L2
/-- an object's addresses: its class, itself, its own dict, its lists -/
structure OA where
  shell : Bool
  C : Addr
  p : Addr
  dx : Addr
  l1 : Addr
  l2 : Addr
noncomputable def OA.all (o : OA) : List Addr := if o.shell = true then [o.p] else [o.p, o.l1, o.l2]
structure Gd where
  fst : Addr
  snd : Addr × Addr
  obs : List OA
  tbs : List (Addr × Str)
noncomputable def Gd.ad (g : Gd) : Nat → Addr
  | 0 => g.1
  | k + 1 => match g.obs[k]? with
    | some o => o.p
    | none => 0
noncomputable def DkS (g : Gd) : AP := fun a => a = g.1 ∨ a = g.2.1 ∨ a = g.2.2 ∨ (∃ o ∈ g.obs, a ∈ o.all) ∨ ∃ p ∈ g.tbs, a = p.1
/-- the lambdas: the def that makes it, its own name -/
noncomputable def lamNs : List (Str × Str) := [("_law_due", (("_law_due" ++ ".<locals>." : Str) ++ "<lambda>"))]
/-- the table of a def's code object -/
noncomputable def tblAt (K : PySem.W.Frag) (q : Str × Str) : Option (Addr × Str) :=
  match PySem.W.nsIn K mainGlobals q.1 with
  | some (some (.ref f)) => match K.lookup f with
    | some ⟨_, _, .func fd, _⟩ => match fd.code with
      | .ref c => match K.lookup c with
        | some ⟨_, _, .fields vs, _⟩ => match (vs[11]? : Option Value) with
          | some (.ref P) => some (P, q.2)
          | _ => none
        | _ => none
      | _ => none
    | _ => none
  | _ => none
noncomputable def TBL (K : PySem.W.Frag) : List (Addr × Str) := lamNs.filterMap (tblAt K)
theorem TabS.keep {M : AP} {H H' : Hp} {P : Addr} {q : Str} (h : LamX.TabS H P q) (k : Keep M H H') (m : ¬ M P) : LamX.TabS H' P q := by
  obtain ⟨ps, h1, h2, h3⟩ := h
  refine ⟨ps, k.stay _ _ h1 (.inl m), h2, fun pos cv e => ?_⟩
  obtain ⟨c, e1, e2⟩ := h3 pos cv e
  exact ⟨c, e1, k.stay _ _ e2 (.inr rfl)⟩
theorem TabS.upd {H : Hp} {P : Addr} {q : Str} (h : LamX.TabS H P q) {a : Addr} {u o : HO} (hu : H a = some u) (n1 : ∀ ps, u ≠ .tbl ps) (n2 : still u = false) : LamX.TabS (upd H a o) P q := by
  obtain ⟨ps, h1, h2, h3⟩ := h
  have e1 : P ≠ a := fun z => by rw [z, hu] at h1; cases h1; exact n1 _ rfl
  refine ⟨ps, by rw [upd_ne e1]; exact h1, h2, fun pos cv e => ?_⟩
  obtain ⟨c, e2, e3⟩ := h3 pos cv e
  have e4 : c ≠ a := fun z => by rw [z, hu] at e3; cases e3; cases n2
  exact ⟨c, e2, by rw [upd_ne e4]; exact e3⟩
/-- what the objects' addresses are -/
structure GOb (K : PySem.W.Frag) (g : Gd) : Prop where
  cls : ∀ o ∈ g.obs, PySem.W.nsIn K mainGlobals (if o.shell = true then "Shell" else "Board") = some (some (.ref o.C))
  tb : g.tbs = TBL K
theorem GOb.nil {K : PySem.W.Frag} {a : Addr} {b : Addr × Addr} : GOb K ⟨a, b, [], TBL K⟩ := ⟨(fun _ z => nomatch z), rfl⟩
structure OSt (g : Gd) : Prop where
  nd : (g.obs.flatMap OA.all).Nodup
  dk : ∀ o ∈ g.obs, ∀ a ∈ o.all, a ≠ g.1 ∧ a ≠ g.2.1 ∧ a ≠ g.2.2
theorem OSt.nil {a : Addr} {b : Addr × Addr} {t : List (Addr × Str)} : OSt ⟨a, b, [], t⟩ := ⟨List.Pairwise.nil, fun _ z => nomatch z⟩
/-- a list of an object -/
noncomputable def LR (H : Hp) (l : Addr) (ds : List PyData) : Prop := ∃ xs, H l = some (.lst xs) ∧ xs.length ≤ sizeLine ∧ flatA ds = true ∧ ∀ K, ShA K (fun _ => False) H xs ds
theorem Sh.flatL {K : PySem.W.Frag} {O O' : AP} {H : Hp} {xs : List V} {ds : List PyData} (f : flatA ds = true) (h : ShA K O H xs ds) : ShA K O' H xs ds :=
  Paired.imp_mem h fun _ _ m q => Sh.flat (flatA_mem f _ m) q
theorem LR.keep {M : AP} {H H' : Hp} {l : Addr} {ds : List PyData} (h : LR H l ds) (k : Keep M H H') (m : ¬ M l) : LR H' l ds := by
  obtain ⟨xs, h1, h2, h3, h4⟩ := h
  exact ⟨xs, k.stay _ _ h1 (.inl m), h2, h3, fun K => Sh.flatL h3 (ShA.keep (O := M) k (fun _ z => z) (Sh.flatL h3 (h4 K)))⟩
noncomputable def bFs (l1 l2 : Addr) (ask : Bool) : List (Str × V) := [("states", .ref l1), ("standing", .ref l2), ("asking", .bl ask)]
noncomputable def ObRep (g : Gd) (H : Hp) (oa : OA) : OB → Prop
  | .board sts eds ask => oa.shell = false ∧ H oa.p = some (.ins oa.C oa.dx (bFs oa.l1 oa.l2 ask)) ∧ LR H oa.l1 sts ∧ LR H oa.l2 eds
  | .shell j => oa.shell = true ∧ H oa.p = some (.ins oa.C oa.dx [("board", .ref (g.ad (j + 1)))]) ∧ j < g.obs.length
theorem ObRep.keep {g : Gd} {H H' : Hp} {M : AP} {oa : OA} {ob : OB} (h : ObRep g H oa ob) (k : Keep M H H') (m : ∀ a ∈ oa.all, ¬ M a) : ObRep g H' oa ob := by
  cases ob with
  | board sts eds ask =>
    obtain ⟨h0, h1, h2, h3⟩ := h
    have e : oa.all = [oa.p, oa.l1, oa.l2] := by unfold OA.all; rw [h0]; rfl
    rw [e] at m
    exact ⟨h0, k.stay _ _ h1 (.inl (m _ (by simp))), h2.keep k (m _ (by simp)), h3.keep k (m _ (by simp))⟩
  | shell j =>
    obtain ⟨h0, h1, h2⟩ := h
    have e : oa.all = [oa.p] := by unfold OA.all; rw [h0]; rfl
    rw [e] at m
    exact ⟨h0, k.stay _ _ h1 (.inl (m _ (by simp))), h2⟩
structure DkRep (g : Gd) (s : DS) (H : Hp) : Prop where
  cells : H g.2.1 = some (.lst (s.cells.map V.int))
  ne : g.1 ≠ g.2.1
  top : ((g.2.2 = g.1 ∧ s.rests = []) ∧ H g.1 = some (.lst [.ref g.2.1, .int s.cnt])) ∨ (g.2.2 ≠ g.1 ∧ g.2.2 ≠ g.2.1 ∧ H g.1 = some (.lst [.ref g.2.1, .int s.cnt, .ref g.2.2]) ∧ H g.2.2 = some (.lst (s.rests.map V.int)))
  obs : Paired (ObRep g H) g.obs s.obs
  st : OSt g
  tabs : LamX.Tabs g.tbs H
/-- the deck alone is written -/
theorem DkRep.tabsD {g : Gd} {s : DS} {H : Hp} (h : DkRep g s H) {a : Addr} {xs : List V} {o : HO} (hu : H a = some (.lst xs)) : LamX.Tabs g.tbs (upd H a o) := fun p hp => TabS.upd (h.tabs p hp) hu (fun _ z => nomatch z) rfl
theorem DkRep.obsD {g : Gd} {s : DS} {H : Hp} (h : DkRep g s H) {a : Addr} {o u : HO} (hu : H a = some u) (hs : still u = false) (ha : a = g.1 ∨ a = g.2.1 ∨ a = g.2.2) : Paired (ObRep g (upd H a o)) g.obs s.obs := by
  have key : ∀ {l : List OA} {bs : List OB}, Paired (ObRep g H) l bs → (∀ x ∈ l, x ∈ g.obs) → Paired (ObRep g (upd H a o)) l bs := by
    intro l bs p
    induction p with
    | nil => intro _; exact .nil
    | @cons x b l bs r _ ih =>
      intro hm
      refine .cons (r.keep (M := fun c => c = a) (Keep.write hu hs rfl) fun c hc e => ?_) (ih fun y hy => hm y (List.mem_cons_of_mem _ hy))
      obtain ⟨h1, h2, h3⟩ := h.st.dk x (hm x List.mem_cons_self) c hc
      rcases ha with z | z | z
      · exact h1 (e.trans z)
      · exact h2 (e.trans z)
      · exact h3 (e.trans z)
  exact key h.obs fun _ z => z
theorem Paired.memL {α β : Type} {F G : α → β → Prop} {l₁ : List α} {l₂ : List β} (h : Paired F l₁ l₂) : (∀ a b, a ∈ l₁ → F a b → G a b) → Paired G l₁ l₂ := by
  induction h with
  | nil => intro _; exact .nil
  | cons r _ ih => intro f; exact .cons (f _ _ List.mem_cons_self r) (ih fun a b m => f a b (List.mem_cons_of_mem _ m))
theorem DkRep.keep {g : Gd} {s : DS} {H H' : Hp} {M : AP} (h : DkRep g s H) (k : Keep M H H') (m : ∀ a, M a → ¬ DkS g a) : DkRep g s H' := by
  have n : ∀ a, DkS g a → ¬ M a := fun a d z => m a z d
  refine ⟨k.stay _ _ h.cells (.inl (n _ (.inr (.inl rfl)))), h.ne, ?_, Paired.memL h.obs fun o b ho q => q.keep k fun a ha => n a (.inr (.inr (.inr (.inl ⟨o, ho, ha⟩)))), h.st, fun p hp => TabS.keep (h.tabs p hp) k (n _ (.inr (.inr (.inr (.inr ⟨p, hp, rfl⟩)))))⟩
  rcases h.top with ⟨e, t⟩ | ⟨e1, e2, t1, t2⟩
  · exact .inl ⟨e, k.stay _ _ t (.inl (n _ (.inl rfl)))⟩
  · exact .inr ⟨e1, e2, k.stay _ _ t1 (.inl (n _ (.inl rfl))), k.stay _ _ t2 (.inl (n _ (.inr (.inr (.inl rfl)))))⟩
noncomputable def own (e : Env) (σ : St) : AP := fun a => ∃ i : Nat, isOwn e[i]? = true ∧ σ[i]? = some (some (.ref a))
noncomputable def Ow (O : AP) (e : Env) (σ : St) : AP := fun a => O a ∨ own e σ a
noncomputable def plus (O : AP) (F : List Addr) : AP := fun a => O a ∨ a ∈ F
noncomputable def Mu (g : Gd) (e : Env) (σ : St) : AP := fun a => own e σ a ∨ DkS g a
noncomputable def DcT (K : PySem.W.Frag) (O : AP) (H : Hp) : Bool → HO → List (PyData × PyData) → Prop
  | false, o, kvs => ∃ ks, o = .dK ks ∧ Paired (fun p q => q.1 = keyD p.1 ∧ Sh K O H p.2 q.2) ks kvs
  | true, o, kvs => ∃ ks, o = .dT ks ∧ Paired (fun p q => q.1 = keyT p.1 ∧ Sh K O H p.2 q.2) ks kvs
theorem DcT.is {K : PySem.W.Frag} {O : AP} {H : Hp} {t : Bool} {o : HO} {kvs : List (PyData × PyData)} (h : DcT K O H t o kvs) : DcIs K O H o kvs := by
  cases t with
  | false => exact .inl h
  | true => exact .inr h
theorem DcT.go {K : PySem.W.Frag} {O O' M : AP} {H H' : Hp} {t : Bool} {o : HO} {kvs : List (PyData × PyData)} (h : DcT K O H t o kvs) (k : Keep M H H') (m : ∀ a, M a → O a) (n : ∀ a, O' a → O a ∨ H a = none) : DcT K O' H' t o kvs := by
  cases t with
  | false => obtain ⟨ks, e, q⟩ := h; exact ⟨ks, e, Paired.imp q fun _ _ q => ⟨q.1, q.2.go k m n⟩⟩
  | true => obtain ⟨ks, e, q⟩ := h; exact ⟨ks, e, Paired.imp q fun _ _ q => ⟨q.1, q.2.go k m n⟩⟩
theorem DcT.weak {K : PySem.W.Frag} {O O' : AP} {H : Hp} {t : Bool} {o : HO} {kvs : List (PyData × PyData)} (h : DcT K O H t o kvs) (n : ∀ a, O' a → O a) : DcT K O' H t o kvs :=
  h.go (M := fun _ => False) Keep.refl (fun _ z => z.elim) fun a z => .inl (n a z)
noncomputable def SlotR (K : PySem.W.Frag) (g : Gd) (O0 O : AP) (σ : St) (H : Hp) (i : Nat) : Slot → Prop
  | .un => True
  | .sh d => ∃ v, σ[i]? = some (some v) ∧ Sh K O H v d
  | .ol ds => ∃ p xs, σ[i]? = some (some (.ref p)) ∧ ¬ O0 p ∧ H p = some (.lst xs) ∧ xs.length ≤ sizeLine ∧ ShA K O H xs ds
  | .od t kvs => ∃ p o, σ[i]? = some (some (.ref p)) ∧ ¬ O0 p ∧ H p = some o ∧ DcT K O H t o kvs
  | .dk k => σ[i]? = some (some (.ref (g.ad k)))
  | .ex a f => σ[i]? = some (some (.ref a)) ∧ ∀ b n d, f = some (b, n, d) → ∃ v, H b = some (.xd [(n, v)]) ∧ Sh K O H v d
structure Rep (K : PySem.W.Frag) (g : Gd) (O0 : AP) (e : Env) (σ : St) (H : Hp) : Prop where
  len : e.length = σ.length
  at' : ∀ (i : Nat) s, e[i]? = some s → SlotR K g O0 (Ow O0 e σ) σ H i s
  inj : ∀ (i j : Nat) a, isOwn e[i]? = true → isOwn e[j]? = true → σ[i]? = some (some (.ref a)) → σ[j]? = some (some (.ref a)) → i = j
section
variable {K : PySem.W.Frag} {g : Gd} {O0 O0' M : AP} {e e' : Env} {σ σ' : St} {H H' : Hp}
theorem isOwn_cases {s : Option Slot} (h : isOwn s = true) : (∃ ds, s = some (.ol ds)) ∨ ∃ t kvs, s = some (.od t kvs) := by
  cases s with
  | none => simp [isOwn] at h
  | some s => cases s with
    | ol ds => exact .inl ⟨ds, rfl⟩
    | od t kvs => exact .inr ⟨t, kvs, rfl⟩
    | un => simp [isOwn] at h
    | sh d => simp [isOwn] at h
    | dk => simp [isOwn] at h
    | ex a f => simp [isOwn] at h
/-- an owned object: it stands, it is no still one, and O0 has it not -/
theorem Rep.owned (r : Rep K g O0 e σ H) {a : Addr} (h : own e σ a) : ¬ O0 a ∧ ∃ o, H a = some o ∧ still o = false := by
  obtain ⟨i, h1, h2⟩ := h
  rcases isOwn_cases h1 with ⟨ds, e1⟩ | ⟨t, kvs, e1⟩
  · obtain ⟨p, xs, q, n, hp, _⟩ := r.at' i _ e1
    rw [h2] at q; cases q
    exact ⟨n, _, hp, rfl⟩
  · obtain ⟨p, o, q, n, hp, d⟩ := r.at' i _ e1
    rw [h2] at q; cases q
    exact ⟨n, _, hp, d.is.still⟩
theorem SlotR.go {O O' : AP} {i : Nat} {s : Slot} (h : SlotR K g O0 O σ H i s) (k : Keep M H H') (m : ∀ a, M a → O0 a) (mo : ∀ a, O0 a → O a) (n0 : ∀ a, O0' a → O0 a ∨ H a = none) (n : ∀ a, O' a → O a ∨ H a = none) : SlotR K g O0' O' σ H' i s := by
  cases s with
  | un => trivial
  | sh d => obtain ⟨v, q, z⟩ := h; exact ⟨v, q, z.go k (fun a z => mo a (m a z)) n⟩
  | ol ds =>
    obtain ⟨p, xs, q, c, hp, z, s⟩ := h
    exact ⟨p, xs, q, fun z => (n0 p z).elim c fun z => by (rw [hp] at z; cases z), k.stay p _ hp (.inl fun z => c (m p z)), z, s.go k (fun a z => mo a (m a z)) n⟩
  | od t kvs =>
    obtain ⟨p, o, q, c, hp, s⟩ := h
    exact ⟨p, o, q, fun z => (n0 p z).elim c fun z => by (rw [hp] at z; cases z), k.stay p _ hp (.inl fun z => c (m p z)), s.go k (fun a z => mo a (m a z)) n⟩
  | dk => exact h
  | ex a f => exact ⟨h.1, fun b n' d e => by
    obtain ⟨v, h1, h2⟩ := h.2 b n' d e
    exact ⟨v, k.stay _ _ h1 (.inr rfl), h2.go k (fun a z => mo a (m a z)) n⟩⟩
/-- the heap goes on, nothing owned is written -/
theorem Rep.go (r : Rep K g O0 e σ H) (k : Keep M H H') (m : ∀ a, M a → O0 a) (n : ∀ a, O0' a → O0 a ∨ H a = none) : Rep K g O0' e σ H' :=
  ⟨r.len, fun i s h => (r.at' i s h).go k m (fun _ z => .inl z) n fun a z => z.elim (fun z => (n a z).imp .inl id) fun z => .inl (.inr z), r.inj⟩
theorem Rep.weak (r : Rep K g O0 e σ H) (n : ∀ a, O0' a → O0 a) : Rep K g O0' e σ H := r.go (M := fun _ => False) Keep.refl (fun _ z => z.elim) fun a z => .inl (n a z)
theorem get_set {α : Type} {l : List α} {i j : Nat} {a b : α} (h : (l.set i a)[j]? = some b) : (j = i ∧ b = a ∧ i < l.length) ∨ (j ≠ i ∧ l[j]? = some b) := by
  by_cases z : i = j
  · subst z
    rw [List.getElem?_set] at h
    split at h
    · split at h
      · exact .inl ⟨rfl, (Option.some.inj h).symm, by assumption⟩
      · cases h
    · exact absurd rfl ‹¬ _›
  · rw [List.getElem?_set_ne z] at h
    exact .inr ⟨fun q => z q.symm, h⟩
theorem isOwn_set {i j : Nat} {s : Slot} (h : isOwn (e.set i s)[j]? = true) : (j = i ∧ isOwn (some s) = true) ∨ (j ≠ i ∧ isOwn e[j]? = true) := by
  cases q : (e.set i s)[j]? with
  | none => rw [q] at h; simp [isOwn] at h
  | some u =>
    rw [q] at h
    rcases get_set q with ⟨z, y, _⟩ | ⟨z, y⟩
    · subst y; exact .inl ⟨z, h⟩
    · exact .inr ⟨z, by rw [y]; exact h⟩
/-- a slot that owns nothing is written -/
theorem own_set {i : Nat} {s : Slot} (ns : isOwn (some s) = false) {x : Option V} {a : Addr} (h : own (e.set i s) (σ.set i x) a) : own e σ a := by
  obtain ⟨j, h1, h2⟩ := h
  rcases isOwn_set h1 with ⟨z, y⟩ | ⟨z, y⟩
  · rw [ns] at y; cases y
  · rcases get_set h2 with ⟨q, _, _⟩ | ⟨_, q⟩
    · exact absurd q z
    · exact ⟨j, y, q⟩
theorem own_set' {i : Nat} {s : Slot} (ns : isOwn (some s) = false) {a : Addr} (h : own (e.set i s) σ a) : own e σ a := by
  obtain ⟨j, h1, h2⟩ := h
  rcases isOwn_set h1 with ⟨z, y⟩ | ⟨z, y⟩
  · rw [ns] at y; cases y
  · exact ⟨j, y, h2⟩
theorem SlotR.weak {O O' : AP} {i : Nat} {s : Slot} (h : SlotR K g O0 O σ H i s) (n : ∀ a, O' a → O a) (mo : ∀ a, O0 a → O a) : SlotR K g O0 O' σ H i s := h.go (M := fun _ => False) Keep.refl (fun _ z => z.elim) mo (fun _ z => .inl z) fun a z => .inl (n a z)
theorem SlotR.other {O : AP} {i j : Nat} {s : Slot} {x : Option V} (h : SlotR K g O0 O σ H j s) (n : j ≠ i) : SlotR K g O0 O (σ.set i x) H j s := by
  have q : (σ.set i x)[j]? = σ[j]? := List.getElem?_set_ne (Ne.symm n)
  cases s with
  | un => trivial
  | sh d => obtain ⟨v, h1, h2⟩ := h; exact ⟨v, by rw [q]; exact h1, h2⟩
  | ol ds => obtain ⟨p, xs, h1, h2⟩ := h; exact ⟨p, xs, by rw [q]; exact h1, h2⟩
  | od t kvs => obtain ⟨p, xs, h1, h2⟩ := h; exact ⟨p, xs, by rw [q]; exact h1, h2⟩
  | dk => show (σ.set i x)[j]? = _; rw [q]; exact h
  | ex a f => exact ⟨by rw [q]; exact h.1, h.2⟩
/-- slot i takes a value that owns nothing -/
theorem Rep.setN (r : Rep K g O0 e σ H) {i : Nat} {s : Slot} {x : Option V} (ns : isOwn (some s) = false) (hs : i < e.length → SlotR K g O0 (Ow O0 e σ) (σ.set i x) H i s) : Rep K g O0 (e.set i s) (σ.set i x) H := by
  have ow : ∀ a, Ow O0 (e.set i s) (σ.set i x) a → Ow O0 e σ a := fun a z => z.imp id fun z => own_set ns z
  refine ⟨by simp [r.len], fun j u h => ?_, fun j k a h1 h2 h3 h4 => ?_⟩
  · rcases get_set h with ⟨rfl, rfl, l⟩ | ⟨z, y⟩
    · exact (hs l).weak ow fun _ z => .inl z
    · exact ((r.at' j u y).other z).weak ow fun _ z => .inl z
  · rcases isOwn_set h1 with ⟨z, y⟩ | ⟨z, y⟩
    · rw [ns] at y; cases y
    · rcases isOwn_set h2 with ⟨z', y'⟩ | ⟨z', y'⟩
      · rw [ns] at y'; cases y'
      · rcases get_set h3 with ⟨q, _⟩ | ⟨_, q⟩
        · exact absurd q z
        · rcases get_set h4 with ⟨q', _⟩ | ⟨_, q'⟩
          · exact absurd q' z'
          · exact r.inj j k a y y' q q'
theorem Rep.setSh (r : Rep K g O0 e σ H) {i : Nat} {v : V} {d : PyData} (h : Sh K (Ow O0 e σ) H v d) : Rep K g O0 (e.set i (.sh d)) (σ.set i (some v)) H :=
  r.setN rfl fun l => ⟨v, by rw [List.getElem?_set_self (by rw [← r.len]; exact l)], h⟩
theorem Rep.setUn (r : Rep K g O0 e σ H) {i : Nat} {x : Option V} : Rep K g O0 (e.set i .un) (σ.set i x) H := r.setN rfl fun _ => trivial
theorem Rep.setDk (r : Rep K g O0 e σ H) {i k : Nat} : Rep K g O0 (e.set i (.dk k)) (σ.set i (some (.ref (g.ad k)))) H := r.setN rfl fun l => by
  show (σ.set i (some (V.ref (g.ad k))))[i]? = _
  rw [List.getElem?_set_self (by rw [← r.len]; exact l)]
/-- the env forgets slot i, the frame does not -/
theorem Rep.drop (r : Rep K g O0 e σ H) {i : Nat} : Rep K g O0 (e.set i .un) σ H := by
  have ow : ∀ a, Ow O0 (e.set i .un) σ a → Ow O0 e σ a := fun a z => z.imp id fun z => own_set' rfl z
  refine ⟨by simp [r.len], fun j u h => ?_, fun j k a h1 h2 h3 h4 => ?_⟩
  · rcases get_set h with ⟨rfl, rfl, l⟩ | ⟨z, y⟩
    · trivial
    · exact (r.at' j u y).weak ow fun _ z => .inl z
  · rcases isOwn_set h1 with ⟨z, y⟩ | ⟨z, y⟩
    · simp [isOwn] at y
    · rcases isOwn_set h2 with ⟨z', y'⟩ | ⟨z', y'⟩
      · simp [isOwn] at y'
      · exact r.inj j k a y y' h3 h4
/-- slot i takes a new list or dict of its own, at p -/
theorem Rep.setOwn {p : Addr} (r : Rep K g (plus O0 [p]) e σ H) (n0 : ¬ O0 p) (no : ¬ own e σ p) {i : Nat} {s : Slot}
    (hs : i < e.length → SlotR K g O0 (Ow (plus O0 [p]) e σ) (σ.set i (some (.ref p))) H i s) : Rep K g O0 (e.set i s) (σ.set i (some (.ref p))) H := by
  have ow' : ∀ a, own (e.set i s) (σ.set i (some (.ref p))) a → a = p ∨ own e σ a := fun a ⟨j, h1, h2⟩ => by
    rcases isOwn_set h1 with ⟨z, y⟩ | ⟨z, y⟩
    · rcases get_set h2 with ⟨_, q, _⟩ | ⟨q, _⟩
      · cases q; exact .inl rfl
      · exact absurd z q
    · rcases get_set h2 with ⟨q, _, _⟩ | ⟨_, q⟩
      · exact absurd q z
      · exact .inr ⟨j, y, q⟩
  have ow : ∀ a, Ow O0 (e.set i s) (σ.set i (some (.ref p))) a → Ow (plus O0 [p]) e σ a := fun a z => by
    rcases z with z | z
    · exact .inl (.inl z)
    · rcases ow' a z with z | z
      · exact .inl (.inr (by simp [z]))
      · exact .inr z
  refine ⟨by simp [r.len], fun j u h => ?_, fun j k a h1 h2 h3 h4 => ?_⟩
  · rcases get_set h with ⟨rfl, rfl, l⟩ | ⟨z, y⟩
    · exact (hs l).weak ow fun a z => .inl (.inl z)
    · exact (((r.at' j u y).go (M := fun _ => False) (O0' := O0) (O' := Ow (plus O0 [p]) e σ) Keep.refl (fun _ z => z.elim) (fun _ z => .inl z) (fun a z => .inl (.inl z)) fun a z => .inl z).other z).weak ow fun a z => .inl (.inl z)
  · have at_i : ∀ j, isOwn (e.set i s)[j]? = true → (σ.set i (some (.ref p)))[j]? = some (some (.ref a)) → (j = i ∧ a = p) ∨ (j ≠ i ∧ isOwn e[j]? = true ∧ σ[j]? = some (some (.ref a))) := fun j h1 h2 => by
      rcases isOwn_set h1 with ⟨z, y⟩ | ⟨z, y⟩
      · rcases get_set h2 with ⟨_, q, _⟩ | ⟨q, _⟩
        · cases q; exact .inl ⟨z, rfl⟩
        · exact absurd z q
      · rcases get_set h2 with ⟨q, _, _⟩ | ⟨_, q⟩
        · exact absurd q z
        · exact .inr ⟨z, y, q⟩
    rcases at_i j h1 h3 with ⟨z, y⟩ | ⟨z, y, q⟩
    · rcases at_i k h2 h4 with ⟨z', _⟩ | ⟨_, y', q'⟩
      · rw [z, z']
      · exact absurd ⟨k, y', by rw [q', y]⟩ no
    · rcases at_i k h2 h4 with ⟨_, y'⟩ | ⟨_, y', q'⟩
      · exact absurd ⟨j, y, by rw [q, y']⟩ no
      · exact r.inj j k a y y' q q'
theorem own_eq {i : Nat} {s u : Slot} (h : e[i]? = some u) (c : isOwn (some s) = isOwn (some u)) {a : Addr} : own (e.set i s) σ a ↔ own e σ a := by
  have l : i < e.length := (List.getElem?_eq_some_iff.mp h).1
  constructor
  · rintro ⟨j, h1, h2⟩
    rcases isOwn_set h1 with ⟨z, y⟩ | ⟨z, y⟩
    · exact ⟨j, by rw [z, h, ← c]; exact y, h2⟩
    · exact ⟨j, y, h2⟩
  · rintro ⟨j, h1, h2⟩
    refine ⟨j, ?_, h2⟩
    by_cases z : j = i
    · subst z
      rw [List.getElem?_set_self l, c, ← h]; exact h1
    · rw [List.getElem?_set_ne (Ne.symm z)]; exact h1
/-- what slot i owns, at p, is written: before, the new content must be readable -/
theorem Rep.write (r : Rep K g O0 e σ H) {i : Nat} {s u : Slot} {p : Addr} {o : HO} (hi : e[i]? = some u) (hu : isOwn (some u) = true) (hs : isOwn (some s) = true) (hp : σ[i]? = some (some (.ref p)))
    (new : Keep (own e σ) H (upd H p o) → SlotR K g O0 (Ow O0 e σ) σ (upd H p o) i s) : Rep K g O0 (e.set i s) σ (upd H p o) := by
  have oi : own e σ p := ⟨i, by rw [hi]; exact hu, hp⟩
  obtain ⟨n0, o', ho, st⟩ := r.owned oi
  have k : Keep (own e σ) H (upd H p o) := Keep.write ho st oi
  have ow : ∀ a, own (e.set i s) σ a ↔ own e σ a := fun a => own_eq hi (by rw [hs, hu])
  refine ⟨by simp [r.len], fun j w h => ?_, fun j l a h1 h2 h3 h4 => ?_⟩
  · have wk : ∀ a, Ow O0 (e.set i s) σ a → Ow O0 e σ a := fun a z => z.imp id (ow a).mp
    rcases get_set h with ⟨rfl, rfl, l⟩ | ⟨z, y⟩
    · exact (new k).weak wk fun _ z => .inl z
    · refine SlotR.weak (O := Ow O0 e σ) ?_ wk fun _ z => .inl z
      have q := r.at' j w y
      cases w with
      | un => trivial
      | sh d => obtain ⟨v, h1, h2⟩ := q; exact ⟨v, h1, h2.go k (fun _ z => .inr z) fun _ z => .inl z⟩
      | ol ds =>
        obtain ⟨p2, xs, h1, h2, h3, h4, h5⟩ := q
        have ne : p2 ≠ p := fun z' => z (r.inj j i p (by rw [y]; rfl) (by rw [hi]; exact hu) (by rw [h1, z']) hp)
        exact ⟨p2, xs, h1, h2, by rw [upd_ne ne]; exact h3, h4, h5.go k (fun _ z => .inr z) fun _ z => .inl z⟩
      | od t kvs =>
        obtain ⟨p2, xs, h1, h2, h3, h5⟩ := q
        have ne : p2 ≠ p := fun z' => z (r.inj j i p (by rw [y]; rfl) (by rw [hi]; exact hu) (by rw [h1, z']) hp)
        exact ⟨p2, xs, h1, h2, by rw [upd_ne ne]; exact h3, h5.go k (fun _ z => .inr z) fun _ z => .inl z⟩
      | dk => exact q
      | ex a f =>
        refine ⟨q.1, fun b n' d e => ?_⟩
        obtain ⟨v, h1, h2⟩ := q.2 b n' d e
        exact ⟨v, k.stay _ _ h1 (.inr rfl), h2.go k (fun _ z => .inr z) fun _ z => .inl z⟩
  · have c : ∀ j, isOwn (e.set i s)[j]? = true → isOwn e[j]? = true := fun j h => by
      rcases isOwn_set h with ⟨z, y⟩ | ⟨z, y⟩
      · rw [z, hi]; exact hu
      · exact y
    exact r.inj j l a (c j h1) (c l h2) h3 h4
/-- what slot i owns is shared from now on -/
theorem Rep.share (r : Rep K g O0 e σ H) {i : Nat} {d : PyData} (hi : (∃ ds, e[i]? = some (.ol ds) ∧ d = .list ds) ∨ ∃ t kvs, e[i]? = some (.od t kvs) ∧ d = .dict kvs) :
    ∃ v, σ[i]? = some (some v) ∧ Sh K (Ow O0 (e.set i (.sh d)) σ) H v d ∧ Rep K g O0 (e.set i (.sh d)) σ H := by
  have ow : ∀ a, Ow O0 (e.set i (.sh d)) σ a → Ow O0 e σ a := fun a z => z.imp id fun z => own_set' rfl z
  have main : ∃ v, σ[i]? = some (some v) ∧ Sh K (Ow O0 (e.set i (.sh d)) σ) H v d := by
    have nope : ∀ p, isOwn e[i]? = true → σ[i]? = some (some (.ref p)) → ¬ O0 p → ¬ Ow O0 (e.set i (.sh d)) σ p := fun p ho hp n0 z => by
      rcases z with z | ⟨j, h1, h2⟩
      · exact n0 z
      · rcases isOwn_set h1 with ⟨_, y⟩ | ⟨z, y⟩
        · simp [isOwn] at y
        · exact z (r.inj j i p y ho h2 hp)
    rcases hi with ⟨ds, h, rfl⟩ | ⟨t, kvs, h, rfl⟩
    · obtain ⟨p, xs, h1, h2, h3, h4, h5⟩ := r.at' i _ h
      exact ⟨.ref p, h1, sh_list.mpr ⟨p, xs, rfl, ⟨nope p (by rw [h]; rfl) h1 h2, h3⟩, h4, h5.weak ow⟩⟩
    · obtain ⟨p, o, h1, h2, h3, h5⟩ := r.at' i _ h
      exact ⟨.ref p, h1, sh_dict.mpr ⟨p, o, rfl, nope p (by rw [h]; rfl) h1 h2, h3, h5.is.weak ow⟩⟩
  obtain ⟨v, h1, h2⟩ := main
  refine ⟨v, h1, h2, by simp [r.len], fun j u h => ?_, fun j k a h1 h2 h3 h4 => ?_⟩
  · rcases get_set h with ⟨rfl, rfl, l⟩ | ⟨z, y⟩
    · exact ⟨v, h1, h2⟩
    · exact (r.at' j u y).weak ow fun _ z => .inl z
  · rcases isOwn_set h1 with ⟨z, y⟩ | ⟨z, y⟩
    · simp [isOwn] at y
    · rcases isOwn_set h2 with ⟨z', y'⟩ | ⟨z', y'⟩
      · simp [isOwn] at y'
      · exact r.inj j k a y y' h3 h4
end
noncomputable def RV1 (K : PySem.W.Frag) (g : Gd) (O : AP) (σ : St) (H : Hp) (v : V) (F : List Addr) : R → Prop
  | .v d => F = [] ∧ Sh K O H v d
  | .pl i => F = [] ∧ σ[i]? = some (some v)
  | .dk k => F = [] ∧ v = .ref (g.ad k)
  | .fl ds => ∃ p xs, F = [p] ∧ v = .ref p ∧ H p = some (.lst xs) ∧ xs.length ≤ sizeLine ∧ ShA K O H xs ds
  | .fd t kvs => ∃ p o, F = [p] ∧ v = .ref p ∧ H p = some o ∧ DcT K O H t o kvs
inductive RVs (K : PySem.W.Frag) (g : Gd) (O : AP) (σ : St) (H : Hp) : List V → List Addr → List R → Prop
  | nil : RVs K g O σ H [] [] []
  | cons {v vs F1 F2 r rs} : RV1 K g O σ H v F1 r → RVs K g O σ H vs F2 rs → (∀ p ∈ F1, p ∉ F2) → RVs K g O σ H (v :: vs) (F1 ++ F2) (r :: rs)
/-- from (e, H) to (m.e, H'), the frame as it was, F new -/
structure Stp (K : PySem.W.Frag) (g : Gd) (O0 : AP) (e : Env) (σ : St) (H : Hp) (F : List Addr) (m : M) (H' : Hp) : Prop where
  keep : Keep (Mu g e σ) H H'
  own : ∀ a, own m.e σ a → PV.own e σ a
  new : ∀ p ∈ F, H p = none ∧ ¬ O0 p ∧ ¬ PV.own m.e σ p ∧ H' p ≠ none
  rep : Rep K g (plus O0 F) m.e σ H'
  dk : DkRep g m.s H'
section
variable {K : PySem.W.Frag} {g : Gd} {O O' O0 M : AP} {e : Env} {σ : St} {H H1 H' : Hp} {v : V} {F F1 F2 : List Addr} {r : R} {m1 m2 : PV.M}
theorem RV1.go (h : RV1 K g O σ H v F r) (k : Keep M H H') (m : ∀ a, M a → O a) (hf : ∀ p ∈ F, ¬ M p) (n : ∀ a, O' a → O a ∨ H a = none) : RV1 K g O' σ H' v F r := by
  cases r with
  | v d => exact ⟨h.1, h.2.go k m n⟩
  | pl i => exact h
  | dk => exact h
  | fl ds => obtain ⟨p, xs, rfl, q, hp, z, s⟩ := h; exact ⟨p, xs, rfl, q, k.stay p _ hp (.inl (hf p (by simp))), z, s.go k m n⟩
  | fd t kvs => obtain ⟨p, o, rfl, q, hp, s⟩ := h; exact ⟨p, o, rfl, q, k.stay p _ hp (.inl (hf p (by simp))), s.go k m n⟩
theorem RVs.go {vs : List V} {rs : List R} (h : RVs K g O σ H vs F rs) (k : Keep M H H') (m : ∀ a, M a → O a) (hf : ∀ p ∈ F, ¬ M p) (n : ∀ a, O' a → O a ∨ H a = none) : RVs K g O' σ H' vs F rs := by
  induction h with
  | nil => exact .nil
  | cons q _ d ih => exact .cons (q.go k m (fun p hp => hf p (List.mem_append_left _ hp)) n) (ih fun p hp => hf p (List.mem_append_right _ hp)) d
theorem Stp.refl {s : DS} (r : Rep K g O0 e σ H) (d : DkRep g s H) : Stp K g O0 e σ H [] ⟨e, s⟩ H :=
  ⟨Keep.refl, fun _ z => z, (fun _ z => nomatch z), r.weak fun a z => z.elim id (fun z => nomatch z), d⟩
theorem mu_sub (own : ∀ a, PV.own m1.e σ a → PV.own e σ a) : ∀ a, Mu g m1.e σ a → Mu g e σ a := fun a z => z.imp (own a) id
theorem Stp.trans (a : Stp K g O0 e σ H F1 m1 H1) (b : Stp K g (plus O0 F1) m1.e σ H1 F2 m2 H') : Stp K g O0 e σ H (F1 ++ F2) m2 H' := by
  refine ⟨a.keep.trans b.keep fun x z => .inl (mu_sub a.own x z), fun x z => a.own x (b.own x z), fun p hp => ?_, b.rep.weak fun x z => ?_, b.dk⟩
  · rcases List.mem_append.mp hp with hp | hp
    · obtain ⟨h1, h2, h3, h4⟩ := a.new p hp
      exact ⟨h1, h2, fun z => h3 (b.own p z), fun z => h4 (b.keep.old p z)⟩
    · obtain ⟨h1, h2, h3, h4⟩ := b.new p hp
      exact ⟨a.keep.old p h1, fun z => h2 (.inl z), h3, h4⟩
  · rcases z with z | z
    · exact .inl (.inl z)
    · rcases List.mem_append.mp z with z | z
      · exact .inl (.inr z)
      · exact .inr z
/-- what is new is in no writer's hand -/
theorem Stp.noMu (a : Stp K g O0 e σ H F m1 H1) (hd : ∀ x, DkS g x → O0 x) : ∀ p ∈ F, ¬ Mu g m1.e σ p := fun p hp z => by
  obtain ⟨_, h2, h3, _⟩ := a.new p hp
  exact z.elim h3 fun z => h2 (hd p z)
theorem Stp.repO (a : Stp K g O0 e σ H F m1 H1) : Rep K g O0 m1.e σ H1 := a.rep.weak fun _ z => .inl z
/-- the new ones are forgotten (they are shared) -/
theorem Stp.forget (a : Stp K g O0 e σ H F m1 H1) : Stp K g O0 e σ H [] m1 H1 :=
  ⟨a.keep, a.own, (fun _ z => nomatch z), a.rep.weak fun x z => z.elim .inl (fun z => nomatch z), a.dk⟩
end
end PV
namespace PV
open PySem PySem.Spec L2
noncomputable abbrev XC := Nat → Option (Value × Option Str)
noncomputable def XcR (xc : XC) (K : PySem.W.Frag) (O : AP) (H : Hp) (c : Nat) (f : Option PyData) (cls : Value) (dd : Option Addr) : Prop :=
  ∃ fn, xc c = some (cls, fn) ∧ match fn, f with
    | none, none => dd = none
    | some n, some d => ∃ a v, dd = some a ∧ H a = some (.xd [(n, v)]) ∧ Sh K O H v d
    | _, _ => False
theorem XcR.weak {xc : XC} {K : PySem.W.Frag} {O O' : AP} {H : Hp} {c : Nat} {f : Option PyData} {cls : Value} {dd : Option Addr} (h : XcR xc K O H c f cls dd) (n : ∀ a, O' a → O a) : XcR xc K O' H c f cls dd := by
  obtain ⟨fn, e, h⟩ := h
  refine ⟨fn, e, ?_⟩
  cases fn with
  | none => cases f with
    | none => exact h
    | some d => exact h.elim
  | some m => cases f with
    | none => exact h.elim
    | some d => obtain ⟨a, v, h1, h2, h3⟩ := h; exact ⟨a, v, h1, h2, h3.weak n⟩
structure Good (K : PySem.W.Frag) (g : Gd) (O0 : AP) (e : Env) (s : DS) (σ : L2.St) (H : Hp) : Prop where
  dk0 : ∀ a, DkS g a → O0 a
  oe : ∀ a, O0 a → H a ≠ none
  rep : Rep K g O0 e σ H
  dk : DkRep g s H
  ob : GOb K g
section
variable {K : PySem.W.Frag} {g : Gd} {O0 : AP} {e : Env} {s : DS} {σ : L2.St} {H H' : Hp} {F : List Addr} {m : M}
theorem Good.step (G : Good K g O0 e s σ H) (t : Stp K g O0 e σ H F m H') : Good K g (plus O0 F) m.e m.s σ H' :=
  ⟨fun a z => .inl (G.dk0 a z), fun a z => z.elim (fun z q => G.oe a z (t.keep.old a q)) fun z => (t.new a z).2.2.2, t.rep, t.dk, G.ob⟩
theorem Good.step0 (G : Good K g O0 e s σ H) (t : Stp K g O0 e σ H F m H') : Good K g O0 m.e m.s σ H' :=
  ⟨G.dk0, fun a z q => G.oe a z (t.keep.old a q), t.repO, t.dk, G.ob⟩
theorem Good.stp (G : Good K g O0 e s σ H) : Stp K g O0 e σ H [] ⟨e, s⟩ H := Stp.refl G.rep G.dk
theorem Good.mu (G : Good K g O0 e s σ H) : ∀ a, Mu g e σ a → Ow O0 e σ a := fun a z => z.elim .inr fun z => .inl (G.dk0 a z)
/-- new objects, nothing else -/
theorem Good.pure (G : Good K g O0 e s σ H) (k : Keep (fun _ => False) H H') (hF : ∀ p ∈ F, H p = none ∧ H' p ≠ none) : Stp K g O0 e σ H F ⟨e, s⟩ H' := by
  refine ⟨k.mono fun _ z => z.elim, fun _ z => z, fun p hp => ?_, G.rep.go k (fun _ z => z.elim) fun a z => z.imp id fun z => (hF a z).1, G.dk.keep k fun _ z => z.elim⟩
  obtain ⟨h1, h2⟩ := hF p hp
  refine ⟨h1, fun z => G.oe p z h1, fun z => ?_, h2⟩
  obtain ⟨_, o, ho, _⟩ := G.rep.owned z
  rw [h1] at ho; cases ho
end
noncomputable def PostE (xc : XC) (K : PySem.W.Frag) (W : WX) (g : Gd) (O0 : AP) (e : Env) (σ : L2.St) (H : Hp) (Q : VK) : Res R → Prop
  | .ok r m => ∀ v H' F, Stp K g O0 e σ H F m H' → RV1 K g (Ow (plus O0 F) m.e σ) σ H' v F r → Q v H'
  | .rz c f m => ∀ cls dd H', Stp K g O0 e σ H [] m H' → XcR xc K (Ow O0 m.e σ) H' c f cls dd → W cls dd σ H'
  | .bad => False
noncomputable def tE (xc : XC) (K : PySem.W.Frag) (W : WX) (f : M → Res R) : TE := fun σ H Q => ∃ g O0 e s, Good K g O0 e s σ H ∧ PostE xc K W g O0 e σ H Q (f ⟨e, s⟩)
noncomputable def PostEs (xc : XC) (K : PySem.W.Frag) (W : WX) (g : Gd) (O0 : AP) (e : Env) (σ : L2.St) (H : Hp) (Q : List V → Hp → Prop) : Res (List R) → Prop
  | .ok rs m => ∀ vs H' F, Stp K g O0 e σ H F m H' → RVs K g (Ow (plus O0 F) m.e σ) σ H' vs F rs → Q vs H'
  | .rz c f m => ∀ cls dd H', Stp K g O0 e σ H [] m H' → XcR xc K (Ow O0 m.e σ) H' c f cls dd → W cls dd σ H'
  | .bad => False
noncomputable def tEs (xc : XC) (K : PySem.W.Frag) (W : WX) (f : M → Res (List R)) : TA := fun σ H Q => ∃ g O0 e s, Good K g O0 e s σ H ∧ PostEs xc K W g O0 e σ H Q (f ⟨e, s⟩)
noncomputable def PostT (xc : XC) (K : PySem.W.Frag) (W : WX) (g : Gd) (O0 : AP) (e : Env) (σ : L2.St) (H : Hp) (Q : Bool → Hp → Prop) : Res Bool → Prop
  | .ok b m => ∀ H', Stp K g O0 e σ H [] m H' → Q b H'
  | .rz c f m => ∀ cls dd H', Stp K g O0 e σ H [] m H' → XcR xc K (Ow O0 m.e σ) H' c f cls dd → W cls dd σ H'
  | .bad => False
noncomputable def tT (xc : XC) (K : PySem.W.Frag) (W : WX) (f : M → Res Bool) : TT := fun σ H Q => ∃ g O0 e s, Good K g O0 e s σ H ∧ PostT xc K W g O0 e σ H Q (f ⟨e, s⟩)
theorem PEimp {X : Cx} {e : Expr} {t t' : TE} (h : PE X e t) (i : ∀ σ H Q, t' σ H Q → t σ H Q) : PE X e t' := ⟨fun pins s σ H Q I z => h.run pins s σ H Q I (i σ H Q z)⟩
theorem PAimp {X : Cx} {e : List Expr} {t t' : TA} (h : PA X e t) (i : ∀ σ H Q, t' σ H Q → t σ H Q) : PA X e t' := ⟨fun pos pins s σ H Q I z => h.run pos pins s σ H Q I (i σ H Q z)⟩
theorem PTimp {X : Cx} {e : Expr} {t t' : TT} (h : PT X e t) (i : ∀ σ H Q, t' σ H Q → t σ H Q) : PT X e t' := ⟨fun pins s σ H Q I z => h.run pins s σ H Q I (i σ H Q z)⟩
theorem PWimp {X : Cx} {e : Expr} {t t' : TT} (h : PW X e t) (i : ∀ σ H Q, t' σ H Q → t σ H Q) : PW X e t' := ⟨fun wh pins s σ H Q I z => h.run wh pins s σ H Q I (i σ H Q z)⟩
theorem PSimp {X : Cx} {st : Stmt} {t t' : TS} (h : PS X st t) (i : ∀ D σ H, t' D σ H → t D σ H) : PS X st t' := ⟨fun pins s σ H D I z => h.run pins s σ H D I (i D σ H z)⟩
theorem PSsimp {X : Cx} {st : List Stmt} {t t' : TS} (h : PSs X st t) (i : ∀ D σ H, t' D σ H → t D σ H) : PSs X st t' := ⟨fun pins s σ H D I z => h.run pins s σ H D I (i D σ H z)⟩
section
variable {xc : XC} {K : PySem.W.Frag} {W : WX} {g : Gd} {O0 : AP} {e : Env} {s : DS} {σ : L2.St} {H H1 H' : Hp} {F : List Addr} {m m1 : M}
/-- a raise further on is a raise -/
theorem rz_of {c : Nat} {f : Option PyData} (t1 : Stp K g O0 e σ H F m1 H1) (h : ∀ cls dd H', Stp K g O0 e σ H [] m H' → XcR xc K (Ow O0 m.e σ) H' c f cls dd → W cls dd σ H') :
    ∀ cls dd H', Stp K g (plus O0 F) m1.e σ H1 [] m H' → XcR xc K (Ow (plus O0 F) m.e σ) H' c f cls dd → W cls dd σ H' := fun cls dd H' t2 x =>
  h cls dd H' (t1.trans t2).forget (x.weak fun a z => z.imp .inl id)
theorem rz_of0 {c : Nat} {f : Option PyData} (t1 : Stp K g O0 e σ H [] m1 H1) (h : ∀ cls dd H', Stp K g O0 e σ H [] m H' → XcR xc K (Ow O0 m.e σ) H' c f cls dd → W cls dd σ H') :
    ∀ cls dd H', Stp K g O0 m1.e σ H1 [] m H' → XcR xc K (Ow O0 m.e σ) H' c f cls dd → W cls dd σ H' := fun cls dd H' t2 x =>
  h cls dd H' (by
    have t2' : Stp K g (plus O0 []) m1.e σ H1 [] m H' := ⟨t2.keep, t2.own, (fun _ z => nomatch z), t2.rep.weak fun a z => (by rcases z with (z | z) | z; exact .inl z; exact nomatch z; exact nomatch z), t2.dk⟩
    exact t1.trans t2') x
theorem Stp.trans0 {m2 : M} (t1 : Stp K g O0 e σ H [] m1 H1) (t2 : Stp K g O0 m1.e σ H1 F m2 H') : Stp K g O0 e σ H F m2 H' := by
  have t2' : Stp K g (plus O0 []) m1.e σ H1 F m2 H' := ⟨t2.keep, t2.own, fun p hp => (by
    obtain ⟨h1, h2, h3, h4⟩ := t2.new p hp
    exact ⟨h1, fun z => z.elim h2 (fun z => nomatch z), h3, h4⟩), t2.rep.weak fun a z => (by rcases z with (z | z) | z; exact .inl z; exact nomatch z; exact .inr z), t2.dk⟩
  exact t1.trans t2'
/-- the first of a row, when the rest is done -/
theorem rv_later {v : V} {F1 F2 : List Addr} {r : R} {m1 m2 : M} {H2 : Hp} (G : Good K g O0 e s σ H) (t1 : Stp K g O0 e σ H F1 m1 H1) (h : RV1 K g (Ow (plus O0 F1) m1.e σ) σ H1 v F1 r) (t2 : Stp K g (plus O0 F1) m1.e σ H1 F2 m2 H2) :
    RV1 K g (Ow (plus O0 (F1 ++ F2)) m2.e σ) σ H2 v F1 r := by
  refine h.go t2.keep (G.step t1).mu (t1.noMu G.dk0) fun a z => ?_
  rcases z with (z | z) | z
  · exact .inl (.inl (.inl z))
  · rcases List.mem_append.mp z with z | z
    · exact .inl (.inl (.inr z))
    · exact .inr (t2.new a z).1
  · exact .inl (.inr (t2.own a z))
theorem rvs_ext {vs : List V} {F1 F2 : List Addr} {rs : List R} {m2 : M} {H2 : Hp} (h : RVs K g (Ow (plus (plus O0 F1) F2) m2.e σ) σ H2 vs F2 rs) : RVs K g (Ow (plus O0 (F1 ++ F2)) m2.e σ) σ H2 vs F2 rs := by
  refine h.go (M := fun _ => False) Keep.refl (fun _ z => z.elim) (fun _ _ z => z) fun a z => ?_
  rcases z with (z | z) | z
  · exact .inl (.inl (.inl (.inl z)))
  · rcases List.mem_append.mp z with z | z
    · exact .inl (.inl (.inl (.inr z)))
    · exact .inl (.inl (.inr z))
  · exact .inl (.inr z)
theorem apart {F1 F2 : List Addr} {m1 m2 : M} {H2 : Hp} (t1 : Stp K g O0 e σ H F1 m1 H1) (t2 : Stp K g (plus O0 F1) m1.e σ H1 F2 m2 H2) : ∀ p ∈ F1, p ∉ F2 := fun p h1 h2 => (t1.new p h1).2.2.2 (t2.new p h2).1
/-- e, then es -/
theorem cons_ok {f : M → Res R} {fs : M → Res (List R)} {Q : List V → Hp → Prop}
    (h : tEs xc K W (fun m => match f m with
      | .ok r m1 => match fs m1 with
        | .ok rs m2 => .ok (r :: rs) m2
        | .rz c f m2 => .rz c f m2
        | .bad => .bad
      | .rz c f m1 => .rz c f m1
      | .bad => .bad) σ H Q) : tE xc K W f σ H fun x H1 => tEs xc K W fs σ H1 fun xs H2 => Q (x :: xs) H2 := by
  obtain ⟨g, O0, e, s, G, h⟩ := h
  refine ⟨g, O0, e, s, G, ?_⟩
  cases hf : f ⟨e, s⟩ with
  | ok r m1 =>
    simp only [hf] at h
    intro v H1 F1 t1 rv1
    refine ⟨g, plus O0 F1, m1.e, m1.s, G.step t1, ?_⟩
    cases hfs : fs ⟨m1.e, m1.s⟩ with
    | ok rs m2 =>
      have hfs' : fs m1 = .ok rs m2 := hfs
      simp only [hfs'] at h
      intro vs H2 F2 t2 rvs
      exact h (v :: vs) H2 (F1 ++ F2) (t1.trans t2) (.cons (rv_later G t1 rv1 t2) (rvs_ext rvs) (apart t1 t2))
    | rz c f m2 =>
      have hfs' : fs m1 = .rz c f m2 := hfs
      simp only [hfs'] at h
      exact rz_of t1 h
    | bad =>
      have hfs' : fs m1 = .bad := hfs
      simp only [hfs'] at h
      exact h
  | rz c f m1 => simp only [hf] at h; exact h
  | bad => simp only [hf] at h; exact h
theorem nil_ok {Q : List V → Hp → Prop} (h : tEs xc K W (fun m => .ok [] m) σ H Q) : Q [] H := by
  obtain ⟨g, O0, e, s, G, h⟩ := h
  exact h [] H [] G.stp .nil
end
section
variable {xc : XC} {K : PySem.W.Frag} {W : WX} {g : Gd} {O O' O0 : AP} {e : Env} {s : DS} {σ : L2.St} {H H1 H' : Hp} {F : List Addr} {m m1 : M}
theorem RV1.val {v : V} {r : R} {d : PyData} (h : RV1 K g (Ow (plus O0 F) e σ) σ H v F r) (rep : Rep K g (plus O0 F) e σ H) (hd : deref e r = some d) : ShT K (Ow O0 e σ) H v d := by
  have wk : ∀ a, Ow O0 e σ a → Ow (plus O0 F) e σ a := fun a z => z.imp .inl id
  cases r with
  | v d' =>
    obtain rfl : d' = d := by simpa [deref] using hd
    exact (h.2.weak wk).top
  | fl ds =>
    obtain rfl : PyData.list ds = d := by simpa [deref] using hd
    obtain ⟨p, xs, _, rfl, hp, z, q⟩ := h
    exact ⟨p, xs, rfl, hp, z, q.weak wk⟩
  | fd t kvs =>
    obtain rfl : PyData.dict kvs = d := by simpa [deref] using hd
    obtain ⟨p, o, _, rfl, hp, q⟩ := h
    exact ⟨p, o, rfl, hp, q.is.weak wk⟩
  | dk => simp [deref] at hd
  | pl i =>
    obtain ⟨_, hi⟩ := h
    cases hs : e[i]? with
    | none => simp [deref, hs] at hd
    | some sl =>
      have q := rep.at' i sl hs
      cases sl with
      | un => simp [deref, hs] at hd
      | ex a f => simp [deref, hs] at hd
      | dk => simp [deref, hs] at hd
      | sh d' =>
        obtain rfl : d' = d := by simpa [deref, hs] using hd
        obtain ⟨v', h1, h2⟩ := q
        rw [hi] at h1; cases h1
        exact (h2.weak wk).top
      | ol ds =>
        obtain rfl : PyData.list ds = d := by simpa [deref, hs] using hd
        obtain ⟨p, xs, h1, _, h3, h4, h5⟩ := q
        rw [hi] at h1; cases h1
        exact ⟨p, xs, rfl, h3, h4, h5.weak wk⟩
      | od t kvs =>
        obtain rfl : PyData.dict kvs = d := by simpa [deref, hs] using hd
        obtain ⟨p, o, h1, _, h3, h5⟩ := q
        rw [hi] at h1; cases h1
        exact ⟨p, o, rfl, h3, h5.is.weak wk⟩
/-- a value of a row is read alone -/
theorem RV1.alone {v : V} {r : R} {F1 : List Addr} (h : RV1 K g O σ H v F1 r) (hs : ∀ p ∈ F1, p ∈ F) (rep : Rep K g (plus O0 F) e σ H) (ho : O = Ow (plus O0 F) e σ) : RV1 K g (Ow (plus O0 F1) e σ) σ H v F1 r ∧ Rep K g (plus O0 F1) e σ H := by
  subst ho
  exact ⟨h.go (M := fun _ => False) Keep.refl (fun _ z => z.elim) (fun _ _ z => z) fun a z => .inl (z.imp (fun z => z.imp id fun z => hs a z) id), rep.weak fun a z => z.imp id fun z => hs a z⟩
theorem RVs.vals : ∀ {vs : List V} {F1 : List Addr} {rs : List R} {ds : List PyData}, RVs K g (Ow (plus O0 F) e σ) σ H vs F1 rs → (∀ p ∈ F1, p ∈ F) → Rep K g (plus O0 F) e σ H → derefs e rs = some ds → Paired (ShT K (Ow O0 e σ) H) vs ds
  | _, _, _, ds, .nil, _, _, hd => by
    obtain rfl : ds = [] := by simpa [derefs] using hd.symm
    exact .nil
  | _, _, _, ds, @RVs.cons _ _ _ _ _ v vs F1 F2 r rs h t _, hs, rep, hd => by
    cases h1 : deref e r with
    | none => simp [derefs, h1] at hd
    | some d =>
      cases h2 : derefs e rs with
      | none => simp [derefs, h1, h2] at hd
      | some ds' =>
        obtain rfl : d :: ds' = ds := by simpa [derefs, h1, h2] using hd
        obtain ⟨q1, q2⟩ := h.alone (fun p hp => hs p (List.mem_append_left _ hp)) rep rfl
        exact .cons (q1.val q2 h1) (RVs.vals t (fun p hp => hs p (List.mem_append_right _ hp)) rep h2)
theorem RVs.vals' {vs : List V} {rs : List R} {ds : List PyData} (h : RVs K g (Ow (plus O0 F) e σ) σ H vs F rs) (rep : Rep K g (plus O0 F) e σ H) (hd : derefs e rs = some ds) : Paired (ShT K (Ow O0 e σ) H) vs ds := RVs.vals h (fun _ z => z) rep hd
end
section
variable {xc : XC} {K : PySem.W.Frag} {W : WX} {g : Gd} {O O' O0 : AP} {e e0 : Env} {s : DS} {σ : L2.St} {H H0 H1 H' : Hp} {F : List Addr} {m m1 : M}
/-- the end of an operation is the end of the expression -/
theorem post_op {r : R} {Q : VK} (hQ : ∀ v H' F', Stp K g O0 e0 σ H0 F' m H' → RV1 K g (Ow (plus O0 F') m.e σ) σ H' v F' r → Q v H') (G0 : Good K g O0 e0 s σ H0) (t : Stp K g O0 e0 σ H0 F m H)
    {v : V} {F' : List Addr} (k : Keep (fun _ => False) H H') (hF : ∀ p ∈ F', H p = none ∧ H' p ≠ none) (rv : RV1 K g (plus (Ow O0 m.e σ) F') σ H' v F' r) : Q v H' := by
  have G := G0.step0 t
  refine hQ v H' F' (t.forget.trans0 (G.pure k hF)) (rv.go (M := fun _ => False) Keep.refl (fun _ z => z.elim) (fun _ _ z => z) fun a z => .inl ?_)
  rcases z with (z | z) | z
  · exact .inl (.inl z)
  · exact .inr z
  · exact .inl (.inr z)
/-- what an operation on values makes -/
noncomputable def RO (K : PySem.W.Frag) (O : AP) (H : Hp) (v : V) (F : List Addr) : R → Prop
  | .v d => F = [] ∧ Sh K O H v d
  | .fl ds => ∃ p xs, F = [p] ∧ v = .ref p ∧ H p = some (.lst xs) ∧ xs.length ≤ sizeLine ∧ ShA K O H xs ds
  | .fd t kvs => ∃ p o, F = [p] ∧ v = .ref p ∧ H p = some o ∧ DcT K O H t o kvs
  | _ => False
theorem RO.rv {v : V} {r : R} (h : RO K O H v F r) : RV1 K g O σ H v F r := by
  cases r with
  | v d => exact h
  | fl ds => exact h
  | fd t kvs => exact h
  | pl i => exact h.elim
  | dk => exact h.elim
/-- a value, a new list: the two ends -/
theorem RO.sh {v : V} {d : PyData} (h : Sh K O H v d) : RO K (plus O []) H v [] (.v d) := ⟨rfl, h.weak fun _ z => z.elim id (fun z => nomatch z)⟩
theorem RO.new {p : Addr} {xs : List V} {ds : List PyData} (n : H p = none) (hz : xs.length ≤ sizeLine) (h : ShA K O H xs ds) : RO K (plus O [p]) (upd H p (.lst xs)) (.ref p) [p] (.fl ds) :=
  ⟨p, xs, rfl, rfl, upd_same, hz, h.go (Keep.new (M := fun _ => False) n) (fun _ z => z.elim) fun a z => z.imp id fun z => by rw [List.mem_singleton.mp z]; exact n⟩
theorem RO.tup {p : Addr} {xs : List V} {ds : List PyData} (n : H p = none) (hz : xs.length ≤ sizeLine) (h : ShA K O H xs ds) : RO K (plus O []) (upd H p (.tup xs)) (.ref p) [] (.v (.tuple ds)) :=
  RO.sh (sh_tuple.mpr ⟨p, xs, rfl, upd_same, hz, h.go (Keep.new (M := fun _ => False) n) (fun _ z => z.elim) fun a z => .inl z⟩)
theorem newF {p : Addr} {o : HO} (n : H p = none) : ∀ q ∈ [p], H q = none ∧ upd H p o q ≠ none := fun q hq => by
  rw [List.mem_singleton.mp hq]; exact ⟨n, by rw [upd_same]; simp⟩
theorem nilF : ∀ q ∈ ([] : List Addr), H q = none ∧ H' q ≠ none := fun _ z => nomatch z
/-- what an operation on values must do -/
noncomputable def OpV (K : PySem.W.Frag) (r : List V → Hp → VK → Prop) (op : List PyData → Option R) : Prop :=
  ∀ (O : AP) (H : Hp) (vs : List V) (ds : List PyData) (z : R) (Q : VK), Paired (ShT K O H) vs ds → op ds = some z →
    (∀ v H' F, Keep (fun _ => False) H H' → (∀ p ∈ F, H p = none ∧ H' p ≠ none) → RO K (plus O F) H' v F z → Q v H') → r vs H Q
/-- .. to be used behind a row of operands -/
theorem OpV.use {r : List V → Hp → VK → Prop} {op : List PyData → Option R} (ho : OpV K r op) {fs : M → Res (List R)} {Q : VK}
    (h : tE xc K W (fun m => match fs m with
      | .ok rs m1 => match derefs m1.e rs with
        | some ds => match op ds with
          | some r => .ok r m1
          | none => .bad
        | none => .bad
      | .rz c f m1 => .rz c f m1
      | .bad => .bad) σ H Q) : tEs xc K W fs σ H fun vs H1 => r vs H1 Q := by
  obtain ⟨g, O0, e, s, G, h⟩ := h
  refine ⟨g, O0, e, s, G, ?_⟩
  cases hf : fs ⟨e, s⟩ with
  | ok rs m1 =>
    simp only [hf] at h
    intro vs H1 F1 t1 rvs
    cases hd : derefs m1.e rs with
    | none => simp only [hd] at h; exact h.elim
    | some ds =>
      simp only [hd] at h
      cases hz : op ds with
      | none => simp only [hz] at h; exact h.elim
      | some z =>
        simp only [hz] at h
        exact ho _ H1 vs ds z Q (rvs.vals' t1.rep hd) hz fun v H' F k hF rv => post_op h G t1 k hF rv.rv
  | rz c f m1 => simp only [hf] at h; exact h
  | bad => simp only [hf] at h; exact h
end
end PV
namespace PV
open PySem PySem.Spec L2
noncomputable def V1 (r : V → Hp → VK → Prop) : List V → Hp → VK → Prop := fun vs H Q => ∃ x, vs = [x] ∧ r x H Q
noncomputable def V2 (r : R2) : List V → Hp → VK → Prop := fun vs H Q => ∃ x y, vs = [x, y] ∧ r x y H Q
theorem p1 {F : V → PyData → Prop} {vs : List V} {d : PyData} (h : Paired F vs [d]) : ∃ x, vs = [x] ∧ F x d := by
  cases h with
  | cons r t => cases t; exact ⟨_, rfl, r⟩
theorem p2 {F : V → PyData → Prop} {vs : List V} {d e : PyData} (h : Paired F vs [d, e]) : ∃ x y, vs = [x, y] ∧ F x d ∧ F y e := by
  cases h with
  | cons r t => obtain ⟨y, rfl, q⟩ := p1 t; exact ⟨_, y, rfl, r, q⟩
theorem p3 {F : V → PyData → Prop} {vs : List V} {d e f : PyData} (h : Paired F vs [d, e, f]) : ∃ x y z, vs = [x, y, z] ∧ F x d ∧ F y e ∧ F z f := by
  cases h with
  | cons r t => obtain ⟨y, z, rfl, q⟩ := p2 t; exact ⟨_, y, z, rfl, r, q⟩
section
variable {K : PySem.W.Frag} {O : AP} {H : Hp} {v x : V}
theorem t_int {i : Int} (h : ShT K O H v (.int i)) : v = .int i := sh_int.mp h
theorem t_str {i : Str} (h : ShT K O H v (.str i)) : v = .str i := sh_str.mp h
theorem t_bool {i : Bool} (h : ShT K O H v (.bool i)) : v = .bl i := sh_bool.mp h
theorem t_none (h : ShT K O H v .none) : v = .non := sh_none.mp h
theorem t_list {ds : List PyData} (h : ShT K O H v (.list ds)) : ∃ a xs, v = .ref a ∧ H a = some (.lst xs) ∧ xs.length ≤ sizeLine ∧ ShA K O H xs ds := h
theorem t_tup {ds : List PyData} (h : ShT K O H v (.tuple ds)) : ∃ a xs, v = .ref a ∧ SqT K H a xs ∧ xs.length ≤ sizeLine ∧ ShA K O H xs ds := by
  obtain ⟨a, xs, e, t, z, q⟩ := sh_tuple.mp h
  exact ⟨a, xs, e, t.sq, z, q⟩
theorem t_dict {kvs : List (PyData × PyData)} (h : ShT K O H v (.dict kvs)) : ∃ a o, v = .ref a ∧ H a = some o ∧ DcIs K O H o kvs := h
/-- a tuple's data is shared data -/
theorem t_tup' {ds : List PyData} (h : ShT K O H v (.tuple ds)) : Sh K O H v (.tuple ds) := h
theorem LIM_eq : LIM = sizeLine := by rw [sizeLine_eq]; rfl
/-- the end of an operation that gives a value -/
theorem fin_v {Q : VK} {d : PyData} (hQ : ∀ v H' F, Keep (fun _ => False) H H' → (∀ p ∈ F, H p = none ∧ H' p ≠ none) → RO K (plus O F) H' v F (.v d) → Q v H') (h : Sh K O H v d) : Q v H :=
  hQ v H [] Keep.refl nilF (RO.sh h)
theorem fin_l {Q : VK} {ds : List PyData} {xs : List V} (hQ : ∀ v H' F, Keep (fun _ => False) H H' → (∀ p ∈ F, H p = none ∧ H' p ≠ none) → RO K (plus O F) H' v F (.fl ds) → Q v H') (hz : xs.length ≤ sizeLine) (h : ShA K O H xs ds) :
    ∀ p, H p = none → Q (.ref p) (upd H p (.lst xs)) := fun p n => hQ _ _ [p] (Keep.new n) (newF n) (RO.new n hz h)
theorem fin_t {Q : VK} {ds : List PyData} {xs : List V} (hQ : ∀ v H' F, Keep (fun _ => False) H H' → (∀ p ∈ F, H p = none ∧ H' p ≠ none) → RO K (plus O F) H' v F (.v (.tuple ds)) → Q v H') (hz : xs.length ≤ sizeLine) (h : ShA K O H xs ds) :
    ∀ p, H p = none → Q (.ref p) (upd H p (.tup xs)) := fun p n => hQ _ _ [] (Keep.new n) (fun _ z => nomatch z) (RO.tup n hz h)
end
section
variable {X : Cx} {K : PySem.W.Frag}
noncomputable def rAddAll (K : PySem.W.Frag) : R2 := fun x y H Q => (((rI0 fun i j => .int (i + j)) x y H Q ∨ ∃ i j, x = .str i ∧ y = .str j ∧ i.length + j.length ≤ sizeLine ∧ Q (.str (i ++ j)) H) ∨ rCat x y H Q) ∨ rCatA K x y H Q
theorem o_add : OpR X (binaryOp .Add) (rAddAll X.K) := ((op_add.or op_add_str).or op_cat).or op_catA
theorem v_add : OpV K (V2 (rAddAll K)) addD := by
  intro O H vs ds z Q hp hz hQ
  unfold addD at hz
  split at hz
  · obtain ⟨x, y, rfl, h1, h2⟩ := p2 hp
    cases hz
    exact ⟨x, y, rfl, .inl (.inl (.inl ⟨_, _, t_int h1, t_int h2, fin_v hQ (sh_int.mpr rfl)⟩))⟩
  · obtain ⟨x, y, rfl, h1, h2⟩ := p2 hp
    split at hz
    · rename_i hl
      rw [LIM_eq] at hl
      cases hz
      exact ⟨x, y, rfl, .inl (.inl (.inr ⟨_, _, t_str h1, t_str h2, hl, fin_v hQ (sh_str.mpr rfl)⟩))⟩
    · cases hz
  · obtain ⟨x, y, rfl, h1, h2⟩ := p2 hp
    split at hz
    · rename_i hl
      rw [LIM_eq] at hl
      cases hz
      obtain ⟨a, xs, e1, g1, z1, s1⟩ := t_list h1
      obtain ⟨b, ys, e2, g2, z2, s2⟩ := t_list h2
      have hl' : xs.length + ys.length ≤ sizeLine := by rw [Paired.len s1, Paired.len s2]; exact hl
      exact ⟨x, y, rfl, .inl (.inr ⟨a, b, xs, ys, e1, e2, g1, g2, hl', fin_l hQ (by rw [List.length_append]; exact hl') (Paired.app s1 s2)⟩)⟩
    · cases hz
  · obtain ⟨x, y, rfl, h1, h2⟩ := p2 hp
    split at hz
    · rename_i hl
      rw [LIM_eq] at hl
      cases hz
      obtain ⟨a, xs, e1, g1, z1, s1⟩ := t_tup h1
      obtain ⟨b, ys, e2, g2, z2, s2⟩ := t_tup h2
      have hl' : xs.length + ys.length ≤ sizeLine := by rw [Paired.len s1, Paired.len s2]; exact hl
      refine ⟨x, y, rfl, .inr ⟨a, b, xs, ys, e1, e2, g1, g2, hl', fun e => ?_, fun _ e => ?_, fun _ _ => fin_t hQ (by rw [List.length_append]; exact hl') (Paired.app s1 s2)⟩⟩
      · subst e
        cases s1
        rw [← e2]
        exact fin_v hQ (t_tup' h2)
      · subst e
        cases s2
        rw [← e1]
        exact fin_v hQ (by rw [List.append_nil]; exact t_tup' h1)
    · cases hz
  · cases hz
theorem v_sub : OpV K (V2 (rI0 fun i j => .int (i - j))) subD := by
  intro O H vs ds z Q hp hz hQ
  unfold subD at hz
  split at hz
  · obtain ⟨x, y, rfl, h1, h2⟩ := p2 hp
    cases hz
    exact ⟨x, y, rfl, _, _, t_int h1, t_int h2, fin_v hQ (sh_int.mpr rfl)⟩
  · cases hz
theorem v_neg : OpV K (V1 (rU fun i => .int (-i))) negD := by
  intro O H vs ds z Q hp hz hQ
  unfold negD at hz
  split at hz
  · obtain ⟨x, rfl, h1⟩ := p1 hp
    cases hz
    exact ⟨x, rfl, _, t_int h1, fin_v hQ (sh_int.mpr rfl)⟩
  · cases hz
mutual
theorem nod_lay : ∀ d : PyData, d.canLay0 = true → nod d = true
  | .none, _ => rfl
  | .bool _, _ => rfl
  | .int _, _ => rfl
  | .str _, _ => rfl
  | .list ds, h => by simp only [nod]; exact nodA_lay ds (by simpa [PyData.canLay0] using h)
  | .tuple ds, h => by simp only [nod]; exact nodA_lay ds (by simpa [PyData.canLay0] using h)
  | .dict _, h => by simp [PyData.canLay0] at h
theorem nodA_lay : ∀ ds : List PyData, PyData.canLayAll0 ds = true → nodA ds = true
  | [], _ => rfl
  | d :: ds, h => by
    have h' : d.canLay0 = true ∧ PyData.canLayAll0 ds = true := by simpa [PyData.canLayAll0] using h
    simp only [nodA, nod_lay d h'.1, nodA_lay ds h'.2, Bool.and_self]
end
theorem nod_shaped {d : PyData} (h : SeqAt.shaped d = true) : nod d = true := nod_lay d (SeqAt.canLay_of_shaped h)
/-- a row that is not empty, and the empty one -/
noncomputable def rNil (b : Bool) (K : PySem.W.Frag) : R2 := fun x y H Q => ∃ p q xs, x = .ref p ∧ y = .ref q ∧ ((SqL K H p xs ∧ SqL K H q []) ∨ (SqT K H p xs ∧ SqT K H q [])) ∧ xs ≠ [] ∧ Q (.bl b) H
theorem nil_size {its its2 : List Value} {xs : List V} (r : Vals xs its) (r2 : Vals [] its2) (h : xs ≠ []) : (its.toArray.size != its2.toArray.size) = true := by
  cases r2
  cases r with
  | nil => exact absurd rfl h
  | cons _ _ => rfl
theorem op_eqNil (hu : X.A.units + 64 < cLine) : OpR X (compareOp .Eq) (rNil false X.K) := by
  intro pins s σ H x y v u Q I rx ry h
  obtain ⟨p, q, xs, rfl, rfl, hpq, hne, k⟩ := h
  cases rx; cases ry
  rcases hpq with ⟨hp, hq⟩ | ⟨hp, hq⟩
  · obtain ⟨its, rv, pl, _⟩ := I.list hp
    obtain ⟨its2, rv2, pl2, _⟩ := I.list hq
    exact SeqAt.eq_list_lengthsAt pl.isList pl2.isList (nil_size rv rv2 hne) (by omega) ⟨.bl _, H, I, rfl, k⟩
  · obtain ⟨its, rv, pl, _⟩ := I.tuple hp
    obtain ⟨its2, rv2, pl2, _⟩ := I.tuple hq
    have ns := nil_size rv rv2 hne
    have e2 : its2.toArray.size = 0 := by cases rv2; rfl
    refine SeqAt.eq_tupleAt (e := fun _ => false) (show s.heap.IsTuple p its.toArray from pl) (show s.heap.IsTuple q its2.toArray from pl2) (by omega) (fun j _ h2 => by omega) ?_
    have eb : ((List.range (min its.toArray.size its2.toArray.size)).all (fun _ => false) && its.toArray.size == its2.toArray.size) = false := by
      rw [Bool.and_eq_false_iff]; right
      simpa using ns
    rw [eb]
    exact ⟨.bl _, H, I, rfl, k⟩
theorem op_neNil (hu : X.A.units + 64 < cLine) : OpR X (compareOp .NotEq) (rNil true X.K) := by
  intro pins s σ H x y v u Q I rx ry h
  obtain ⟨p, q, xs, rfl, rfl, hpq, hne, k⟩ := h
  cases rx; cases ry
  rcases hpq with ⟨hp, hq⟩ | ⟨hp, hq⟩
  · obtain ⟨its, rv, pl, _⟩ := I.list hp
    obtain ⟨its2, rv2, pl2, _⟩ := I.list hq
    exact SeqAt.RcNeAt.lists_lengths pl.isList pl2.isList (nil_size rv rv2 hne) (by omega) _ _ _ _ ⟨.bl _, H, I, rfl, k⟩
  · obtain ⟨its, rv, pl, _⟩ := I.tuple hp
    obtain ⟨its2, rv2, pl2, _⟩ := I.tuple hq
    have ns := nil_size rv rv2 hne
    have e2 : its2.toArray.size = 0 := by cases rv2; rfl
    have eb : ((List.range (min its.toArray.size its2.toArray.size)).all (fun _ => false) && its.toArray.size == its2.toArray.size) = false := by
      rw [Bool.and_eq_false_iff]; right
      simpa using ns
    have r := SeqAt.RcNeAt.tuples (A := X.A) (s := s) (e := fun _ => false) (show s.heap.IsTuple p its.toArray from pl) (show s.heap.IsTuple q its2.toArray from pl2) (by omega) (fun j _ h2 => by omega)
    rw [eb] at r
    exact r _ _ _ _ ⟨.bl _, H, I, rfl, k⟩
noncomputable def rEqAll (K : PySem.W.Frag) : R2 := fun x y H Q => (rEqD K x y H Q ∨ rEq x y H Q) ∨ rNil false K x y H Q
noncomputable def rNeAll (K : PySem.W.Frag) : R2 := fun x y H Q => (rNeD K x y H Q ∨ rNe x y H Q) ∨ rNil true K x y H Q
theorem o_eq (hu : X.A.units + 64 < cLine) : OpR X (compareOp .Eq) (rEqAll X.K) := ((op_eqD hu).or op_eq).or (op_eqNil hu)
theorem o_ne (hu : X.A.units + 64 < cLine) : OpR X (compareOp .NotEq) (rNeAll X.K) := ((op_neD hu).or op_ne).or (op_neNil hu)
theorem v_nilD {O : AP} {H : Hp} {x y : V} {a b : PyData} {neg : Bool} {z : R} (h1 : ShT K O H x a) (h2 : ShT K O H y b) (hz : nilD neg a b = some z) : z = .v (.bool neg) ∧ ∃ p q xs, x = .ref p ∧ y = .ref q ∧ ((SqL K H p xs ∧ SqL K H q []) ∨ (SqT K H p xs ∧ SqT K H q [])) ∧ xs ≠ [] := by
  unfold nilD at hz
  split at hz
  · split at hz
    · rename_i hl
      cases hz
      obtain ⟨p, us, rfl, l1, _, q1⟩ := t_list h1
      obtain ⟨q, ws, rfl, l2, _, q2⟩ := t_list h2
      cases q2
      exact ⟨rfl, p, q, us, rfl, rfl, .inl ⟨SqL.of l1, SqL.of l2⟩, fun e => by subst e; cases q1; exact hl.2 rfl⟩
    · cases hz
  · split at hz
    · rename_i hl
      cases hz
      obtain ⟨p, us, rfl, l1, _, q1⟩ := sh_tuple.mp h1
      obtain ⟨q, ws, rfl, l2, _, q2⟩ := sh_tuple.mp h2
      cases q2
      exact ⟨rfl, p, q, us, rfl, rfl, .inr ⟨l1.sq, l2.sq⟩, fun e => by subst e; cases q1; exact hl.2 rfl⟩
    · cases hz
  · cases hz
theorem dec_str {a b : Str} : decide (V.str a = V.str b) = decide (a = b) := decide_eq_decide.mpr ⟨fun h => by cases h; rfl, fun h => by rw [h]⟩
theorem v_eq : OpV K (V2 (rEqAll K)) eqD := by
  intro O H vs ds z Q hp hz hQ
  unfold eqD at hz
  split at hz
  · obtain ⟨x, y, rfl, h1, h2⟩ := p2 hp
    cases hz
    rw [t_str h1, t_str h2]
    exact ⟨_, _, rfl, .inl (.inr ⟨rfl, by rw [dec_str]; exact fin_v hQ (sh_bool.mpr rfl)⟩)⟩
  · obtain ⟨x, y, rfl, h1, h2⟩ := p2 hp
    split at hz
    · rename_i hl
      cases hz
      exact ⟨x, y, rfl, .inl (.inl ⟨_, _, h1.dp (nod_shaped hl.1), h2.dp (nod_shaped hl.2), hl.1, hl.2, fin_v hQ (sh_bool.mpr rfl)⟩)⟩
    · obtain ⟨rfl, p, q, us, e1, e2, l12, ne⟩ := v_nilD h1 h2 hz
      exact ⟨x, y, rfl, .inr ⟨p, q, us, e1, e2, l12, ne, fin_v hQ (sh_bool.mpr rfl)⟩⟩
  · cases hz
theorem v_ne : OpV K (V2 (rNeAll K)) neD := by
  intro O H vs ds z Q hp hz hQ
  unfold neD at hz
  split at hz
  · obtain ⟨x, y, rfl, h1, h2⟩ := p2 hp
    cases hz
    rw [t_str h1, t_str h2]
    exact ⟨_, _, rfl, .inl (.inr ⟨rfl, by rw [dec_str]; exact fin_v hQ (sh_bool.mpr rfl)⟩)⟩
  · obtain ⟨x, y, rfl, h1, h2⟩ := p2 hp
    split at hz
    · rename_i hl
      cases hz
      exact ⟨x, y, rfl, .inl (.inl ⟨_, _, h1.dp (nod_shaped hl.1), h2.dp (nod_shaped hl.2), hl.1, hl.2, fin_v hQ (sh_bool.mpr rfl)⟩)⟩
    · obtain ⟨rfl, p, q, us, e1, e2, l12, ne⟩ := v_nilD h1 h2 hz
      exact ⟨x, y, rfl, .inr ⟨p, q, us, e1, e2, l12, ne, fin_v hQ (sh_bool.mpr rfl)⟩⟩
  · cases hz
theorem toInts_sh {O : AP} {H : Hp} : ∀ {ds : List PyData} {ns : List Int} {xs : List V}, toInts ds = some ns → ShA K O H xs ds → xs = ns.map V.int ∧ ds = ns.map PyData.int
  | [], ns, _, h, .nil => by cases h; exact ⟨rfl, rfl⟩
  | .int i :: ds, ns, _, h, .cons r t => by
    cases hn : toInts ds with
    | none => simp [toInts, hn] at h
    | some ms =>
      obtain rfl : i :: ms = ns := by simpa [toInts, hn] using h
      obtain ⟨e1, e2⟩ := toInts_sh hn t
      exact ⟨by rw [sh_int.mp r, e1]; rfl, by rw [e2]; rfl⟩
  | .none :: _, _, _, h, _ => by simp [toInts] at h
  | .bool _ :: _, _, _, h, _ => by simp [toInts] at h
  | .str _ :: _, _, _, h, _ => by simp [toInts] at h
  | .list _ :: _, _, _, h, _ => by simp [toInts] at h
  | .tuple _ :: _, _, _, h, _ => by simp [toInts] at h
  | .dict _ :: _, _, _, h, _ => by simp [toInts] at h
noncomputable def rLtAll (K : PySem.W.Frag) : R2 := fun x y H Q => (rI0 fun i j => .bl (decide (i < j))) x y H Q ∨ rLtT K x y H Q
theorem o_lt (hu : X.A.units < cLine) : OpR X (compareOp .Lt) (rLtAll X.K) := op_lt.or (op_ltT hu)
/-- two ints, or two tuples of ints -/
theorem cmp_inv {o : Op} {a b : PyData} {c : Bool} (h : cmpD o a b = some c) :
    (∃ i j, a = .int i ∧ b = .int j) ∨ ∃ xs ys ns ms, a = .tuple xs ∧ b = .tuple ys ∧ toInts xs = some ns ∧ toInts ys = some ms := by
  unfold cmpD at h
  split at h
  · exact .inl ⟨_, _, rfl, rfl⟩
  · split at h
    · exact .inr ⟨_, _, _, _, rfl, rfl, by assumption, by assumption⟩
    · cases h
  · cases h
theorem v_cmp {o : Op} {r : R2} (hI : ∀ (i j : Int) (b : Bool) (H : Hp) (Q : VK), cmpD o (.int i) (.int j) = some b → Q (.bl b) H → r (.int i) (.int j) H Q)
    (hT : ∀ (a b : Addr) (ns ms : List Int) (c : Bool) (H : Hp) (Q : VK), cmpD o (.tuple (ns.map .int)) (.tuple (ms.map .int)) = some c → SqT K H a (ns.map V.int) → SqT K H b (ms.map V.int) → Q (.bl c) H → r (.ref a) (.ref b) H Q) : OpV K (V2 r) (cmpR o) := by
  intro O H vs ds z Q hp hz hQ
  unfold cmpR at hz
  split at hz
  · rename_i a b
    obtain ⟨x, y, rfl, h1, h2⟩ := p2 hp
    cases hc : cmpD o a b with
    | none => rw [hc] at hz; cases hz
    | some c =>
      rw [hc] at hz
      cases hz
      have fin : Q (.bl c) H := fin_v hQ (sh_bool.mpr rfl)
      rcases cmp_inv hc with ⟨i, j, rfl, rfl⟩ | ⟨xs, ys, ns, ms, rfl, rfl, e1, e2⟩
      · rw [t_int h1, t_int h2]
        exact ⟨_, _, rfl, hI i j c H Q hc fin⟩
      · obtain ⟨a, us, rfl, g1, _, s1⟩ := t_tup h1
        obtain ⟨b, ws, rfl, g2, _, s2⟩ := t_tup h2
        obtain ⟨q1, q1'⟩ := toInts_sh e1 s1
        obtain ⟨q2, q2'⟩ := toInts_sh e2 s2
        subst q1 q2
        rw [q1', q2'] at hc
        exact ⟨_, _, rfl, hT a b ns ms c H Q hc g1 g2 fin⟩
  · cases hz
theorem toInts_map : ∀ ns : List Int, toInts (ns.map .int) = some ns
  | [] => rfl
  | n :: ns => by show (toInts (ns.map .int)).map (n :: ·) = _; rw [toInts_map ns]; rfl
theorem v_lt : OpV K (V2 (rLtAll K)) (cmpR .lt) := v_cmp (fun i j b H Q h q => .inl ⟨i, j, rfl, rfl, by cases h; exact q⟩) fun a b ns ms c H Q h g1 g2 q => .inr ⟨a, b, ns, ms, rfl, rfl, g1, g2, by
  simp only [cmpD, toInts_map] at h
  cases h; exact q⟩
theorem v_gt : OpV K (V2 (rI0 fun i j => .bl (decide (j < i)))) (cmpR .gt) := v_cmp (fun i j b H Q h q => ⟨i, j, rfl, rfl, by cases h; exact q⟩) fun a b ns ms c H Q h g1 g2 q => by
  simp only [cmpD, toInts_map] at h
  cases h
theorem toKey_sh {O : AP} {H : Hp} {d : PyData} {k : Key} {v : V} (h : toKey d = some k) (s : Sh K O H v d) : v = kV k ∧ d = keyD k := by
  cases d with
  | int i => cases h; exact ⟨sh_int.mp s, rfl⟩
  | str i => cases h; exact ⟨sh_str.mp s, rfl⟩
  | none => cases h
  | bool b => cases h
  | list ds => cases h
  | tuple ds => cases h
  | dict kvs => cases h
theorem toKeys_sh {O : AP} {H : Hp} : ∀ {ds : List PyData} {ks : List Key} {vs : List V}, toKeys ds = some ks → ShA K O H vs ds → vs = ks.map kV ∧ ds = ks.map keyD
  | [], ks, _, h, .nil => by cases h; exact ⟨rfl, rfl⟩
  | d :: ds, ks, _, h, .cons r t => by
    cases h1 : toKey d with
    | none => simp [toKeys, h1] at h
    | some k =>
      cases h2 : toKeys ds with
      | none => simp [toKeys, h1, h2] at h
      | some ks' =>
        obtain rfl : k :: ks' = ks := by simpa [toKeys, h1, h2] using h
        obtain ⟨e1, e2⟩ := toKey_sh h1 r
        obtain ⟨e3, e4⟩ := toKeys_sh h2 t
        exact ⟨by rw [e1, e3]; rfl, by rw [e2, e4]; rfl⟩
theorem keyD_inj {a b : Key} (h : keyD a = keyD b) : a = b := by
  cases a <;> cases b <;> simp [keyD] at h <;> rw [h]
theorem keyT_inj {a b : List Key} (h : keyT a = keyT b) : a = b := by
  have h' : a.map keyD = b.map keyD := by simpa [keyT] using h
  exact (List.map_inj_right (fun x y => keyD_inj)).mp h'
open Classical in
theorem look_rel {κ : Type} [DecidableEq κ] {O : AP} {H : Hp} {f : κ → PyData} (inj : ∀ a b, f a = f b → a = b) {k : κ} : ∀ {ks : List (κ × V)} {kvs : List (PyData × PyData)},
    Paired (fun p q => q.1 = f p.1 ∧ Sh K O H p.2 q.2) ks kvs → (valV ks k = none ∧ look kvs (f k) = none) ∨ ∃ v d, valV ks k = some v ∧ look kvs (f k) = some d ∧ Sh K O H v d
  | _, _, .nil => .inl ⟨rfl, rfl⟩
  | _, _, @Paired.cons _ _ _ p q ks kvs r t => by
    unfold valV look
    rw [List.find?_cons, List.find?_cons]
    by_cases c : p.1 = k
    · have c' : q.1 = f k := by rw [r.1, c]
      rw [decide_eq_true c, decide_eq_true c']
      exact .inr ⟨_, _, rfl, rfl, r.2⟩
    · have c' : ¬ q.1 = f k := fun z => c (inj _ _ (by rw [← r.1, z]))
      rw [decide_eq_false c, decide_eq_false c']
      exact look_rel inj t
/-- the dict at a, asked for the key y -/
theorem dget_of {O : AP} {H : Hp} {a : Addr} {t : Bool} {o : HO} {kvs : List (PyData × PyData)} {y : V} {k : PyData} (ho : H a = some o) (h : DcT K O H t o kvs) (hk : keyOk t k = true) (hy : Sh K O H y k) :
    (DGet H a y none ∧ look kvs k = none) ∨ ∃ v d, DGet H a y (some v) ∧ look kvs k = some d ∧ Sh K O H v d := by
  cases t with
  | false =>
    obtain ⟨ks, rfl, q⟩ := h
    cases hk' : toKey k with
    | none => simp [keyOk, hk'] at hk
    | some kk =>
      obtain ⟨e1, e2⟩ := toKey_sh hk' hy
      subst e1 e2
      rcases look_rel (K := K) (fun _ _ => keyD_inj) (k := kk) q with ⟨z1, z2⟩ | ⟨v, d, z1, z2, z3⟩
      · exact .inl ⟨by rw [← z1]; exact DGet.k ho, z2⟩
      · exact .inr ⟨v, d, by rw [← z1]; exact DGet.k ho, z2, z3⟩
  | true =>
    obtain ⟨ks, rfl, q⟩ := h
    cases k with
    | tuple ds =>
      cases hk' : toKeys ds with
      | none => simp [keyOk, hk'] at hk
      | some kk =>
        obtain ⟨b, xs, rfl, ht, _, sx⟩ := sh_tuple.mp hy
        obtain ⟨e1, e2⟩ := toKeys_sh hk' sx
        subst e1 e2
        rcases look_rel (K := K) (fun _ _ => keyT_inj) (k := kk) q with ⟨z1, z2⟩ | ⟨v, d, z1, z2, z3⟩
        · exact .inl ⟨by rw [← z1]; exact DGet.t ho ht, z2⟩
        · exact .inr ⟨v, d, by rw [← z1]; exact DGet.t ho ht, z2, z3⟩
    | none => simp [keyOk] at hk
    | bool b => simp [keyOk] at hk
    | int i => simp [keyOk] at hk
    | str s => simp [keyOk] at hk
    | list ds => simp [keyOk] at hk
    | dict kvs => simp [keyOk] at hk
noncomputable def rInT (K : PySem.W.Frag) : R2 := fun x y H Q => ∃ d ds, Dp K H x d ∧ Dp K H y (.tuple ds) ∧ SeqAt.shaped d = true ∧ SeqAt.shaped (.tuple ds) = true ∧ Q (.bl (ds.any fun z => PyData.eqv z d)) H
noncomputable def rNotInT (K : PySem.W.Frag) : R2 := fun x y H Q => ∃ d ds, Dp K H x d ∧ Dp K H y (.tuple ds) ∧ SeqAt.shaped d = true ∧ SeqAt.shaped (.tuple ds) = true ∧ Q (.bl (!ds.any fun z => PyData.eqv z d)) H
theorem roomD {A : Around} {xs : List PyData} {d : PyData} (hd : SeqAt.shaped d = true) (hu : A.units + 65 < cLine) : A.units + 1 + min (PyData.depthAll xs) d.depth < cLine := by
  have h : d.canLay0 = true ∧ d.depth ≤ 64 := by simpa [SeqAt.shaped] using hd
  have := Nat.min_le_right (PyData.depthAll xs) d.depth
  omega
theorem o_inT (hu : X.A.units + 65 < cLine) : OpR X (compareOp .In) (rInT X.K) := by
  intro pins s σ H x y v u Q I rx ry h
  obtain ⟨d, ds, hd, he, sd, se, q⟩ := h
  obtain ⟨as, r1⟩ := Dp.reads I d x v hd rx
  obtain ⟨bs, r2⟩ := Dp.reads I (.tuple ds) y u he ry
  exact SeqAt.in_tuple_reads r2 r1 (by simpa [PyData.canLay0] using SeqAt.canLay_of_shaped se) (SeqAt.canLay_of_shaped sd) (roomD sd hu) ⟨.bl _, H, I, rfl, q⟩
theorem o_notInT (hu : X.A.units + 65 < cLine) : OpR X (compareOp .NotIn) (rNotInT X.K) := by
  intro pins s σ H x y v u Q I rx ry h
  obtain ⟨d, ds, hd, he, sd, se, q⟩ := h
  obtain ⟨as, r1⟩ := Dp.reads I d x v hd rx
  obtain ⟨bs, r2⟩ := Dp.reads I (.tuple ds) y u he ry
  exact SeqAt.notIn_tuple_reads r2 r1 (by simpa [PyData.canLay0] using SeqAt.canLay_of_shaped se) (SeqAt.canLay_of_shaped sd) (roomD sd hu) ⟨.bl _, H, I, rfl, q⟩
noncomputable def rInDc : R2 := fun x y H Q => ∃ a o, y = .ref a ∧ DGet H a x o ∧ Q (.bl o.isSome) H
noncomputable def rNotInDc : R2 := fun x y H Q => ∃ a o, y = .ref a ∧ DGet H a x o ∧ Q (.bl (!o.isSome)) H
theorem o_inDc (hu : X.A.units + 65 < cLine) : OpR X (compareOp .In) rInDc := by
  intro pins s σ H x y v u Q I rx ry h
  obtain ⟨a, o, rfl, g, q⟩ := h
  cases ry
  exact d_in (by omega) I g rx fun s3 I3 => ⟨.bl o.isSome, H, I3, rfl, q⟩
theorem o_notInDc (hu : X.A.units + 65 < cLine) : OpR X (compareOp .NotIn) rNotInDc := by
  intro pins s σ H x y v u Q I rx ry h
  obtain ⟨a, o, rfl, g, q⟩ := h
  cases ry
  exact d_notIn (by omega) I g rx fun s3 I3 => ⟨.bl (!o.isSome), H, I3, rfl, q⟩
noncomputable def rInAll (K : PySem.W.Frag) : R2 := fun x y H Q => (rInD K x y H Q ∨ rInT K x y H Q) ∨ rInDc x y H Q
noncomputable def rNotInAll (K : PySem.W.Frag) : R2 := fun x y H Q => (rNotInD K x y H Q ∨ rNotInT K x y H Q) ∨ rNotInDc x y H Q
theorem o_in (hu : X.A.units + 65 < cLine) : OpR X (compareOp .In) (rInAll X.K) := ((op_inD hu).or (o_inT hu)).or (o_inDc hu)
theorem o_notin (hu : X.A.units + 65 < cLine) : OpR X (compareOp .NotIn) (rNotInAll X.K) := ((op_notInD hu).or (o_notInT hu)).or (o_notInDc hu)
/-- a key is flat data -/
theorem key_sh {O : AP} {H : Hp} {t : Bool} {k : PyData} {y : V} (hk : keyOk t k = true) (h : ShT K O H y k) : Sh K O H y k := by
  cases k with
  | list ds => cases t <;> simp [keyOk, toKey] at hk
  | dict kvs => cases t <;> simp [keyOk, toKey] at hk
  | none => exact h
  | bool b => exact h
  | int i => exact h
  | str s => exact h
  | tuple ds => exact h
theorem keyOk_td (k : Key) : keyOk true (keyD k) = false := by cases k <;> rfl
theorem keyOk_ft (k : List Key) : keyOk false (keyT k) = false := rfl
/-- a dict that is not empty shows its kind -/
theorem dkOk_t {O : AP} {H : Hp} {o : HO} {kvs : List (PyData × PyData)} {k : PyData} (h : dkOk kvs k = true) (hd : DcIs K O H o kvs) : ∃ t, DcT K O H t o kvs ∧ keyOk t k = true := by
  have h' : kvs.isEmpty = false ∧ (keysK kvs = true ∧ keyOk false k = true ∨ keysT kvs = true ∧ keyOk true k = true) := by simpa [dkOk] using h
  rcases hd with hd | hd
  · refine ⟨false, hd, ?_⟩
    rcases h'.2 with z | z
    · exact z.2
    · obtain ⟨ks, _, q⟩ := hd
      cases q with
      | nil => simp at h'
      | cons r _ =>
        have zz := z.1
        simp only [keysT, List.all_cons, Bool.and_eq_true] at zz
        have z1 := zz.1
        rw [r.1, keyOk_td] at z1
        cases z1
  · refine ⟨true, hd, ?_⟩
    rcases h'.2 with z | z
    · obtain ⟨ks, _, q⟩ := hd
      cases q with
      | nil => simp at h'
      | cons r _ =>
        have zz := z.1
        simp only [keysK, List.all_cons, Bool.and_eq_true] at zz
        have z1 := zz.1
        rw [r.1, keyOk_ft] at z1
        cases z1
    · exact z.2
theorem has_in {O : AP} {H : Hp} {a b : PyData} {x y : V} {c : Bool} {Q : VK} (h : hasD a b = some c) (h1 : ShT K O H x a) (h2 : ShT K O H y b) (q : Q (.bl c) H) : rInAll K x y H Q := by
  unfold hasD at h
  split at h
  · split at h
    · rename_i hl
      cases h
      exact .inl (.inl ⟨_, _, h1.dp (nod_shaped hl.1), h2.dp (nod_shaped hl.2), hl.1, hl.2, q⟩)
    · cases h
  · split at h
    · rename_i hl
      cases h
      exact .inl (.inr ⟨_, _, h1.dp (nod_shaped hl.1), h2.dp (nod_shaped hl.2), hl.1, hl.2, q⟩)
    · cases h
  · split at h
    · rename_i hl
      cases h
      obtain ⟨p, o, rfl, ho, hd⟩ := t_dict h2
      obtain ⟨t, hd', hk⟩ := dkOk_t hl hd
      rcases dget_of ho hd' hk (key_sh hk h1) with ⟨z1, z2⟩ | ⟨v, d, z1, z2, _⟩
      · exact .inr ⟨p, _, rfl, z1, by rw [z2] at q; exact q⟩
      · exact .inr ⟨p, _, rfl, z1, by rw [z2] at q; exact q⟩
    · cases h
  · cases h
theorem has_notin {O : AP} {H : Hp} {a b : PyData} {x y : V} {c : Bool} {Q : VK} (h : hasD a b = some c) (h1 : ShT K O H x a) (h2 : ShT K O H y b) (q : Q (.bl (!c)) H) : rNotInAll K x y H Q := by
  unfold hasD at h
  split at h
  · split at h
    · rename_i hl
      cases h
      exact .inl (.inl ⟨_, _, h1.dp (nod_shaped hl.1), h2.dp (nod_shaped hl.2), hl.1, hl.2, q⟩)
    · cases h
  · split at h
    · rename_i hl
      cases h
      exact .inl (.inr ⟨_, _, h1.dp (nod_shaped hl.1), h2.dp (nod_shaped hl.2), hl.1, hl.2, q⟩)
    · cases h
  · split at h
    · rename_i hl
      cases h
      obtain ⟨p, o, rfl, ho, hd⟩ := t_dict h2
      obtain ⟨t, hd', hk⟩ := dkOk_t hl hd
      rcases dget_of ho hd' hk (key_sh hk h1) with ⟨z1, z2⟩ | ⟨v, d, z1, z2, _⟩
      · exact .inr ⟨p, _, rfl, z1, by rw [z2] at q; exact q⟩
      · exact .inr ⟨p, _, rfl, z1, by rw [z2] at q; exact q⟩
    · cases h
  · cases h
theorem v_in : OpV K (V2 (rInAll K)) inD := by
  intro O H vs ds z Q hp hz hQ
  unfold inD at hz
  split at hz
  · rename_i a b
    obtain ⟨x, y, rfl, h1, h2⟩ := p2 hp
    cases hc : hasD a b with
    | none => rw [hc] at hz; cases hz
    | some c =>
      rw [hc] at hz
      cases hz
      exact ⟨x, y, rfl, has_in hc h1 h2 (fin_v hQ (sh_bool.mpr rfl))⟩
  · cases hz
theorem v_notin : OpV K (V2 (rNotInAll K)) notinD := by
  intro O H vs ds z Q hp hz hQ
  unfold notinD at hz
  split at hz
  · rename_i a b
    obtain ⟨x, y, rfl, h1, h2⟩ := p2 hp
    cases hc : hasD a b with
    | none => rw [hc] at hz; cases hz
    | some c =>
      rw [hc] at hz
      cases hz
      exact ⟨x, y, rfl, has_notin hc h1 h2 (fin_v hQ (sh_bool.mpr rfl))⟩
  · cases hz
end
end PV
namespace PV
open PySem PySem.Spec L2
section
variable {X : Cx} {K : PySem.W.Frag}
noncomputable def rIxDc : R2 := fun x y H Q => ∃ a v, x = .ref a ∧ DGet H a y (some v) ∧ Q v H
theorem ix_dc (hu : X.A.units + 65 < cLine) : IxR X rIxDc := by
  intro value slice pins s σ H x y v u Q I rx ry h hs
  obtain ⟨a, w, rfl, g, q⟩ := h
  cases rx
  exact PyProof.Rows.tail_any (dict_typeIs I g) PySem.F.slot_dict_getitem.lookup (d_getItem (by omega) I g ry fun w' s3 I3 rw' => ⟨w, H, I3, rw', q⟩) hs
noncomputable def rIxAll (K : PySem.W.Frag) : R2 := fun x y H Q => (rIxL K x y H Q ∨ rIxT K x y H Q) ∨ rIxDc x y H Q
theorem ix_all (hu : X.A.units + 65 < cLine) : IxR X (rIxAll X.K) := (ix_list.or ix_tup).or (ix_dc hu)
theorem pick_sh {O : AP} {H : Hp} {xs : List V} {ds : List PyData} {i : Int} {d : PyData} (h : ShA K O H xs ds) (hp : pick ds i = some d) : ∃ v, atI xs i = some v ∧ Sh K O H v d := by
  unfold pick atI at hp
  unfold atI
  rw [Paired.len h]
  cases hx : ixN ds.length i with
  | none => rw [hx] at hp; cases hp
  | some j =>
    rw [hx] at hp
    obtain ⟨v, e, s⟩ := Paired.get h (show ds[j]? = some d from hp)
    exact ⟨v, e, s⟩
theorem v_idx : OpV K (V2 (rIxAll K)) idxD := by
  intro O H vs ds z Q hp hz hQ
  unfold idxD at hz
  split at hz
  · obtain ⟨x, y, rfl, h1, h2⟩ := p2 hp
    rename_i xs i
    cases hc : pick xs i with
    | none => rw [hc] at hz; cases hz
    | some d =>
      rw [hc] at hz; cases hz
      obtain ⟨a, us, rfl, g, _, s⟩ := t_list h1
      obtain ⟨v, e, sv⟩ := pick_sh s hc
      exact ⟨_, _, rfl, .inl (.inl ⟨a, us, i, v, rfl, t_int h2, SqL.of g, e, fin_v hQ sv⟩)⟩
  · obtain ⟨x, y, rfl, h1, h2⟩ := p2 hp
    rename_i xs i
    cases hc : pick xs i with
    | none => rw [hc] at hz; cases hz
    | some d =>
      rw [hc] at hz; cases hz
      obtain ⟨a, us, rfl, g, _, s⟩ := t_tup h1
      obtain ⟨v, e, sv⟩ := pick_sh s hc
      exact ⟨_, _, rfl, .inl (.inr ⟨a, us, i, v, rfl, t_int h2, g, e, fin_v hQ sv⟩)⟩
  · obtain ⟨x, y, rfl, h1, h2⟩ := p2 hp
    split at hz
    · rename_i kvs k hk
      cases hc : look kvs k with
      | none => rw [hc] at hz; cases hz
      | some d =>
        rw [hc] at hz; cases hz
        obtain ⟨p, o, rfl, ho, hd⟩ := t_dict h1
        obtain ⟨t, hd', hk'⟩ := dkOk_t hk hd
        rcases dget_of ho hd' hk' (key_sh hk' h2) with ⟨_, z2⟩ | ⟨v, d', z1, z2, z3⟩
        · rw [hc] at z2; cases z2
        · rw [hc] at z2; cases z2
          exact ⟨_, y, rfl, .inr ⟨p, v, rfl, z1, fin_v hQ z3⟩⟩
    · cases hz
  · cases hz
noncomputable def rSlAll (K : PySem.W.Frag) : V → Option Int → Option Int → Hp → VK → Prop := fun x lo hi H Q => rSlL K x lo hi H Q ∨ rSlA K x lo hi H Q
theorem sl_all : SlR X (rSlAll X.K) := sl_list.or sl_tupA
theorem cut_sh {O : AP} {H : Hp} {xs : List V} {ds : List PyData} (h : ShA K O H xs ds) (lo hi : Option Int) : ShA K O H (cutV xs lo hi) (cutD ds lo hi) := by
  unfold cutV cutD
  rw [Paired.len h]
  exact Paired.tk (Paired.dr h _) _
theorem cut_list {O : AP} {H : Hp} {x : V} {ds : List PyData} {lo hi : Option Int} {Q : VK} (h : ShT K O H x (.list ds))
    (hQ : ∀ v H' F, Keep (fun _ => False) H H' → (∀ p ∈ F, H p = none ∧ H' p ≠ none) → RO K (plus O F) H' v F (.fl (cutD ds lo hi)) → Q v H') : rSlAll K x lo hi H Q := by
  obtain ⟨a, xs, rfl, g, z, s⟩ := t_list h
  exact .inl ⟨a, xs, rfl, SqL.of g, fin_l hQ (Nat.le_trans (cutV_length _ _ _) z) (cut_sh s lo hi)⟩
theorem cut_all {α : Type} {xs : List α} {lo hi : Option Int} (h : HT.sIx xs.length 0 lo = 0 ∧ HT.sIx xs.length xs.length hi = xs.length) : cutD xs lo hi = xs := by
  unfold cutD
  rw [h.1, h.2, List.drop_zero, Nat.sub_zero, List.take_length]
theorem cut_tup {O : AP} {H : Hp} {x : V} {ds : List PyData} {lo hi : Option Int} {Q : VK} (h : ShT K O H x (.tuple ds))
    (hQ : ∀ v H' F, Keep (fun _ => False) H H' → (∀ p ∈ F, H p = none ∧ H' p ≠ none) → RO K (plus O F) H' v F (.v (.tuple (cutD ds lo hi))) → Q v H') : rSlAll K x lo hi H Q := by
  obtain ⟨a, xs, rfl, g, z, s⟩ := t_tup h
  refine .inr ⟨a, xs, rfl, g, fun e => ?_, fun _ => fin_t hQ (Nat.le_trans (cutV_length _ _ _) z) (cut_sh s lo hi)⟩
  refine fin_v hQ ?_
  rw [cut_all (by rw [← Paired.len s]; exact e)]
  exact t_tup' h
/-- the parts as they come: what is written stands -/
noncomputable def V3s (lo hi : Bool) (r : V → Option Int → Option Int → Hp → VK → Prop) : List V → Hp → VK → Prop := fun vs H Q => match lo, hi with
  | false, false => ∃ x, vs = [x] ∧ r x none none H Q
  | true, false => ∃ x i, vs = [x, .int i] ∧ r x (some i) none H Q
  | false, true => ∃ x i, vs = [x, .int i] ∧ r x none (some i) H Q
  | true, true => ∃ x i j, vs = [x, .int i, .int j] ∧ r x (some i) (some j) H Q
theorem v_sl (lo hi : Bool) : OpV K (V3s lo hi (rSlAll K)) (slD lo hi) := by
  intro O H vs ds z Q hp hz hQ
  unfold slD at hz
  split at hz
  · obtain ⟨x, rfl, h1⟩ := p1 hp
    split at hz
    · rename_i hl
      obtain ⟨rfl, rfl⟩ := hl
      cases hz
      exact ⟨x, rfl, cut_list h1 hQ⟩
    · cases hz
  · obtain ⟨x, rfl, h1⟩ := p1 hp
    split at hz
    · rename_i hl
      obtain ⟨rfl, rfl⟩ := hl
      cases hz
      exact ⟨x, rfl, cut_tup h1 hQ⟩
    · cases hz
  · obtain ⟨x, y, rfl, h1, h2⟩ := p2 hp
    rw [t_int h2]
    split at hz
    · rename_i hl
      obtain ⟨rfl, rfl⟩ := hl
      cases hz
      exact ⟨x, _, rfl, cut_list h1 hQ⟩
    · split at hz
      · rename_i hl
        obtain ⟨rfl, rfl⟩ := hl
        cases hz
        exact ⟨x, _, rfl, cut_list h1 hQ⟩
      · cases hz
  · obtain ⟨x, y, rfl, h1, h2⟩ := p2 hp
    rw [t_int h2]
    split at hz
    · rename_i hl
      obtain ⟨rfl, rfl⟩ := hl
      cases hz
      exact ⟨x, _, rfl, cut_tup h1 hQ⟩
    · split at hz
      · rename_i hl
        obtain ⟨rfl, rfl⟩ := hl
        cases hz
        exact ⟨x, _, rfl, cut_tup h1 hQ⟩
      · cases hz
  · obtain ⟨x, y, w, rfl, h1, h2, h3⟩ := p3 hp
    rw [t_int h2, t_int h3]
    split at hz
    · rename_i hl
      obtain ⟨rfl, rfl⟩ := hl
      cases hz
      exact ⟨x, _, _, rfl, cut_list h1 hQ⟩
    · cases hz
  · obtain ⟨x, y, w, rfl, h1, h2, h3⟩ := p3 hp
    rw [t_int h2, t_int h3]
    split at hz
    · rename_i hl
      obtain ⟨rfl, rfl⟩ := hl
      cases hz
      exact ⟨x, _, _, rfl, cut_tup h1 hQ⟩
    · cases hz
  · cases hz
theorem v_len : OpV K (fun xs H Q => ∃ x n, xs = [x] ∧ LenV K x H n ∧ Q (.int n) H) lenD := by
  intro O H vs ds z Q hp hz hQ
  unfold lenD at hz
  split at hz
  · obtain ⟨x, rfl, h1⟩ := p1 hp
    cases hz
    obtain ⟨a, xs, rfl, g, _, s⟩ := t_list h1
    exact ⟨_, _, rfl, .inl ⟨xs, SqL.of g, rfl⟩, by rw [Paired.len s]; exact fin_v hQ (sh_int.mpr rfl)⟩
  · obtain ⟨x, rfl, h1⟩ := p1 hp
    cases hz
    obtain ⟨a, xs, rfl, g, _, s⟩ := t_tup h1
    exact ⟨_, _, rfl, .inr ⟨xs, g, rfl⟩, by rw [Paired.len s]; exact fin_v hQ (sh_int.mpr rfl)⟩
  · obtain ⟨x, rfl, h1⟩ := p1 hp
    split at hz
    · rename_i hl
      rw [LIM_eq] at hl
      cases hz
      rw [t_str h1]
      exact ⟨_, _, rfl, ⟨hl, rfl⟩, fin_v hQ (sh_int.mpr rfl)⟩
    · cases hz
  · cases hz
theorem v_tuple : OpV K (fun xs H Q => ∃ p ys, xs = [.ref p] ∧ ((SqL K H p ys ∧ ∀ l, H l = none → Q (.ref l) (upd H l (.tup ys))) ∨ (SqT K H p ys ∧ Q (.ref p) H))) tupleD := by
  intro O H vs ds z Q hp hz hQ
  unfold tupleD at hz
  split at hz
  · obtain ⟨x, rfl, h1⟩ := p1 hp
    cases hz
    obtain ⟨a, xs, rfl, g, zl, s⟩ := t_list h1
    exact ⟨a, xs, rfl, .inl ⟨SqL.of g, fin_t hQ zl s⟩⟩
  · obtain ⟨x, rfl, h1⟩ := p1 hp
    cases hz
    obtain ⟨a, xs, rfl, g, zl, s⟩ := t_tup h1
    exact ⟨a, xs, rfl, .inr ⟨g, fin_v hQ (t_tup' h1)⟩⟩
  · cases hz
theorem v_list : OpV K (fun xs H Q => ∃ p ys, xs = [.ref p] ∧ (SqL K H p ys ∨ SqT K H p ys) ∧ ∀ l, H l = none → Q (.ref l) (upd H l (.lst ys))) listD := by
  intro O H vs ds z Q hp hz hQ
  unfold listD at hz
  split at hz
  · obtain ⟨x, rfl, h1⟩ := p1 hp
    cases hz
    obtain ⟨a, xs, rfl, g, zl, s⟩ := t_list h1
    exact ⟨a, xs, rfl, .inl (SqL.of g), fin_l hQ zl s⟩
  · obtain ⟨x, rfl, h1⟩ := p1 hp
    cases hz
    obtain ⟨a, xs, rfl, g, zl, s⟩ := t_tup h1
    exact ⟨a, xs, rfl, .inr g, fin_l hQ zl s⟩
  · cases hz
theorem rg_sh {O : AP} {H : Hp} {f : Nat → Int} : ∀ l : List Nat, ShA K O H (l.map fun i => V.int (f i)) (l.map fun i => PyData.int (f i))
  | [] => .nil
  | _ :: l => .cons (sh_int.mpr rfl) (rg_sh l)
theorem v_lrng : OpV K (V1 fun x H Q => ∃ n, x = .int n ∧ RgOk 0 n ∧ ∀ q, H q = none → Q (.ref q) (upd H q (.lst (rgV 0 n)))) lrngD := by
  intro O H vs ds z Q hp hz hQ
  unfold lrngD at hz
  split at hz
  · obtain ⟨x, rfl, h1⟩ := p1 hp
    split at hz
    · rename_i n hl
      cases hz
      have hs : sizeLine = 16777216 := sizeLine_eq
      have e : rgV 0 n = (List.range n.toNat).map fun (i : Nat) => V.int (0 + (i : Int)) := by unfold rgV; rw [Int.sub_zero]
      refine ⟨x, rfl, n, t_int h1, RgOk.of_le (by omega) (by omega) (by omega) (by omega), ?_⟩
      rw [e]
      exact fin_l hQ (by simp; omega) (rg_sh _)
    · cases hz
  · cases hz
theorem v_min2 : OpV K (fun xs H Q => ∃ i j, xs = [.int i, .int j] ∧ Q (.int (if j < i then j else i)) H) min2D := by
  intro O H vs ds z Q hp hz hQ
  unfold min2D at hz
  split at hz
  · obtain ⟨x, y, rfl, h1, h2⟩ := p2 hp
    cases hz
    rw [t_int h1, t_int h2]
    exact ⟨_, _, rfl, fin_v hQ (sh_int.mpr rfl)⟩
  · cases hz
theorem v_max2 : OpV K (fun xs H Q => ∃ i j, xs = [.int i, .int j] ∧ Q (.int (if j > i then j else i)) H) max2D := by
  intro O H vs ds z Q hp hz hQ
  unfold max2D at hz
  split at hz
  · obtain ⟨x, y, rfl, h1, h2⟩ := p2 hp
    cases hz
    rw [t_int h1, t_int h2]
    exact ⟨_, _, rfl, fin_v hQ (sh_int.mpr rfl)⟩
  · cases hz
theorem v_int : OpV K (fun xs H Q => (∃ i, xs = [.int i] ∧ Q (.int i) H) ∨ ∃ k, xs = [.bl k] ∧ Q (.int (if k then 1 else 0)) H) intD := by
  intro O H vs ds z Q hp hz hQ
  unfold intD at hz
  split at hz
  · obtain ⟨x, rfl, h1⟩ := p1 hp
    cases hz
    rw [t_int h1]
    exact .inl ⟨_, rfl, fin_v hQ (sh_int.mpr rfl)⟩
  · obtain ⟨x, rfl, h1⟩ := p1 hp
    cases hz
    rw [t_bool h1]
    exact .inr ⟨_, rfl, fin_v hQ (sh_int.mpr rfl)⟩
  · cases hz
end
end PV
namespace PV
open PySem PySem.Spec L2
structure Ok (X : Cx) : Prop where
  calm : X.calm = true
  nd : X.N.Nodup
  un : X.A.units + 65 < cLine
  gd : X.A.guards = some []
theorem Ok.un1 {X : Cx} (k : Ok X) : X.A.units < cLine := by have := k.un; omega
theorem Ok.un2 {X : Cx} (k : Ok X) : X.A.units + 1 < cLine := by have := k.un; omega
section
variable (X : Cx) (xc : XC) (W : WX) (cl : Nat → List Arg → DS → FRes)
noncomputable def DE (e : Expr) (a : E) : Prop := PE X e (tE xc X.K W fun m => ev cl a m)
noncomputable def DA (e : List Expr) (a : Es) : Prop := PA X e (tEs xc X.K W fun m => evs cl a m)
noncomputable def DT (e : Expr) (a : T) : Prop := PT X e (tT xc X.K W fun m => evT cl a m)
noncomputable def DW (e : Expr) (a : T) : Prop := PW X e (tT xc X.K W fun m => evT cl a m)
end
section
variable {xc : XC} {K : PySem.W.Frag} {W : WX} {cl : Nat → List Arg → DS → FRes} {g : Gd} {O0 : AP} {e : Env} {s : DS} {σ : L2.St} {H H1 H' : Hp} {F : List Addr} {m m1 : M}
theorem tE.mono {f : M → Res R} {Q Q' : VK} (h : tE xc K W f σ H Q) (i : ∀ v H, Q v H → Q' v H) : tE xc K W f σ H Q' := by
  obtain ⟨g, O0, e, s, G, h⟩ := h
  refine ⟨g, O0, e, s, G, ?_⟩
  cases hf : f ⟨e, s⟩ with
  | ok r m => simp only [hf] at h ⊢; intro v H' F t rv; exact i _ _ (h v H' F t rv)
  | rz c f m => simp only [hf] at h ⊢; exact h
  | bad => simp only [hf] at h; exact h.elim
theorem tEs.mono {f : M → Res (List R)} {Q Q' : List V → Hp → Prop} (h : tEs xc K W f σ H Q) (i : ∀ v H, Q v H → Q' v H) : tEs xc K W f σ H Q' := by
  obtain ⟨g, O0, e, s, G, h⟩ := h
  refine ⟨g, O0, e, s, G, ?_⟩
  cases hf : f ⟨e, s⟩ with
  | ok r m => simp only [hf] at h ⊢; intro v H' F t rv; exact i _ _ (h v H' F t rv)
  | rz c f m => simp only [hf] at h ⊢; exact h
  | bad => simp only [hf] at h; exact h.elim
theorem tT.mono {f : M → Res Bool} {Q Q' : Bool → Hp → Prop} (h : tT xc K W f σ H Q) (i : ∀ v H, Q v H → Q' v H) : tT xc K W f σ H Q' := by
  obtain ⟨g, O0, e, s, G, h⟩ := h
  refine ⟨g, O0, e, s, G, ?_⟩
  cases hf : f ⟨e, s⟩ with
  | ok r m => simp only [hf] at h ⊢; intro H' t; exact i _ _ (h H' t)
  | rz c f m => simp only [hf] at h ⊢; exact h
  | bad => simp only [hf] at h; exact h.elim
theorem one_ok {a : E} {Q : List V → Hp → Prop} (h : tEs xc K W (fun m => evs cl (.cons a .nil) m) σ H Q) : tE xc K W (fun m => ev cl a m) σ H fun x H1 => Q [x] H1 :=
  (cons_ok (f := fun m => ev cl a m) (fs := fun m => evs cl .nil m) h).mono fun _ _ h => nil_ok h
theorem two_ok {a b : E} {Q : List V → Hp → Prop} (h : tEs xc K W (fun m => evs cl (.cons a (.cons b .nil)) m) σ H Q) : tE xc K W (fun m => ev cl a m) σ H fun x H1 => tE xc K W (fun m => ev cl b m) σ H1 fun y H2 => Q [x, y] H2 :=
  (cons_ok (f := fun m => ev cl a m) (fs := fun m => evs cl (.cons b .nil) m) h).mono fun _ _ h => one_ok h
/-- what an operation must do where its operands may be one's own -/
noncomputable def OpE (K : PySem.W.Frag) (r : List V → Hp → VK → Prop) (o : Op) : Prop :=
  ∀ (g : Gd) (O0 : AP) (e : Env) (σ : L2.St) (H : Hp) (vs : List V) (F : List Addr) (rs : List R) (z : R) (Q : VK), RVs K g (Ow (plus O0 F) e σ) σ H vs F rs → Rep K g (plus O0 F) e σ H → opE e o rs = some z →
    (∀ v H' F', Keep (fun _ => False) H H' → (∀ p ∈ F', H p = none ∧ H' p ≠ none) → RO K (plus (Ow O0 e σ) F') H' v F' z → Q v H') → r vs H Q
theorem OpE.of {r : List V → Hp → VK → Prop} {o : Op} (ho : OpV K r (opD o)) (hn : ∀ e rs, dictOp e o rs = none := by intro _ _; rfl) : OpE K r o := by
  intro g O0 e σ H vs F rs z Q rv rep hz hQ
  unfold opE at hz
  rw [hn] at hz
  cases hd : derefs e rs with
  | none => rw [hd] at hz; cases hz
  | some ds => rw [hd] at hz; exact ho _ H vs ds z Q (rv.vals' rep hd) hz hQ
theorem OpE.use {r : List V → Hp → VK → Prop} {o : Op} {as : Es} (ho : OpE K r o) {Q : VK} (h : tE xc K W (fun m => ev cl (.op o as) m) σ H Q) : tEs xc K W (fun m => evs cl as m) σ H fun vs H1 => r vs H1 Q := by
  obtain ⟨g, O0, e, s, G, h⟩ := h
  refine ⟨g, O0, e, s, G, ?_⟩
  show PostEs xc K W g O0 e σ H _ (evs cl as ⟨e, s⟩)
  have h : PostE xc K W g O0 e σ H Q (match evs cl as ⟨e, s⟩ with
    | .ok rs m1 => match opE m1.e o rs with
      | some r => .ok r m1
      | none => .bad
    | .rz c f m1 => .rz c f m1
    | .bad => .bad) := h
  cases hf : evs cl as ⟨e, s⟩ with
  | ok rs m1 =>
    simp only [hf] at h
    intro vs H1 F1 t1 rvs
    cases hz : opE m1.e o rs with
    | none => simp only [hz] at h; exact h.elim
    | some z =>
      simp only [hz] at h
      exact ho g O0 m1.e σ H1 vs F1 rs z Q rvs t1.rep hz fun v H' F k hF rv => post_op h G t1 k hF rv.rv
  | rz c f m1 => simp only [hf] at h; exact h
  | bad => simp only [hf] at h; exact h
/-- a dict of one's own -/
theorem own_dict {i : Nat} {v : V} {t : Bool} {kvs : List (PyData × PyData)} (rep : Rep K g (plus O0 F) e σ H) (hi : e[i]? = some (.od t kvs)) (hv : σ[i]? = some (some v)) : ∃ p o, v = .ref p ∧ H p = some o ∧ DcT K (Ow O0 e σ) H t o kvs := by
  obtain ⟨p, o, h1, _, h3, h5⟩ := rep.at' i _ hi
  rw [hv] at h1; cases h1
  exact ⟨p, o, rfl, h3, h5.weak fun a z => z.imp .inl id⟩
theorem rv_k {v : V} {d : PyData} {F1 : List Addr} (h : RV1 K g (Ow (plus O0 F) e σ) σ H v F1 (.v d)) : F1 = [] ∧ Sh K (Ow O0 e σ) H v d := ⟨h.1, h.2.weak fun a z => z.imp .inl id⟩
theorem rvs2 {vs : List V} {a b : R} (h : RVs K g (Ow (plus O0 F) e σ) σ H vs F [a, b]) : ∃ x y F1 F2, vs = [x, y] ∧ RV1 K g (Ow (plus O0 F) e σ) σ H x F1 a ∧ RV1 K g (Ow (plus O0 F) e σ) σ H y F2 b := by
  generalize hO : Ow (plus O0 F) e σ = O at h
  cases h with
  | cons r t _ => cases t with
    | cons r' t' _ => cases t'; exact ⟨_, _, _, _, rfl, r, r'⟩
theorem OpE.dict {r : List V → Hp → VK → Prop} {o : Op} (ho : OpV K r (opD o))
    (hd : ∀ (g : Gd) (O0 : AP) (e : Env) (σ : L2.St) (H : Hp) (vs : List V) (F : List Addr) (rs : List R) (z : R) (Q : VK), RVs K g (Ow (plus O0 F) e σ) σ H vs F rs → Rep K g (plus O0 F) e σ H → dictOp e o rs = some z →
      (∀ v H' F', Keep (fun _ => False) H H' → (∀ p ∈ F', H p = none ∧ H' p ≠ none) → RO K (plus (Ow O0 e σ) F') H' v F' z → Q v H') → r vs H Q) : OpE K r o := by
  intro g O0 e σ H vs F rs z Q rv rep hz hQ
  unfold opE at hz
  cases hn : dictOp e o rs with
  | some z' => rw [hn] at hz; cases hz; exact hd g O0 e σ H vs F rs z Q rv rep hn hQ
  | none =>
    rw [hn] at hz
    cases hd : derefs e rs with
    | none => rw [hd] at hz; cases hz
    | some ds => rw [hd] at hz; exact ho _ H vs ds z Q (rv.vals' rep hd) hz hQ
theorem e_in : OpE K (V2 (rInAll K)) .inn := OpE.dict v_in fun g O0 e σ H vs F rs z Q rv rep hz hQ => by
  unfold dictOp at hz
  split at hz <;> try contradiction
  · rename_i k i _
    split at hz
    · rename_i t kvs hi
      split at hz
      · rename_i hk
        cases hz
        obtain ⟨x, y, F1, F2, rfl, r1, r2⟩ := rvs2 rv
        obtain ⟨p, o, rfl, ho, hd⟩ := own_dict rep hi r2.2
        refine ⟨x, _, rfl, .inr ?_⟩
        rcases dget_of ho hd hk (rv_k r1).2 with ⟨z1, z2⟩ | ⟨v, d', z1, z2, z3⟩
        · exact ⟨p, _, rfl, z1, by rw [z2] at hQ; exact fin_v hQ (sh_bool.mpr rfl)⟩
        · exact ⟨p, _, rfl, z1, by rw [z2] at hQ; exact fin_v hQ (sh_bool.mpr rfl)⟩
      · cases hz
    · cases hz
theorem e_notin : OpE K (V2 (rNotInAll K)) .notin := OpE.dict v_notin fun g O0 e σ H vs F rs z Q rv rep hz hQ => by
  unfold dictOp at hz
  split at hz <;> try contradiction
  · rename_i k i _
    split at hz
    · rename_i t kvs hi
      split at hz
      · rename_i hk
        cases hz
        obtain ⟨x, y, F1, F2, rfl, r1, r2⟩ := rvs2 rv
        obtain ⟨p, o, rfl, ho, hd⟩ := own_dict rep hi r2.2
        refine ⟨x, _, rfl, .inr ?_⟩
        rcases dget_of ho hd hk (rv_k r1).2 with ⟨z1, z2⟩ | ⟨v, d', z1, z2, z3⟩
        · exact ⟨p, _, rfl, z1, by rw [z2] at hQ; exact fin_v hQ (sh_bool.mpr rfl)⟩
        · exact ⟨p, _, rfl, z1, by rw [z2] at hQ; exact fin_v hQ (sh_bool.mpr rfl)⟩
      · cases hz
    · cases hz
theorem e_idx : OpE K (V2 (rIxAll K)) .idx := OpE.dict v_idx fun g O0 e σ H vs F rs z Q rv rep hz hQ => by
  unfold dictOp at hz
  split at hz <;> try contradiction
  · rename_i i k _
    split at hz
    · rename_i t kvs hi
      split at hz
      · rename_i hk
        obtain ⟨x, y, F1, F2, rfl, r1, r2⟩ := rvs2 rv
        obtain ⟨p, o, rfl, ho, hd⟩ := own_dict rep hi r1.2
        refine ⟨_, y, rfl, .inr ?_⟩
        rcases dget_of ho hd hk (rv_k r2).2 with ⟨z1, z2⟩ | ⟨v, d', z1, z2, z3⟩
        · rw [z2] at hz; cases hz
        · rw [z2] at hz; cases hz; exact ⟨p, v, rfl, z1, fin_v hQ z3⟩
      · cases hz
    · cases hz
end
section
variable {X : Cx} {xc : XC} {W : WX} {cl : Nat → List Arg → DS → FRes} {a b c : Expr} {ea eb ec : E} {pos : Pos}
theorem de_var {i : Nat} {x : Str} (hN : X.N[i]? = some x) (hv : Vis X.env.scope x) (hd : (x == ("__debug__" : Str)) = false := by decide) (hcd : (x == ("__classdict__" : Str)) = false := by decide) : DE X xc W cl (.Name x pos) (.x i) :=
  PEimp (pe_var hN hv hd hcd) fun σ H Q h => by
    obtain ⟨g, O0, e, s, G, h⟩ := h
    have h : PostE xc X.K W g O0 e σ H Q (match e[i]? with
      | some (.sh d) => .ok (.v d) ⟨e, s⟩
      | some (.ol _) => .ok (.pl i) ⟨e, s⟩
      | some (.od _ _) => .ok (.pl i) ⟨e, s⟩
      | some (.dk k) => .ok (.dk k) ⟨e, s⟩
      | _ => .bad) := h
    cases hi : e[i]? with
    | none => simp only [hi] at h; exact h.elim
    | some sl =>
      have q := G.rep.at' i sl hi
      cases sl with
      | un => simp only [hi] at h; exact h.elim
      | ex a f => simp only [hi] at h; exact h.elim
      | sh d =>
        simp only [hi] at h
        obtain ⟨v, h1, h2⟩ := q
        exact ⟨v, h1, h v H [] G.stp ⟨rfl, h2.weak fun a z => z.imp (fun z => z.elim id (fun z => nomatch z)) id⟩⟩
      | ol ds =>
        simp only [hi] at h
        obtain ⟨p, xs, h1, _⟩ := q
        exact ⟨_, h1, h _ H [] G.stp ⟨rfl, h1⟩⟩
      | od t kvs =>
        simp only [hi] at h
        obtain ⟨p, o, h1, _⟩ := q
        exact ⟨_, h1, h _ H [] G.stp ⟨rfl, h1⟩⟩
      | dk =>
        simp only [hi] at h
        exact ⟨_, q, h _ H [] G.stp ⟨rfl, rfl⟩⟩
theorem tE.const {K : PySem.W.Frag} {d : PyData} {v : V} {σ : L2.St} {H : Hp} {Q : VK} (hs : ∀ O, Sh K O H v d) (h : tE xc K W (fun m => ev cl (.c d) m) σ H Q) : Q v H := by
  obtain ⟨g, O0, e, s, G, h⟩ := h
  exact h v H [] G.stp ⟨rfl, hs _⟩
theorem de_int {i : Int} {j : Nat} : DE X xc W cl (.Constant (.int i) j pos) (.c (.int i)) := PEimp pe_int fun σ H Q h => h.const fun _ => sh_int.mpr rfl
theorem de_bl {i : Bool} {j : Nat} : DE X xc W cl (.Constant (.bool i) j pos) (.c (.bool i)) := PEimp pe_bl fun σ H Q h => h.const fun _ => sh_bool.mpr rfl
theorem de_non {j : Nat} : DE X xc W cl (.Constant .none j pos) (.c .none) := PEimp pe_non fun σ H Q h => h.const fun _ => sh_none.mpr rfl
theorem de_bin {op : Operator} {o : Op} {r : R2} (ho : OpR X (binaryOp op) r) (hv : OpE X.K (V2 r) o) (ha : DE X xc W cl a ea) (hb : DE X xc W cl b eb) : DE X xc W cl (.BinOp a op b pos) (.op o (.cons ea (.cons eb .nil))) :=
  PEimp (pe_op ho ha hb) fun σ H Q h => (two_ok (hv.use h)).mono fun x H1 h => h.mono fun y H2 h => by
    obtain ⟨x', y', e, h⟩ := h
    cases e; exact h
theorem de_cmp {op : CmpOp} {o : Op} {r : R2} (ho : OpR X (compareOp op) r) (hv : OpE X.K (V2 r) o) (ha : DE X xc W cl a ea) (hb : DE X xc W cl b eb) (hm : behindInMarks op b = false := by first | exact nomark _ | with_unfolding_all rfl) : DE X xc W cl (.Compare a [op] [b] pos) (.op o (.cons ea (.cons eb .nil))) :=
  PEimp (pe_cmpR ho ha hb hm) fun σ H Q h => (two_ok (hv.use h)).mono fun x H1 h => h.mono fun y H2 h => by
    obtain ⟨x', y', e, h⟩ := h
    cases e; exact h
theorem de_neg (ha : DE X xc W cl a ea) : DE X xc W cl (.UnaryOp .USub a pos) (.op .neg (.cons ea .nil)) :=
  PEimp (pe_un un_neg ha) fun σ H Q h => (one_ok ((OpE.of v_neg).use h)).mono fun x H1 h => by
    obtain ⟨x', e, h⟩ := h
    cases e; exact h
end
end PV
namespace PV
open PySem PySem.Spec PyProof.Rows L2
theorem deeper_gd {A : Around} {env : PySem.Env} (h : A.guards = some []) : (A.deeper env).guards = some [] := h
structure FnG (P : Program) (w : World) (K : PySem.W.Frag) (mg : Str → Option Value) (base : Heap) (CX : CXT) (k : Nat) (f : Addr) (fd : FuncData) (ps : List Str) (sp : Sp) : Prop where
  len : ∀ vs H Q E, sp vs H Q E → vs.length = ps.length
  run : ∀ (A : Around) (outer : List PySem.Env) (s : Shared) (H : Hp) (args : Args) (us : List Value) (vs : List V) (Q : VK) (E : XK), A.guards = some [] → Room k A → Env0 P w K mg base A outer s H → BindsTo s fd args (ps.zip us) → Vals vs us → sp vs H Q E →
    codeAny (model P w) A (.call (.ref f) args) (CR CX outer P w H s Q E) s
section
variable {P : Program} {w : World} {K : PySem.W.Frag} {mg : Str → Option Value} {base : Heap} {CX : CXT} {k : Nat} {f : Addr} {fd : FuncData} {N ps : List Str} {sp : Sp}
theorem FnG.of (F : FnOk P w K mg base CX k f fd ps sp) : FnG P w K mg base CX k f fd ps sp := ⟨F.len, fun A o s H a us vs Q E _ => F.run A o s H a us vs Q E⟩
theorem FnG.mono {j : Nat} (F : FnG P w K mg base CX j f fd ps sp) (h : j ≤ k) : FnG P w K mg base CX k f fd ps sp := ⟨F.len, fun A o s H a us vs Q E g r => F.run A o s H a us vs Q E g (r.mono h)⟩
theorem FnG.imp {sp' : Sp} (F : FnG P w K mg base CX k f fd ps sp) (h : ∀ vs H Q E, sp' vs H Q E → sp vs H Q E) : FnG P w K mg base CX k f fd ps sp' :=
  ⟨fun vs H Q E z => F.len vs H Q E (h vs H Q E z), fun A o s H a us vs Q E g r e b v z => F.run A o s H a us vs Q E g r e b v (h vs H Q E z)⟩
/-- a def by its body -/
theorem FnG.body {name qual : Str} {params : Arguments} {bd : List Stmt} {scope : Scope} {dV kV doc pm cdv ct oc : Value} {an od : Option Addr} {osl : Array (Option Value)}
    (lk : K.lookup f = some ⟨oc, od, .func (PySem.W.fnOf name qual params bd scope dV kV doc pm an cdv ct), osl⟩) (hcd : PySem.W.codeIn K cdv qual = true) (S : FnScope N ps scope) (len : ∀ vs H Q E, sp vs H Q E → vs.length = ps.length)
    (hb : ∀ (A : Around) (outer : List PySem.Env) (s : Shared) (H : Hp) (vs : List V) (Q : VK) (E : XK), A.guards = some [] → Room k (A.deeper (envOfC qual scope s.heap.objs.size f cdv)) → (∀ b ∈ frs outer, H b = none) → sp vs H Q E →
      ∃ t, PSs (cxOf CX P w K mg base N qual scope f cdv A outer s H E) bd t ∧ t { nx := fun _ H' => Q .non H', rt := Q } (start N vs) H) :
    FnG P w K mg base CX (k + 1) f (PySem.W.fnOf name qual params bd scope dV kV doc pm an cdv ct) ps sp := by
  refine ⟨len, fun A outer s H args us vs Q E hg hr e0 hbd r hsp => ?_⟩
  have inK : K.In s.heap := e0.mod.kin.keeps fun b o e => (e0.bs b o e).1
  have lim : s.heap.NoLimit := e0.mod.nolimit.keeps fun b o e => (e0.bs b o e).1
  have each : ∀ y ∈ ps.zip us, scope.names.lookup y.1 = some .local ∨ (scope.names.lookup y.1 = some .cell ∧ ((cellsFrom (s.heap.objs.size + 1) scope.names []).lookup y.1).isSome = true) := by
    rintro ⟨n, v⟩ hy
    exact (S.par n (List.of_mem_zip hy).1).imp id fun q => ⟨q, PySem.W.cellsFrom_some _ _ _ (.inl q)⟩
  refine codeAny_call_function hr.depth (inK _ _ lk) rfl S.co S.gen rfl (PySem.W.codeRec_of inK hcd) (hbd _ _ _ _ ?_)
  refine wpAny_newFunctionEnv_cells S.kind each fun env he s1 x => ?_
  cases he
  refine ⟨lim.keeps x.toInCall.keep, codeAny_func ?_⟩
  obtain ⟨t, ht, hq⟩ := hb A outer s H vs Q E hg (hr.deeper _) e0.frf hsp
  refine wpAny_mono (ht.run [] s1 (start N vs) H _ (inv_start S hr.hd e0 (len _ _ _ _ hsp) r x) hq) (fun fl s' hs => ?_) fun e s' hs => hs
  cases fl with
  | brk => obtain ⟨_, _, _, z⟩ := hs; exact z.elim
  | cont => obtain ⟨_, _, _, z⟩ := hs; exact z.elim
  | next =>
    obtain ⟨σ', H', J, q⟩ := hs
    exact ⟨V.non, H', J.os, J.bare, J.base, J.hok, rfl, q⟩
  | ret u =>
    obtain ⟨v, σ', H', J, rv, q⟩ := hs
    exact ⟨v, H', J.os, J.bare, J.base, J.hok, rv, q⟩
end
section
variable {X : Cx} {CX : CXT} {k : Nat} {f : Addr} {fd : FuncData} {ps : List Str} {sp : Sp} {E : L2.St → XK} {x : Str} {p pos : Pos} {e : Expr} {es : List Expr} {t : TA}
theorem FnG.called {pins : List (Addr × Obj)} {σ : L2.St} {H : Hp} {s : Shared} {Q : VK} {us : List Value} {vs : List V} (F : FnG X.prog X.w X.K X.mg X.base CX k f fd ps sp) (gd : X.A.guards = some []) (hr : Room k X.A) (hb : Binds X.K fd ps []) (hx : PassesAt CX X σ (E σ))
    (I : Inv X pins σ H s) (r : Vals vs us) (h : sp vs H Q (E σ)) : wpAny (model X.prog X.w) X.A (call (.ref f) us) (EP X pins σ Q) X.xe s := by
  have hl : (us ++ []).length = ps.length := by rw [List.append_nil, ← r.length]; exact F.len _ _ _ _ h
  have bt := hb s us I.kIn hl
  rw [List.append_nil] at bt
  refine wpAny_call (codeAny_mono (F.run X.A X.stack s H ⟨us, []⟩ us vs Q (E σ) gd hr I.env0 bt r h) fun z s' hq => ?_)
  rcases z with e | fl
  rotate_left
  · cases fl with
    | ret u => exact I.after hq
    | next => exact False.elim hq
    | brk => exact False.elim hq
    | cont => exact False.elim hq
  · exact hx pins H s e s' I hq
noncomputable def tCallG (sp : Sp) (E : L2.St → XK) (t : TA) : TE := fun σ H Q => t σ H fun vs H1 => sp vs H1 Q (E σ)
theorem pe_callG (F : FnG X.prog X.w X.K X.mg X.base CX k f fd ps sp) (gd : X.A.guards = some []) (hr : Room k X.A) (hg : Gl X x) (hm : X.mg x = some (.ref f)) (hk : PySem.W.keepIn X.K (.ref f) = true) (hb : Binds X.K fd ps []) (hx : ∀ σ, PassesAt CX X σ (E σ))
    (ha : PA X (e :: es) t) (hdb : (x == ("__debug__" : Str)) = false := by decide) (he : starEach (e :: es) X.env = (false, eval e X.env) :: starEach es X.env := by rfl) (hpl : (backTo pos (starEach es X.env)).any (·.1) = false := by rfl) :
    PE X (.Call (.Name x p) (e :: es) [] pos) (tCallG sp E t) :=
  ⟨fun pins s σ H Q I h => wpAny_Call_Name_kw (ld_glob I hg hm (PySem.W.callWith_K (h₀ := X.base) I.ok.mod.kin hk
    (thn (ha.run pos pins s σ H _ I h) fun us s1 ⟨vs, H1, I1, r, q⟩ => ⟨I1.kIn, F.called gd hr hb (hx σ) I1 r q⟩) he hpl) hdb)⟩
end
end PV
namespace PV
open PySem PySem.Spec PyProof.Rows L2
/-- the script alone is known, where the module has it not itself -/
noncomputable def Hs (c : Bool) (a : Addr) (o : Obj) (xs : List V) : Hp := fun b => if c = true ∧ b = a then some (.frz o (.lst xs)) else none
theorem Hs_inv {c : Bool} {a b : Addr} {o : Obj} {xs : List V} {u : HO} (h : Hs c a o xs b = some u) : c = true ∧ b = a ∧ u = .frz o (.lst xs) := by
  unfold Hs at h
  split at h
  · rename_i q; exact ⟨q.1, q.2, (Option.some.inj h).symm⟩
  · cases h
end PV
namespace PV
open PySem PySem.Spec L2
inductive ArgR (K : PySem.W.Frag) (g : Gd) (O : AP) (H : Hp) : V → Arg → Prop where
  | sh {v : V} {d : PyData} (h : Sh K O H v d) : ArgR K g O H v (.sh d)
  | dk (k : Nat) : ArgR K g O H (.ref (g.ad k)) (.dk k)
  | nil (v : V) : ArgR K g O H v .nil
noncomputable def PostF (xc : XC) (K : PySem.W.Frag) (g : Gd) (O : AP) (H : Hp) (Q : VK) (E : XK) : FRes → Prop
  | .ok r s' => ∀ v H' F, Keep (DkS g) H H' → (∀ p ∈ F, H p = none ∧ H' p ≠ none) → RO K (plus O F) H' v F r → DkRep g s' H' → Q v H'
  | .rz c f s' => ∀ cls dd H', Keep (DkS g) H H' → XcR xc K O H' c f cls dd → DkRep g s' H' → E cls dd H'
  | .bad => False
noncomputable def spF (xc : XC) (K : PySem.W.Frag) (np : Nat) (sem : List Arg → DS → FRes) : Sp := fun vs H Q E => vs.length = np ∧ ∃ g O args s, GOb K g ∧ (∀ a, DkS g a → O a) ∧ (∀ a, O a → H a ≠ none) ∧ DkRep g s H ∧ Paired (ArgR K g O H) vs args ∧ PostF xc K g O H Q E (sem args s)
section
variable {xc : XC} {K : PySem.W.Frag} {W : WX} {cl : Nat → List Arg → DS → FRes} {g : Gd} {O O0 : AP} {e e0 : Env} {s : DS} {σ : L2.St} {H H0 H1 H' : Hp} {F : List Addr} {m m1 : M}
/-- behind a call: the deck may have been turned -/
theorem Good.called (G : Good K g O0 e s σ H) {s' : DS} (k : Keep (DkS g) H H') (hF : ∀ p ∈ F, H p = none ∧ H' p ≠ none) (dk : DkRep g s' H') : Stp K g O0 e σ H F ⟨e, s'⟩ H' := by
  refine ⟨k.mono fun _ z => .inr z, fun _ z => z, fun p hp => ?_, G.rep.go k G.dk0 fun a z => z.imp id fun z => (hF a z).1, dk⟩
  obtain ⟨h1, h2⟩ := hF p hp
  refine ⟨h1, fun z => G.oe p z h1, fun z => ?_, h2⟩
  obtain ⟨_, o, ho, _⟩ := G.rep.owned z
  rw [h1] at ho; cases ho
/-- the arguments, as the callee sees them -/
theorem arg_of {v : V} {r : R} {F1 : List Addr} {a : Arg} (G : Good K g O0 e s σ H) (hn : ∀ p ∈ F1, ¬ O0 p ∧ ¬ own e σ p) (h : RV1 K g (Ow (plus O0 F) e σ) σ H v F1 r) (hO : ∀ a, O a → Ow O0 e σ a) (hp : ∀ i, r = .pl i → ∀ a, O a → O0 a)
    (ha : toArgs e [r] = some [a]) : ArgR K g O H v a := by
  have wk : ∀ a, Ow O0 e σ a → Ow (plus O0 F) e σ a := fun a z => z.imp .inl id
  cases r with
  | v d =>
    obtain rfl : Arg.sh d = a := by simpa [toArgs, deref] using ha
    exact .sh (h.2.weak fun a z => wk a (hO a z))
  | fl ds =>
    obtain rfl : Arg.sh (.list ds) = a := by simpa [toArgs, deref] using ha
    obtain ⟨p, xs, rfl, rfl, hp, z, q⟩ := h
    obtain ⟨n1, n2⟩ := hn p (by simp)
    exact .sh (sh_list.mpr ⟨p, xs, rfl, ⟨fun z => (hO p z).elim n1 n2, hp⟩, z, q.weak fun a z => wk a (hO a z)⟩)
  | fd t kvs =>
    obtain rfl : Arg.sh (.dict kvs) = a := by simpa [toArgs, deref] using ha
    obtain ⟨p, o, rfl, rfl, hp, q⟩ := h
    obtain ⟨n1, n2⟩ := hn p (by simp)
    exact .sh (sh_dict.mpr ⟨p, o, rfl, fun z => (hO p z).elim n1 n2, hp, q.is.weak fun a z => wk a (hO a z)⟩)
  | dk =>
    obtain rfl : Arg.dk _ = a := by simpa [toArgs] using ha
    obtain ⟨_, rfl⟩ := h
    exact .dk _
  | pl i =>
    obtain ⟨_, hi⟩ := h
    have hp := hp i rfl
    cases hs : e[i]? with
    | none => simp [toArgs, deref, hs] at ha
    | some sl =>
      have q := G.rep.at' i sl hs
      cases sl with
      | un => simp [toArgs, deref, hs] at ha
      | ex a f => simp [toArgs, deref, hs] at ha
      | dk => simp [toArgs, deref, hs] at ha
      | sh d' =>
        obtain rfl : Arg.sh d' = a := by simpa [toArgs, deref, hs] using ha
        obtain ⟨v', h1, h2⟩ := q
        rw [hi] at h1; cases h1
        exact .sh (h2.weak hO)
      | ol ds =>
        obtain rfl : Arg.sh (.list ds) = a := by simpa [toArgs, deref, hs] using ha
        obtain ⟨p, xs, h1, n0, h3, h4, h5⟩ := q
        rw [hi] at h1; cases h1
        exact .sh (sh_list.mpr ⟨p, xs, rfl, ⟨fun z => n0 (hp p z), h3⟩, h4, h5.weak hO⟩)
      | od t kvs =>
        obtain rfl : Arg.sh (.dict kvs) = a := by simpa [toArgs, deref, hs] using ha
        obtain ⟨p, o, h1, n0, h3, h5⟩ := q
        rw [hi] at h1; cases h1
        exact .sh (sh_dict.mpr ⟨p, o, rfl, fun z => n0 (hp p z), h3, h5.is.weak hO⟩)
theorem toArgs_cons {r : R} {rs : List R} {as : List Arg} (h : toArgs e (r :: rs) = some as) : ∃ a as', as = a :: as' ∧ toArgs e [r] = some [a] ∧ toArgs e rs = some as' := by
  cases r <;> simp only [toArgs] at h ⊢
  case dk =>
    cases h2 : toArgs e rs with
    | none => rw [h2] at h; cases h
    | some as' => rw [h2] at h; cases h; exact ⟨_, _, rfl, rfl, rfl⟩
  all_goals
    split at h
    · rename_i d ds h1 h2
      cases h
      refine ⟨_, _, rfl, ?_, h2⟩
      simp [h1]
    · cases h
theorem args_of (G : Good K g O0 e s σ H) (hO : ∀ a, O a → Ow O0 e σ a) : ∀ {vs : List V} {F1 : List Addr} {rs : List R} {as : List Arg}, RVs K g (Ow (plus O0 F) e σ) σ H vs F1 rs → (∀ p ∈ F1, ¬ O0 p ∧ ¬ own e σ p) → (hasPl rs = true → ∀ a, O a → O0 a) → toArgs e rs = some as → Paired (ArgR K g O H) vs as
  | _, _, _, as, .nil, _, _, h => by
    obtain rfl : as = [] := by simpa [toArgs] using h.symm
    exact .nil
  | _, _, _, as, @RVs.cons _ _ _ _ _ v vs F1 F2 r rs h t _, hn, hp, ha => by
    obtain ⟨a, as', rfl, h1, h2⟩ := toArgs_cons ha
    refine .cons (arg_of G (fun p z => hn p (List.mem_append_left _ z)) h hO (fun i e => ?_) h1) (args_of G hO t (fun p z => hn p (List.mem_append_right _ z)) (fun z => ?_) h2)
    · subst e; exact hp rfl
    · refine hp ?_
      cases r <;> first | rfl | exact z
theorem RO.flat {O O' : AP} {v : V} {r : R} (f : flatR r = true) (h : RO K O H v F r) : RO K O' H v F r := by
  cases r with
  | v d => exact ⟨h.1, h.2.flat f⟩
  | fl ds =>
    obtain ⟨p, xs, h1, h2, h3, h4, h5⟩ := h
    exact ⟨p, xs, h1, h2, h3, h4, Paired.imp_mem h5 fun _ d hd q => q.flat (flatA_mem f d hd)⟩
  | fd t kvs => simp [flatR] at f
  | pl i => exact h.elim
  | dk => exact h.elim
theorem RO.weak {O O' : AP} {v : V} {r : R} (n : ∀ a, O' a → O a) (h : RO K O H v F r) : RO K O' H v F r := by
  cases r with
  | v d => exact ⟨h.1, h.2.weak n⟩
  | fl ds =>
    obtain ⟨p, xs, h1, h2, h3, h4, h5⟩ := h
    exact ⟨p, xs, h1, h2, h3, h4, h5.weak n⟩
  | fd t kvs =>
    obtain ⟨p, o, h1, h2, h3, h5⟩ := h
    exact ⟨p, o, h1, h2, h3, h5.weak n⟩
  | pl i => exact h.elim
  | dk => exact h.elim
theorem XcR.flat {O O' : AP} {c : Nat} {x : Option PyData} {cls : Value} {dd : Option Addr} (f : flatO x = true) (h : XcR xc K O H c x cls dd) : XcR xc K O' H c x cls dd := by
  obtain ⟨fn, e, h⟩ := h
  refine ⟨fn, e, ?_⟩
  cases fn with
  | none => cases x with
    | none => exact h
    | some d => exact h.elim
  | some m => cases x with
    | none => exact h.elim
    | some d => obtain ⟨a, v, h1, h2, h3⟩ := h; exact ⟨a, v, h1, h2, h3.flat f⟩
theorem call_ok {f np : Nat} {as : Es} (hnp : ∀ args s, cl f args s ≠ .bad → args.length = np) {Q : VK} (h : tE xc K W (fun m => ev cl (.call f as) m) σ H Q) :
    tEs xc K W (fun m => evs cl as m) σ H fun vs H1 => spF xc K np (cl f) vs H1 Q fun c d H => W c d σ H := by
  obtain ⟨g, O0, e, s, G, h⟩ := h
  refine ⟨g, O0, e, s, G, ?_⟩
  show PostEs xc K W g O0 e σ H _ (evs cl as ⟨e, s⟩)
  have h : PostE xc K W g O0 e σ H Q (match evs cl as ⟨e, s⟩ with
    | .ok rs m1 => match toArgs m1.e rs with
      | some as => match cl f as m1.s with
        | .ok r s => if hasPl rs = true ∧ flatR r = false then .bad else match r with
          | .pl _ => .bad
          | .dk _ => .bad
          | r => .ok r ⟨m1.e, s⟩
        | .rz c f s => if hasPl rs = true ∧ flatO f = false then .bad else .rz c f ⟨m1.e, s⟩
        | .bad => .bad
      | none => .bad
    | .rz c f m1 => .rz c f m1
    | .bad => .bad) := h
  cases hf : evs cl as ⟨e, s⟩ with
  | rz c f m1 => simp only [hf] at h; exact h
  | bad => simp only [hf] at h; exact h
  | ok rs m1 =>
    simp only [hf] at h
    intro vs H1 F1 t1 rvs
    cases ha : toArgs m1.e rs with
    | none => simp only [ha] at h; exact h.elim
    | some args =>
      simp only [ha] at h
      have G1 := G.step0 t1
      have nw : ∀ p ∈ F1, ¬ O0 p ∧ ¬ own m1.e σ p := fun p hp => ⟨(t1.new p hp).2.1, (t1.new p hp).2.2.1⟩
      have fin : ∀ (O : AP) {r : R} {s' : DS}, (∀ a, O a → Ow O0 m1.e σ a) → (∀ v H' F', RO K (plus O F') H' v F' r → RO K (plus (Ow O0 m1.e σ) F') H' v F' r) →
          (∀ v H' F, Stp K g O0 e σ H F ⟨m1.e, s'⟩ H' → RV1 K g (Ow (plus O0 F) m1.e σ) σ H' v F r → Q v H') →
          ∀ v H' F', Keep (DkS g) H1 H' → (∀ p ∈ F', H1 p = none ∧ H' p ≠ none) → RO K (plus O F') H' v F' r → DkRep g s' H' → Q v H' := fun O r s' hO hr h v H' F' k hF ro dk => by
        refine h v H' F' (t1.forget.trans0 (G1.called k hF dk)) (RO.rv (RO.weak ?_ (hr v H' F' ro)))
        intro a z
        rcases z with (z | z) | z
        · exact .inl (.inl z)
        · exact .inr z
        · exact .inl (.inr z)
      by_cases hp : hasPl rs = true
      · -- an own one is lent
        have bad : ∀ r s', cl f args m1.s = .ok r s' → flatR r = true := fun r s' hc => by
          simp only [hc] at h
          cases hfl : flatR r with
          | true => rfl
          | false => simp only [hp, hfl, and_self, if_true] at h; exact h.elim
        cases hc : cl f args m1.s with
        | bad => simp only [hc] at h; exact h.elim
        | rz c x s' =>
          simp only [hc] at h
          have hfl : flatO x = true := by
            cases hfl : flatO x with
            | true => rfl
            | false => simp only [hp, hfl, and_self, if_true] at h; exact h.elim
          rw [if_neg (by rw [hfl]; simp)] at h
          refine ⟨?_, g, O0, args, m1.s, G.ob, G.dk0, G1.oe, t1.dk, args_of G1 (fun a z => .inl z) rvs nw (fun _ _ z => z) ha, ?_⟩
          · rw [Paired.len (args_of (O := O0) G1 (fun a z => .inl z) rvs nw (fun _ _ z => z) ha)]; exact hnp args m1.s (by rw [hc]; simp)
          · rw [hc]
            intro cls dd H' k x dk
            exact h cls dd H' (t1.forget.trans0 (G1.called (F := []) k (fun _ z => nomatch z) dk)) (x.flat hfl)
        | ok r s' =>
          have hfl := bad r s' hc
          simp only [hc] at h
          rw [if_neg (by rw [hfl]; simp)] at h
          refine ⟨?_, g, O0, args, m1.s, G.ob, G.dk0, G1.oe, t1.dk, args_of G1 (fun a z => .inl z) rvs nw (fun _ _ z => z) ha, ?_⟩
          · rw [Paired.len (args_of (O := O0) G1 (fun a z => .inl z) rvs nw (fun _ _ z => z) ha)]; exact hnp args m1.s (by rw [hc]; simp)
          · rw [hc]
            cases r with
            | pl i => exact h.elim
            | dk => exact h.elim
            | v d => exact fin O0 (fun a z => .inl z) (fun v H' F' z => z.flat hfl) h
            | fl d => exact fin O0 (fun a z => .inl z) (fun v H' F' z => z.flat hfl) h
            | fd t d => exact fin O0 (fun a z => .inl z) (fun v H' F' z => z.flat hfl) h
      · have oe : ∀ a, Ow O0 m1.e σ a → H1 a ≠ none := fun a z => z.elim (G1.oe a) fun z q => by
          obtain ⟨_, o, ho, _⟩ := G1.rep.owned z
          rw [q] at ho; cases ho
        have ap := args_of (O := Ow O0 m1.e σ) G1 (fun a z => z) rvs nw (fun z => absurd z hp) ha
        cases hc : cl f args m1.s with
        | bad => simp only [hc] at h; exact h.elim
        | rz c x s' =>
          simp only [hc] at h
          rw [if_neg fun z => hp z.1] at h
          refine ⟨by rw [Paired.len ap]; exact hnp args m1.s (by rw [hc]; simp), g, Ow O0 m1.e σ, args, m1.s, G.ob, fun a z => .inl (G.dk0 a z), oe, t1.dk, ap, ?_⟩
          rw [hc]
          intro cls dd H' k x dk
          exact h cls dd H' (t1.forget.trans0 (G1.called (F := []) k (fun _ z => nomatch z) dk)) x
        | ok r s' =>
          simp only [hc] at h
          rw [if_neg fun z => hp z.1] at h
          refine ⟨by rw [Paired.len ap]; exact hnp args m1.s (by rw [hc]; simp), g, Ow O0 m1.e σ, args, m1.s, G.ob, fun a z => .inl (G.dk0 a z), oe, t1.dk, ap, ?_⟩
          rw [hc]
          cases r with
          | pl i => exact h.elim
          | dk => exact h.elim
          | v d => exact fin _ (fun a z => z) (fun v H' F' z => z) h
          | fl d => exact fin _ (fun a z => z) (fun v H' F' z => z) h
          | fd t d => exact fin _ (fun a z => z) (fun v H' F' z => z) h
end
end PV
namespace PV
open PySem PySem.Spec L2
section
variable {xc : XC} {K : PySem.W.Frag} {W : WX} {cl : Nat → List Arg → DS → FRes} {g : Gd} {O O0 : AP} {e e0 e' : Env} {s : DS} {σ : L2.St} {H H0 H1 H' : Hp} {F : List Addr} {m m1 : M}
theorem ow_of (h : ∀ a, own e' σ a → own e σ a) : ∀ a, Ow O0 e' σ a → Ow O0 e σ a := fun a z => z.imp id (h a)
theorem esc_ok {v : V} {r : R} {d : PyData} {F1 : List Addr} (rep : Rep K g O0 e σ H) (h : RV1 K g (Ow (plus O0 F) e σ) σ H v F1 r) (hn : ∀ p ∈ F1, ¬ O0 p ∧ ¬ own e σ p) (he : esc e r = some (d, e')) :
    Rep K g O0 e' σ H ∧ (∀ a, own e' σ a → own e σ a) ∧ Sh K (Ow O0 e' σ) H v d := by
  have wk : ∀ a, Ow O0 e σ a → Ow (plus O0 F) e σ a := fun a z => z.imp .inl id
  cases r with
  | v d' =>
    obtain ⟨rfl, rfl⟩ : d' = d ∧ e = e' := by simpa [esc] using he
    exact ⟨rep, fun _ z => z, h.2.weak wk⟩
  | fl ds =>
    obtain ⟨rfl, rfl⟩ : PyData.list ds = d ∧ e = e' := by simpa [esc] using he
    obtain ⟨p, xs, rfl, rfl, hp, z, q⟩ := h
    obtain ⟨n1, n2⟩ := hn p (by simp)
    exact ⟨rep, fun _ z => z, sh_list.mpr ⟨p, xs, rfl, ⟨fun z => z.elim n1 n2, hp⟩, z, q.weak wk⟩⟩
  | fd t kvs =>
    obtain ⟨rfl, rfl⟩ : PyData.dict kvs = d ∧ e = e' := by simpa [esc] using he
    obtain ⟨p, o, rfl, rfl, hp, q⟩ := h
    obtain ⟨n1, n2⟩ := hn p (by simp)
    exact ⟨rep, fun _ z => z, sh_dict.mpr ⟨p, o, rfl, fun z => z.elim n1 n2, hp, q.is.weak wk⟩⟩
  | dk => simp [esc] at he
  | pl i =>
    obtain ⟨_, hi⟩ := h
    cases hs : e[i]? with
    | none => simp [esc, hs] at he
    | some sl =>
      cases sl with
      | un => simp [esc, hs] at he
      | ex a f => simp [esc, hs] at he
      | dk => simp [esc, hs] at he
      | sh d' =>
        obtain ⟨rfl, rfl⟩ : d' = d ∧ e = e' := by simpa [esc, hs] using he
        obtain ⟨v', h1, h2⟩ := rep.at' i _ hs
        rw [hi] at h1; cases h1
        exact ⟨rep, fun _ z => z, h2⟩
      | ol ds =>
        obtain ⟨rfl, rfl⟩ : PyData.list ds = d ∧ e.set i (.sh (.list ds)) = e' := by simpa [esc, hs] using he
        obtain ⟨v', h1, h2, h3⟩ := rep.share (.inl ⟨ds, hs, rfl⟩)
        rw [hi] at h1; cases h1
        exact ⟨h3, fun a z => own_set' rfl z, h2⟩
      | od t kvs =>
        obtain ⟨rfl, rfl⟩ : PyData.dict kvs = d ∧ e.set i (.sh (.dict kvs)) = e' := by simpa [esc, hs] using he
        obtain ⟨v', h1, h2, h3⟩ := rep.share (.inr ⟨t, kvs, hs, rfl⟩)
        rw [hi] at h1; cases h1
        exact ⟨h3, fun a z => own_set' rfl z, h2⟩
theorem RV1.weak {v : V} {r : R} {O' : AP} (n : ∀ a, O' a → O a) (h : RV1 K g O σ H v F r) : RV1 K g O' σ H v F r := h.go (M := fun _ => False) Keep.refl (fun _ z => z.elim) (fun _ _ z => z) fun a z => .inl (n a z)
theorem RVs.weak {vs : List V} {rs : List R} {O' : AP} (n : ∀ a, O' a → O a) (h : RVs K g O σ H vs F rs) : RVs K g O' σ H vs F rs := h.go (M := fun _ => False) Keep.refl (fun _ z => z.elim) (fun _ _ z => z) fun a z => .inl (n a z)
theorem escs_ok : ∀ {rs : List R} {vs : List V} {ds : List PyData} {F1 : List Addr} {e : Env}, Rep K g O0 e σ H → RVs K g (Ow (plus O0 F) e σ) σ H vs F1 rs → (∀ p ∈ F1, ¬ O0 p ∧ ¬ own e σ p) → escs e rs = some (ds, e') →
    Rep K g O0 e' σ H ∧ (∀ a, own e' σ a → own e σ a) ∧ ShA K (Ow O0 e' σ) H vs ds
  | [], vs, ds, F1, e, rep, h, _, he => by
    cases h
    obtain ⟨rfl, rfl⟩ : [] = ds ∧ e = e' := by simpa [escs] using he
    exact ⟨rep, fun _ z => z, .nil⟩
  | r :: rs, vs, ds, F1, e, rep, h, hn, he => by
    cases h with
    | cons h1 h2 hd =>
      rename_i v vs F1 F2
      simp only [escs] at he
      split at he
      · rename_i d e1 he1
        split at he
        · rename_i ds' e2 he2
          cases he
          obtain ⟨r1, o1, s1⟩ := esc_ok rep h1 (fun p hp => hn p (List.mem_append_left _ hp)) he1
          obtain ⟨r2, o2, s2⟩ := escs_ok r1 (h2.weak (ow_of o1)) (fun p hp => ⟨(hn p (List.mem_append_right _ hp)).1, fun z => (hn p (List.mem_append_right _ hp)).2 (o1 p z)⟩) he2
          exact ⟨r2, fun a z => o1 a (o2 a z), .cons (s1.weak (ow_of o2)) s2⟩
        · cases he
      · cases he
theorem stp_esc (G : Good K g O0 e s σ H) (rep : Rep K g O0 e' σ H) (o : ∀ a, own e' σ a → own e σ a) : Stp K g O0 e σ H [] ⟨e', s⟩ H :=
  ⟨Keep.refl, o, (fun _ z => nomatch z), rep.weak fun a z => z.elim id (fun z => nomatch z), G.dk⟩
theorem tup_ok {as : Es} {Q : VK} (h : tE xc K W (fun m => ev cl (.tup as) m) σ H Q) : tEs xc K W (fun m => evs cl as m) σ H fun xs H1 => xs.length ≤ sizeLine ∧ ∀ p, H1 p = none → Q (.ref p) (upd H1 p (.tup xs)) := by
  obtain ⟨g, O0, e, s, G, h⟩ := h
  refine ⟨g, O0, e, s, G, ?_⟩
  show PostEs xc K W g O0 e σ H _ (evs cl as ⟨e, s⟩)
  have h : PostE xc K W g O0 e σ H Q (match evs cl as ⟨e, s⟩ with
    | .ok rs m1 => match escs m1.e rs with
      | some (ds, e) => if ds.length ≤ LIM then .ok (.v (.tuple ds)) ⟨e, m1.s⟩ else .bad
      | none => .bad
    | .rz c f m1 => .rz c f m1
    | .bad => .bad) := h
  cases hf : evs cl as ⟨e, s⟩ with
  | rz c f m1 => simp only [hf] at h; exact h
  | bad => simp only [hf] at h; exact h
  | ok rs m1 =>
    simp only [hf] at h
    intro vs H1 F1 t1 rvs
    cases he : escs m1.e rs with
    | none => simp only [he] at h; exact h.elim
    | some de =>
      obtain ⟨ds, e2⟩ := de
      simp only [he] at h
      have G1 := G.step0 t1
      obtain ⟨r2, o2, s2⟩ := escs_ok G1.rep rvs (fun p hp => ⟨(t1.new p hp).2.1, (t1.new p hp).2.2.1⟩) he
      by_cases hl : ds.length ≤ LIM
      · rw [if_pos hl] at h
        refine ⟨by rw [Paired.len s2, ← LIM_eq]; exact hl, fun p np => ?_⟩
        have t2 := t1.forget.trans0 (stp_esc G1 r2 o2)
        have ro := RO.tup (K := K) (O := Ow O0 e2 σ) np (by rw [Paired.len s2, ← LIM_eq]; exact hl) s2
        exact post_op h G t2 (F' := []) (Keep.new np) nilF ro.rv
      · rw [if_neg hl] at h; exact h.elim
theorem lst_ok {as : Es} {Q : VK} (h : tE xc K W (fun m => ev cl (.lst as) m) σ H Q) : tEs xc K W (fun m => evs cl as m) σ H fun xs H1 => xs.length ≤ sizeLine ∧ ∀ p, H1 p = none → Q (.ref p) (upd H1 p (.lst xs)) := by
  obtain ⟨g, O0, e, s, G, h⟩ := h
  refine ⟨g, O0, e, s, G, ?_⟩
  show PostEs xc K W g O0 e σ H _ (evs cl as ⟨e, s⟩)
  have h : PostE xc K W g O0 e σ H Q (match evs cl as ⟨e, s⟩ with
    | .ok rs m1 => match escs m1.e rs with
      | some (ds, e) => if ds.length ≤ LIM then .ok (.fl ds) ⟨e, m1.s⟩ else .bad
      | none => .bad
    | .rz c f m1 => .rz c f m1
    | .bad => .bad) := h
  cases hf : evs cl as ⟨e, s⟩ with
  | rz c f m1 => simp only [hf] at h; exact h
  | bad => simp only [hf] at h; exact h
  | ok rs m1 =>
    simp only [hf] at h
    intro vs H1 F1 t1 rvs
    cases he : escs m1.e rs with
    | none => simp only [he] at h; exact h.elim
    | some de =>
      obtain ⟨ds, e2⟩ := de
      simp only [he] at h
      have G1 := G.step0 t1
      obtain ⟨r2, o2, s2⟩ := escs_ok G1.rep rvs (fun p hp => ⟨(t1.new p hp).2.1, (t1.new p hp).2.2.1⟩) he
      by_cases hl : ds.length ≤ LIM
      · rw [if_pos hl] at h
        refine ⟨by rw [Paired.len s2, ← LIM_eq]; exact hl, fun p np => ?_⟩
        have t2 := t1.forget.trans0 (stp_esc G1 r2 o2)
        have ro := RO.new (K := K) (O := Ow O0 e2 σ) np (by rw [Paired.len s2, ← LIM_eq]; exact hl) s2
        exact post_op h G t2 (Keep.new np) (newF np) ro.rv
      · rw [if_neg hl] at h; exact h.elim
/-- e, a plain value; then the rest -/
theorem then_ok {f : M → Res R} {k : PyData → M → Res R} {Q : VK}
    (h : tE xc K W (fun m => match f m with
      | .ok (.v d) m1 => k d m1
      | .ok _ _ => .bad
      | .rz c f m1 => .rz c f m1
      | .bad => .bad) σ H Q) {Q' : VK} (i : ∀ g O0 e s v d H1, Good K g O0 e s σ H1 → Sh K (Ow O0 e σ) H1 v d → PostE xc K W g O0 e σ H1 Q (k d ⟨e, s⟩) → Q' v H1) : tE xc K W f σ H Q' := by
  obtain ⟨g, O0, e, s, G, h⟩ := h
  refine ⟨g, O0, e, s, G, ?_⟩
  cases hf : f ⟨e, s⟩ with
  | rz c f m1 => simp only [hf] at h; exact h
  | bad => simp only [hf] at h; exact h
  | ok r m1 =>
    simp only [hf] at h
    intro v H1 F1 t1 rv
    cases r with
    | v d =>
      obtain ⟨rfl, rv⟩ := rv
      simp only at h
      have rv' : Sh K (Ow O0 m1.e σ) H1 v d := rv.weak fun a z => z.imp .inl id
      refine i g O0 m1.e m1.s v d H1 (G.step0 t1) rv' ?_
      show PostE xc K W g O0 m1.e σ H1 Q (k d m1)
      cases hk : k d m1 with
      | bad => rw [hk] at h; exact h
      | rz c f m2 => rw [hk] at h; exact rz_of0 t1 h
      | ok r m2 => rw [hk] at h; exact fun v2 H2 F2 t2 r2 => h v2 H2 F2 (t1.trans0 t2) r2
    | fl ds => exact h.elim
    | fd t kvs => exact h.elim
    | pl i => exact h.elim
    | dk => exact h.elim
theorem and_ok {a b : E} {Q : VK} (h : tE xc K W (fun m => ev cl (.and2 a b) m) σ H Q) : tE xc K W (fun m => ev cl a m) σ H fun x H1 => ∃ c, x = .bl c ∧ if c = true then tE xc K W (fun m => ev cl b m) σ H1 Q else Q (.bl false) H1 := by
  refine then_ok (f := fun m => ev cl a m) (k := fun d m1 => match d with
    | .bool true => ev cl b m1
    | .bool false => .ok (.v (.bool false)) m1
    | _ => .bad) (Q := Q) ?_ fun g O0 e s v d H1 G hs h => ?_
  · obtain ⟨g, O0, e, s, G, h⟩ := h
    refine ⟨g, O0, e, s, G, ?_⟩
    have h : PostE xc K W g O0 e σ H Q (match ev cl a ⟨e, s⟩ with
      | .ok (.v (.bool true)) m1 => ev cl b m1
      | .ok (.v (.bool false)) m1 => .ok (.v (.bool false)) m1
      | .ok _ _ => .bad
      | .rz c f m1 => .rz c f m1
      | .bad => .bad) := h
    revert h
    show _ → PostE xc K W g O0 e σ H Q (match ev cl a ⟨e, s⟩ with
      | .ok (.v d) m1 => _
      | .ok _ _ => .bad
      | .rz c f m1 => .rz c f m1
      | .bad => .bad)
    cases ev cl a ⟨e, s⟩ with
    | bad => exact id
    | rz c f m1 => exact id
    | ok r m1 => cases r with
      | v d => cases d with
        | bool c => cases c <;> exact id
        | none => exact id
        | int i => exact id
        | str i => exact id
        | list i => exact id
        | tuple i => exact id
        | dict i => exact id
      | fl ds => exact id
      | fd t kvs => exact id
      | pl i => exact id
      | dk => exact id
  · cases d with
    | bool c => cases c with
      | true => exact ⟨true, sh_bool.mp hs, by rw [if_pos rfl]; exact ⟨g, O0, e, s, G, h⟩⟩
      | false => exact ⟨false, sh_bool.mp hs, by rw [if_neg (by simp)]; exact h (.bl false) H1 [] G.stp ⟨rfl, sh_bool.mpr rfl⟩⟩
    | none => exact h.elim
    | int i => exact h.elim
    | str i => exact h.elim
    | list i => exact h.elim
    | tuple i => exact h.elim
    | dict i => exact h.elim
/-- a test, then -/
theorem if_ok {c : T} {f k : M → Res R} {Q : VK} (h : tE xc K W (fun m => match evT cl c m with
      | .ok true m1 => f m1
      | .ok false m1 => k m1
      | .rz c f m1 => .rz c f m1
      | .bad => .bad) σ H Q) : tT xc K W (fun m => evT cl c m) σ H fun b H1 => if b = true then tE xc K W f σ H1 Q else tE xc K W k σ H1 Q := by
  obtain ⟨g, O0, e, s, G, h⟩ := h
  refine ⟨g, O0, e, s, G, ?_⟩
  show PostT xc K W g O0 e σ H _ (evT cl c ⟨e, s⟩)
  cases hf : evT cl c ⟨e, s⟩ with
  | rz c f m1 => simp only [hf] at h; exact h
  | bad => simp only [hf] at h; exact h
  | ok b m1 =>
    intro H1 t1
    have go : ∀ x : M → Res R, PostE xc K W g O0 e σ H Q (x m1) → tE xc K W x σ H1 Q := fun x h => by
      refine ⟨g, O0, m1.e, m1.s, G.step0 t1, ?_⟩
      show PostE xc K W g O0 m1.e σ H1 Q (x m1)
      cases hk : x m1 with
      | bad => rw [hk] at h; exact h
      | rz c f m2 => rw [hk] at h; exact rz_of0 t1 h
      | ok r m2 => rw [hk] at h; exact fun v2 H2 F2 t2 r2 => h v2 H2 F2 (t1.trans0 t2) r2
    cases b with
    | true => simp only [hf] at h; rw [if_pos rfl]; exact go f h
    | false => simp only [hf] at h; rw [if_neg (by simp)]; exact go k h
theorem ift_ok {c : T} {f k : M → Res Bool} {Q : Bool → Hp → Prop} (h : tT xc K W (fun m => match evT cl c m with
      | .ok true m1 => f m1
      | .ok false m1 => k m1
      | .rz c f m1 => .rz c f m1
      | .bad => .bad) σ H Q) : tT xc K W (fun m => evT cl c m) σ H fun b H1 => if b = true then tT xc K W f σ H1 Q else tT xc K W k σ H1 Q := by
  obtain ⟨g, O0, e, s, G, h⟩ := h
  refine ⟨g, O0, e, s, G, ?_⟩
  show PostT xc K W g O0 e σ H _ (evT cl c ⟨e, s⟩)
  cases hf : evT cl c ⟨e, s⟩ with
  | rz c f m1 => simp only [hf] at h; exact h
  | bad => simp only [hf] at h; exact h
  | ok b m1 =>
    intro H1 t1
    have go : ∀ x : M → Res Bool, PostT xc K W g O0 e σ H Q (x m1) → tT xc K W x σ H1 Q := fun x h => by
      refine ⟨g, O0, m1.e, m1.s, G.step0 t1, ?_⟩
      show PostT xc K W g O0 m1.e σ H1 Q (x m1)
      cases hk : x m1 with
      | bad => rw [hk] at h; exact h
      | rz c f m2 => rw [hk] at h; exact rz_of0 t1 h
      | ok r m2 => rw [hk] at h; exact fun H2 t2 => h H2 (t1.trans0 t2)
    cases b with
    | true => simp only [hf] at h; rw [if_pos rfl]; exact go f h
    | false => simp only [hf] at h; rw [if_neg (by simp)]; exact go k h
theorem tT.ret {b : Bool} {Q : Bool → Hp → Prop} (h : tT xc K W (fun m => .ok b m) σ H Q) : Q b H := by
  obtain ⟨g, O0, e, s, G, h⟩ := h
  exact h H G.stp
/-- a value as a test -/
theorem truth_ok {a : E} {Q : Bool → Hp → Prop} (h : tT xc K W (fun m => evT cl (.e a) m) σ H Q) : tE xc K W (fun m => ev cl a m) σ H fun x H1 => ∃ d, ShT K (fun _ => False) H1 x d ∧ strFits d = true ∧ Q (truth d) H1 := by
  obtain ⟨g, O0, e, s, G, h⟩ := h
  refine ⟨g, O0, e, s, G, ?_⟩
  show PostE xc K W g O0 e σ H _ (ev cl a ⟨e, s⟩)
  have h : PostT xc K W g O0 e σ H Q (match ev cl a ⟨e, s⟩ with
    | .ok r m1 => match deref m1.e r with
      | some d => if strFits d = true then .ok (truth d) m1 else .bad
      | none => .bad
    | .rz c f m1 => .rz c f m1
    | .bad => .bad) := h
  cases hf : ev cl a ⟨e, s⟩ with
  | rz c f m1 => simp only [hf] at h; exact h
  | bad => simp only [hf] at h; exact h
  | ok r m1 =>
    simp only [hf] at h
    intro v H1 F1 t1 rv
    cases hd : deref m1.e r with
    | none => simp only [hd] at h; exact h.elim
    | some d =>
      simp only [hd] at h
      by_cases hs : strFits d = true
      · rw [if_pos hs] at h
        have q := rv.val t1.rep hd
        refine ⟨d, ?_, hs, h H1 t1.forget⟩
        cases d with
        | list ds => obtain ⟨a, xs, e, z, l, q⟩ := q; exact ⟨a, xs, e, z, l, q.weak fun _ z => z.elim⟩
        | dict kvs => simp [strFits] at hs
        | none => exact q.weak fun _ z => z.elim
        | bool b => exact q.weak fun _ z => z.elim
        | int i => exact q.weak fun _ z => z.elim
        | str i => exact q.weak fun _ z => z.elim
        | tuple i => exact q.weak fun _ z => z.elim
      · rw [if_neg hs] at h; exact h.elim
theorem emp_eq {α β : Type} {F : α → β → Prop} {xs : List α} {ys : List β} (h : Paired F xs ys) : xs.isEmpty = ys.isEmpty := by cases h <;> rfl
theorem tru_of {x : V} {d : PyData} (h : ShT K O H x d) (hs : strFits d = true) : TruV K x H (truth d) := by
  cases d with
  | none => rw [t_none h]; exact rfl
  | bool b => rw [t_bool h]; exact rfl
  | int i => rw [t_int h]; exact rfl
  | str s => rw [t_str h]; exact ⟨by simpa [strFits, LIM_eq] using hs, rfl⟩
  | list ds => obtain ⟨a, xs, rfl, l, _, q⟩ := t_list h; exact .inl ⟨xs, SqL.of l, by rw [emp_eq q]; rfl⟩
  | tuple ds => obtain ⟨a, xs, rfl, l, _, q⟩ := t_tup h; exact .inr (.inl ⟨xs, l, by rw [emp_eq q]; rfl⟩)
  | dict kvs => simp [strFits] at hs
end
end PV
namespace PV
open PySem PySem.Spec L2
section
variable {X : Cx} {xc : XC} {W : WX} {cl : Nat → List Arg → DS → FRes} {a b c e x y : Expr} {es : List Expr} {ea eb ec el eh : E} {as : Es} {ta tb tc : T} {pos p p2 : Pos} {n : Str}
theorem da_nil : DA X xc W cl [] .nil := PAimp pa_nil fun σ H Q h => nil_ok h
theorem da_cons (ha : DE X xc W cl e ea) (hr : DA X xc W cl es as) (hs : starEach (e :: es) X.env = (false, eval e X.env) :: starEach es X.env := by rfl) : DA X xc W cl (e :: es) (.cons ea as) :=
  PAimp (pa_cons ha hr hs) fun σ H Q h => cons_ok (f := fun m => ev cl ea m) (fs := fun m => evs cl as m) h
theorem de_tup {k : Nat} (h : DA X xc W cl es as) : DE X xc W cl (.Tuple es k pos) (.tup as) := PEimp (pe_tup h) fun σ H Q h => tup_ok h
theorem de_lst (h : DA X xc W cl es as) : DE X xc W cl (.List es pos) (.lst as) := PEimp (pe_lst h) fun σ H Q h => lst_ok h
/-- calls of what is built in -/
theorem de_blt {id : String} {r : List V → Hp → VK → Prop} {o : Op} (hc : CallR X (.builtin id) r) (ho : OpE X.K r o) (hg : Gl X n) (hm : X.mg n = none) (hv : bootBuiltins n = some (.builtin id)) (ha : DA X xc W cl (e :: es) as)
    (hn : n ≠ "__name__" := by decide) (hdb : (n == ("__debug__" : Str)) = false := by decide) (he : starEach (e :: es) X.env = (false, eval e X.env) :: starEach es X.env := by rfl) (hpl : (backTo pos (starEach es X.env)).any (·.1) = false := by rfl) :
    DE X xc W cl (.Call (.Name n p) (e :: es) [] pos) (.op o as) := PEimp (pe_callB hc hg hm hv ha hn hdb he hpl) fun σ H Q h => ho.use h
theorem de_ty {id : String} {r : List V → Hp → VK → Prop} {o : Op} (hc : CallR X (.type id) r) (ho : OpE X.K r o) (hg : Gl X n) (hm : X.mg n = none) (hv : bootBuiltins n = some (.type id)) (ha : DA X xc W cl (e :: es) as)
    (hn : n ≠ "__name__" := by decide) (hdb : (n == ("__debug__" : Str)) = false := by decide) (he : starEach (e :: es) X.env = (false, eval e X.env) :: starEach es X.env := by rfl) (hpl : (backTo pos (starEach es X.env)).any (·.1) = false := by rfl) :
    DE X xc W cl (.Call (.Name n p) (e :: es) [] pos) (.op o as) := PEimp (pe_callTy hc hg hm hv ha hn hdb he hpl) fun σ H Q h => ho.use h
/-- calls of the text's own defs -/
structure FnIn (X : Cx) (xc : XC) (CX : CXT) (cl : Nat → List Arg → DS → FRes) (k : Nat) (n : Str) (f np : Nat) : Prop where
  fn : ∃ (fa : Addr) (fd : FuncData) (ps : List Str), FnG X.prog X.w X.K X.mg X.base CX k fa fd ps (spF xc X.K np (cl f)) ∧ X.mg n = some (.ref fa) ∧ PySem.W.keepIn X.K (.ref fa) = true ∧ Binds X.K fd ps []
  ln : ∀ args s, cl f args s ≠ .bad → args.length = np
theorem de_call {CX : CXT} {k f np : Nat} (o : Ok X) (hr : Room k X.A) (F : FnIn X xc CX cl k n f np) (hx : ∀ σ, PassesAt CX X σ fun c d H => W c d σ H) (hg : Gl X n) (ha : DA X xc W cl (e :: es) as)
    (hdb : (n == ("__debug__" : Str)) = false := by decide) (he : starEach (e :: es) X.env = (false, eval e X.env) :: starEach es X.env := by rfl) (hpl : (backTo pos (starEach es X.env)).any (·.1) = false := by rfl) :
    DE X xc W cl (.Call (.Name n p) (e :: es) [] pos) (.call f as) := by
  obtain ⟨fa, fd, ps, F1, hm, hk, hb⟩ := F.fn
  exact PEimp (pe_callG (E := fun σ c d H => W c d σ H) F1 o.gd hr hg hm hk hb hx ha hdb he hpl) fun σ H Q h => call_ok F.ln h
theorem de_ix (o : Ok X) (ha : DE X xc W cl a ea) (hb : DE X xc W cl b eb) (hs : PlainIx b := by intro _ _; rfl) : DE X xc W cl (.Subscript a b pos) (.op .idx (.cons ea (.cons eb .nil))) :=
  PEimp (pe_ix (ix_all o.un) ha hb hs) fun σ H Q h => (two_ok (e_idx.use h)).mono fun x H1 h => h.mono fun y H2 h => by
    obtain ⟨x', y', e, h⟩ := h
    cases e; exact h
theorem de_sl10 (ha : DE X xc W cl a ea) (hl : DE X xc W cl b el) : DE X xc W cl (.Subscript a (.Slice (some b) none none p2) pos) (.op (.sl true false) (.cons ea (.cons el .nil))) :=
  PEimp (pe_slice sl_all ha (po_some hl) po_none) fun σ H Q h => (two_ok ((OpE.of (v_sl true false)).use h)).mono fun x H1 h => h.mono fun y H2 h => by
    obtain ⟨x', i, e, h⟩ := h
    cases e; exact ⟨i, rfl, h⟩
theorem de_one {op : BoolOp} (h : DE X xc W cl a ea) : DE X xc W cl (.BoolOp op [a] pos) ea := pe_one h
theorem de_and (ha : DE X xc W cl a ea) (hb : DE X xc W cl (.BoolOp .And (b :: es) pos) eb) : DE X xc W cl (.BoolOp .And (a :: b :: es) pos) (.and2 ea eb) := PEimp (pe_and ha hb) fun σ H Q h => and_ok h
theorem de_ite (hc : DT X xc W cl c tc) (ha : DE X xc W cl a ea) (hb : DE X xc W cl b eb) : DE X xc W cl (.IfExp c a b pos) (.ite tc ea eb) := PEimp (pe_ifExp hc ha hb) fun σ H Q h => if_ok (f := fun m => ev cl ea m) (k := fun m => ev cl eb m) h
theorem dt_tru (ha : DE X xc W cl a ea) (he : ∀ whole, isTrue a X.env whole = (do let v ← whole; standAt a.pos; holding [v] (truthy v)) := by intro _; rfl) : DT X xc W cl a (.e ea) :=
  PTimp (pt_truth ha he) fun σ H Q h => (truth_ok h).mono fun x H1 h => by
    obtain ⟨d, h1, h2, h3⟩ := h
    exact ⟨_, tru_of h1 h2, h3⟩
/-- what gives a bool -/
noncomputable def BoolE (cl : Nat → List Arg → DS → FRes) (ea : E) : Prop := ∀ m r m1, ev cl ea m = .ok r m1 → ∃ b, r = .v (.bool b)
theorem bool_ok {K : PySem.W.Frag} (hb : BoolE cl ea) {σ : L2.St} {H : Hp} {Q : Bool → Hp → Prop} (h : tT xc K W (fun m => evT cl (.e ea) m) σ H Q) : tE xc K W (fun m => ev cl ea m) σ H fun x H1 => ∃ k, x = .bl k ∧ Q k H1 := by
  obtain ⟨g, O0, e, s, G, h⟩ := h
  refine ⟨g, O0, e, s, G, ?_⟩
  show PostE xc K W g O0 e σ H _ (ev cl ea ⟨e, s⟩)
  have h : PostT xc K W g O0 e σ H Q (match ev cl ea ⟨e, s⟩ with
    | .ok r m1 => match deref m1.e r with
      | some d => if strFits d = true then .ok (truth d) m1 else .bad
      | none => .bad
    | .rz c f m1 => .rz c f m1
    | .bad => .bad) := h
  cases hf : ev cl ea ⟨e, s⟩ with
  | rz c f m1 => simp only [hf] at h; exact h
  | bad => simp only [hf] at h; exact h
  | ok r m1 =>
    obtain ⟨b, rfl⟩ := hb _ _ _ hf
    simp only [hf] at h
    intro v H1 F1 t1 rv
    exact ⟨b, sh_bool.mp rv.2, h H1 t1.forget⟩
theorem op_bool {o : Op} (h : ∀ e rs r, opE e o rs = some r → ∃ b, r = .v (.bool b)) : BoolE cl (.op o as) := by
  intro m r m1 hm
  have hm : (match evs cl as m with
    | .ok rs m1 => match opE m1.e o rs with
      | some r => Res.ok r m1
      | none => .bad
    | .rz c f m1 => .rz c f m1
    | .bad => .bad) = .ok r m1 := hm
  cases hf : evs cl as m with
  | rz c f m1 => simp only [hf] at hm; cases hm
  | bad => simp only [hf] at hm; cases hm
  | ok rs m1 =>
    simp only [hf] at hm
    cases ho : opE m1.e o rs with
    | none => simp only [ho] at hm; cases hm
    | some z => simp only [ho] at hm; cases hm; exact h _ _ _ ho
theorem boolV {o : Op} (hn : ∀ e rs, dictOp e o rs = none) (h : ∀ ds r, opD o ds = some r → ∃ b, r = .v (.bool b)) : ∀ e rs r, opE e o rs = some r → ∃ b, r = .v (.bool b) := by
  intro e rs r hz
  unfold opE at hz
  rw [hn] at hz
  cases hd : derefs e rs with
  | none => rw [hd] at hz; cases hz
  | some ds => rw [hd] at hz; exact h ds r hz
theorem cmpR_b {o : Op} : ∀ ds r, cmpR o ds = some r → ∃ b, r = .v (.bool b) := by
  intro ds r h
  unfold cmpR at h
  split at h
  · rename_i x y
    cases hc : cmpD o x y with
    | none => rw [hc] at h; cases h
    | some b => rw [hc] at h; cases h; exact ⟨b, rfl⟩
  · cases h
theorem b_lt : BoolE cl (.op .lt as) := op_bool (boolV (fun _ _ => rfl) cmpR_b)
theorem b_gt : BoolE cl (.op .gt as) := op_bool (boolV (fun _ _ => rfl) cmpR_b)
theorem b_eq : BoolE cl (.op .eq as) := op_bool (boolV (fun _ _ => rfl) fun ds r h => by
  have h : eqD ds = some r := h
  unfold eqD at h
  split at h
  · cases h; exact ⟨_, rfl⟩
  · split at h
    · cases h; exact ⟨_, rfl⟩
    · unfold nilD at h
      split at h
      · split at h
        · cases h; exact ⟨_, rfl⟩
        · cases h
      · split at h
        · cases h; exact ⟨_, rfl⟩
        · cases h
      · cases h
  · cases h)
theorem b_ne : BoolE cl (.op .ne as) := op_bool (boolV (fun _ _ => rfl) fun ds r h => by
  have h : neD ds = some r := h
  unfold neD at h
  split at h
  · cases h; exact ⟨_, rfl⟩
  · split at h
    · cases h; exact ⟨_, rfl⟩
    · unfold nilD at h
      split at h
      · split at h
        · cases h; exact ⟨_, rfl⟩
        · cases h
      · split at h
        · cases h; exact ⟨_, rfl⟩
        · cases h
      · cases h
  · cases h)
theorem inD_b : ∀ ds r, inD ds = some r → ∃ b, r = .v (.bool b) := by
  intro ds r h
  unfold inD at h
  split at h
  · rename_i x y
    cases hh : hasD x y with
    | none => rw [hh] at h; cases h
    | some b => rw [hh] at h; cases h; exact ⟨_, rfl⟩
  · cases h
theorem notinD_b : ∀ ds r, notinD ds = some r → ∃ b, r = .v (.bool b) := by
  intro ds r h
  unfold notinD at h
  split at h
  · rename_i x y
    cases hh : hasD x y with
    | none => rw [hh] at h; cases h
    | some b => rw [hh] at h; cases h; exact ⟨_, rfl⟩
  · cases h
theorem b_in : BoolE cl (.op .inn as) := op_bool fun e rs r hz => by
  unfold opE at hz
  cases hn : dictOp e .inn rs with
  | some z =>
    rw [hn] at hz; cases hz
    unfold dictOp at hn
    split at hn <;> try contradiction
    · split at hn
      · split at hn
        · cases hn; exact ⟨_, rfl⟩
        · cases hn
      · cases hn
  | none =>
    rw [hn] at hz
    cases hd : derefs e rs with
    | none => rw [hd] at hz; cases hz
    | some ds =>
      rw [hd] at hz
      exact inD_b ds r hz
theorem b_notin : BoolE cl (.op .notin as) := op_bool fun e rs r hz => by
  unfold opE at hz
  cases hn : dictOp e .notin rs with
  | some z =>
    rw [hn] at hz; cases hz
    unfold dictOp at hn
    split at hn <;> try contradiction
    · split at hn
      · split at hn
        · cases hn; exact ⟨_, rfl⟩
        · cases hn
      · cases hn
  | none =>
    rw [hn] at hz
    cases hd : derefs e rs with
    | none => rw [hd] at hz; cases hz
    | some ds =>
      rw [hd] at hz
      exact notinD_b ds r hz
/-- a op b as a test, as a value: the operation is known -/
theorem dt_cmp {op : CmpOp} {o : Op} {r : R2} (ho : OpR X (compareOp op) r) (hv : OpE X.K (V2 r) o) (hb : BoolE cl (.op o (.cons ea (.cons eb .nil)))) (ha : DE X xc W cl a ea) (hb2 : DE X xc W cl b eb)
    (hm : behindInMarks op b = false := by first | exact nomark _ | with_unfolding_all rfl) : DT X xc W cl (.Compare a [op] [b] pos) (.e (.op o (.cons ea (.cons eb .nil)))) :=
  PTimp (pt_cmpR ho ha hb2 hm) fun σ H Q h => (two_ok (hv.use (bool_ok hb h))).mono fun x H1 h => h.mono fun y H2 h => by
    obtain ⟨x', y', e, h⟩ := h
    cases e; exact h
theorem dt_pw (h : DW X xc W cl a ta) : DT X xc W cl a ta := PW.pt h
theorem dw_and1 (ha : DT X xc W cl a ta) : DW X xc W cl (.BoolOp .And [a] pos) ta := pw_and1 ha
theorem dw_or1 (ha : DT X xc W cl a ta) : DW X xc W cl (.BoolOp .Or [a] pos) ta := pw_or1 ha
theorem dw_and (ha : DT X xc W cl a ta) (hb : DW X xc W cl (.BoolOp .And (b :: es) pos) tb) : DW X xc W cl (.BoolOp .And (a :: b :: es) pos) (.and ta tb) :=
  PWimp (pw_and ha hb) fun σ H Q h => (ift_ok (f := fun m => evT cl tb m) (k := fun m => .ok false m) h).mono fun b H1 h => by
    cases b with
    | true => simpa using h
    | false => simpa using tT.ret (by simpa using h)
theorem dw_or (ha : DT X xc W cl a ta) (hb : DW X xc W cl (.BoolOp .Or (b :: es) pos) tb) : DW X xc W cl (.BoolOp .Or (a :: b :: es) pos) (.or ta tb) :=
  PWimp (pw_or ha hb) fun σ H Q h => (ift_ok (f := fun m => .ok true m) (k := fun m => evT cl tb m) h).mono fun b H1 h => by
    cases b with
    | false => simpa using h
    | true => simpa using tT.ret (by simpa using h)
theorem dt_not (ha : DT X xc W cl a ta) : DT X xc W cl (.UnaryOp .Not a pos) (.not ta) :=
  PTimp (pt_not ha) fun σ H Q h => by
    obtain ⟨g, O0, e, s, G, h⟩ := h
    refine ⟨g, O0, e, s, G, ?_⟩
    show PostT xc X.K W g O0 e σ H _ (evT cl ta ⟨e, s⟩)
    have h : PostT xc X.K W g O0 e σ H Q (match evT cl ta ⟨e, s⟩ with
      | .ok b m1 => .ok (!b) m1
      | .rz c f m1 => .rz c f m1
      | .bad => .bad) := h
    cases hf : evT cl ta ⟨e, s⟩ with
    | rz c f m1 => simp only [hf] at h; exact h
    | bad => simp only [hf] at h; exact h
    | ok b m1 => simp only [hf] at h; exact h
end
end PV
namespace PV
open PySem PySem.Spec L2
structure StS (K : PySem.W.Frag) (g : Gd) (O0 : AP) (e : Env) (σ : L2.St) (H : Hp) (A : Nat → Bool) (m : M) (σ' : L2.St) (H' : Hp) : Prop where
  keep : Keep (Mu g e σ) H H'
  own : ∀ a, own m.e σ' a → PV.own e σ a ∨ H a = none
  rep : Rep K g O0 m.e σ' H'
  dk : DkRep g m.s H'
  fx : ∀ j, A j = false → σ'[j]? = σ[j]?
structure StR (K : PySem.W.Frag) (g : Gd) (O0 : AP) (e : Env) (σ : L2.St) (H : Hp) (m : M) (σ' : L2.St) (H' : Hp) (v : V) (F : List Addr) (r : R) : Prop where
  keep : Keep (Mu g e σ) H H'
  own : ∀ a, own m.e σ' a → PV.own e σ a ∨ H a = none
  new : ∀ p ∈ F, H p = none ∧ H' p ≠ none
  rep : Rep K g O0 m.e σ' H'
  dk : DkRep g m.s H'
  rv : RV1 K g (Ow (plus O0 F) m.e σ') σ' H' v F r
noncomputable def PostS (xc : XC) (K : PySem.W.Frag) (W : WX) (g : Gd) (O0 : AP) (e : Env) (σ : L2.St) (H : Hp) (A : Nat → Bool) (D : Ends) : Res Flow → Prop
  | .ok .nx m => ∀ σ' H', StS K g O0 e σ H A m σ' H' → D.nx σ' H'
  | .ok .brk m => ∀ σ' H', StS K g O0 e σ H A m σ' H' → D.bk σ' H'
  | .ok .ct m => ∀ σ' H', StS K g O0 e σ H A m σ' H' → D.ct σ' H'
  | .ok (.rt r) m => ∀ v σ' H' F, StR K g O0 e σ H m σ' H' v F r → D.rt v H'
  | .rz c f m => ∀ cls dd σ' H', StS K g O0 e σ H A m σ' H' → XcR xc K (Ow O0 m.e σ') H' c f cls dd → W cls dd σ' H'
  | .bad => False
noncomputable def tS (xc : XC) (K : PySem.W.Frag) (W : WX) (A : Nat → Bool) (f : M → Res Flow) : TS := fun D σ H => ∃ g O0 e s, Good K g O0 e s σ H ∧ PostS xc K W g O0 e σ H A D (f ⟨e, s⟩)
section
variable {xc : XC} {K : PySem.W.Frag} {W : WX} {g : Gd} {O0 : AP} {e : Env} {s : DS} {σ σ1 σ' : L2.St} {H H1 H' : Hp} {A A' : Nat → Bool} {D D' : Ends} {F : List Addr} {m m1 : M} {v : V} {r : R}
theorem Good.ss (G : Good K g O0 e s σ H) (t : StS K g O0 e σ H A m σ' H') : Good K g O0 m.e m.s σ' H' := ⟨G.dk0, fun a z q => G.oe a z (t.keep.old a q), t.rep, t.dk, G.ob⟩
theorem StS.refl (G : Good K g O0 e s σ H) : StS K g O0 e σ H A ⟨e, s⟩ σ H := ⟨Keep.refl, fun a z => .inl z, G.rep, G.dk, fun _ _ => rfl⟩
theorem StS.mono (t : StS K g O0 e σ H A m σ' H') (h : ∀ j, A' j = false → A j = false) : StS K g O0 e σ H A' m σ' H' := ⟨t.keep, t.own, t.rep, t.dk, fun j z => t.fx j (h j z)⟩
theorem mu_of (own : ∀ a, own m1.e σ1 a → PV.own e σ a ∨ H a = none) : ∀ a, Mu g m1.e σ1 a → Mu g e σ a ∨ H a = none := fun a z => z.elim (fun z => (own a z).imp .inl id) fun z => .inl (.inr z)
theorem StS.trans (a : StS K g O0 e σ H A m1 σ1 H1) (b : StS K g O0 m1.e σ1 H1 A m σ' H') : StS K g O0 e σ H A m σ' H' :=
  ⟨a.keep.trans b.keep (mu_of a.own), fun x z => (b.own x z).elim (a.own x) fun z => .inr (a.keep.old x z), b.rep, b.dk, fun j z => (b.fx j z).trans (a.fx j z)⟩
theorem StR.after (a : StS K g O0 e σ H A m1 σ1 H1) (b : StR K g O0 m1.e σ1 H1 m σ' H' v F r) : StR K g O0 e σ H m σ' H' v F r :=
  ⟨a.keep.trans b.keep (mu_of a.own), fun x z => (b.own x z).elim (a.own x) fun z => .inr (a.keep.old x z), fun p hp => ⟨a.keep.old p (b.new p hp).1, (b.new p hp).2⟩, b.rep, b.dk, b.rv⟩
theorem PostS.step {x : Res Flow} (a : StS K g O0 e σ H A m1 σ1 H1) (h : PostS xc K W g O0 e σ H A D x) : PostS xc K W g O0 m1.e σ1 H1 A D x := by
  cases x with
  | bad => exact h
  | rz c f m => exact fun cls dd σ' H' t x => h cls dd σ' H' (a.trans t) x
  | ok fl m => cases fl with
    | nx => exact fun σ' H' t => h σ' H' (a.trans t)
    | brk => exact fun σ' H' t => h σ' H' (a.trans t)
    | ct => exact fun σ' H' t => h σ' H' (a.trans t)
    | rt r => exact fun v σ' H' F t => h v σ' H' F (StR.after a t)
theorem PostS.mono {x : Res Flow} (h : PostS xc K W g O0 e σ H A D x) (i : ∀ j, A j = false → A' j = false) : PostS xc K W g O0 e σ H A' D x := by
  cases x with
  | bad => exact h
  | rz c f m => exact fun cls dd σ' H' t x => h cls dd σ' H' (t.mono i) x
  | ok fl m => cases fl with
    | nx => exact fun σ' H' t => h σ' H' (t.mono i)
    | brk => exact fun σ' H' t => h σ' H' (t.mono i)
    | ct => exact fun σ' H' t => h σ' H' (t.mono i)
    | rt r => exact h
/-- an expression's step is a statement's -/
theorem Stp.ss (G : Good K g O0 e s σ H) (t : Stp K g O0 e σ H F m H') : StS K g O0 e σ H A m σ H' := ⟨t.keep, fun a z => .inl (t.own a z), t.repO, t.dk, fun _ _ => rfl⟩
noncomputable def tGs (K : PySem.W.Frag) (A : Nat → Bool) (f : Env → List PyData → Option Env) : TGs := fun vs σ H Q => ∃ g O0 e s ds e', Good K g O0 e s σ H ∧ ShA K (Ow O0 e σ) H vs ds ∧ f e ds = some e' ∧ ∀ σ', Rep K g O0 e' σ' H → (∀ a, own e' σ' a → own e σ a) → (∀ j, A j = false → σ'[j]? = σ[j]?) → Q σ' H
noncomputable def tGa (K : PySem.W.Frag) (A : Nat → Bool) (f : Env → PyData → Option Env) : TG := fun v σ H Q => ∃ g O0 e s d e', Good K g O0 e s σ H ∧ Sh K (Ow O0 e σ) H v d ∧ f e d = some e' ∧ ∀ σ', Rep K g O0 e' σ' H → (∀ a, own e' σ' a → own e σ a) → (∀ j, A j = false → σ'[j]? = σ[j]?) → Q σ' H
end
section
variable (X : Cx) (xc : XC) (W : WX) (cl : Nat → List Arg → DS → FRes)
noncomputable def DG (t : Expr) (a : Tg) : Prop := PG X t (tGa X.K (asgT a) fun e d => bind1 e a d)
noncomputable def DGs (t : List Expr) (a : Tgs) : Prop := PGs X t (tGs X.K (asgTs a) fun e d => bindL e a d)
noncomputable def DS' (st : Stmt) (a : S) : Prop := PS X st (tS xc X.K W (asgS a) fun m => ex cl a m)
noncomputable def DSs (st : List Stmt) (a : Ss) : Prop := PSs X st (tS xc X.K W (asgSs a) fun m => exs cl a m)
end
section
variable {X : Cx} {xc : XC} {W : WX} {cl : Nat → List Arg → DS → FRes} {t : Expr} {ts : List Expr} {a : Tg} {as : Tgs} {pos : Pos}
theorem PGimp {e : Expr} {t t' : TG} (h : PG X e t) (i : ∀ v σ H Q, t' v σ H Q → t v σ H Q) : PG X e t' := ⟨fun pins s σ H v u Q I r z => h.run pins s σ H v u Q I r (i v σ H Q z)⟩
theorem PGsimp {e : List Expr} {t t' : TGs} (h : PGs X e t) (i : ∀ v σ H Q, t' v σ H Q → t v σ H Q) : PGs X e t' := ⟨fun pins s σ H v u Q I r z => h.run pins s σ H v u Q I r (i v σ H Q z)⟩
theorem dg_nm {i : Nat} {x : Str} (o : Ok X) (hi : X.N[i]? = some x) (hx : Loc X.env.scope x) (hf : X.fn x = true ∨ X.env.scope.names.lookup x = some .local := by first | exact .inl rfl | exact .inr rfl | assumption) : DG X (.Name x pos) (.nm i) :=
  PGimp (pg_name o.nd hi hx hf) fun v σ H Q h => by
    obtain ⟨g, O0, e, s, d, e', G, hs, he, h⟩ := h
    obtain rfl : e.set i (.sh d) = e' := by simpa [bind1] using he
    refine h _ (G.rep.setSh hs) (fun a z => own_set rfl z) fun j z => ?_
    rw [List.getElem?_set_ne]
    intro q; subst q; simp [asgT] at z
theorem dgs_nil : DGs X [] .nil := PGsimp pgs_nil fun vs σ H Q h => by
  obtain ⟨g, O0, e, s, ds, e', G, hs, he, h⟩ := h
  cases ds with
  | nil =>
    obtain rfl : e = e' := by simpa [bindL] using he
    cases hs
    exact ⟨rfl, h σ G.rep (fun _ z => z) fun _ _ => rfl⟩
  | cons d ds => simp [bindL] at he
theorem dgs_cons (h1 : DG X t a) (h2 : DGs X ts as) (hs : (assignEach (t :: ts) X.env).map (·.2) = assign t X.env :: (assignEach ts X.env).map (·.2) := by rfl) : DGs X (t :: ts) (.cons a as) :=
  PGsimp (pgs_cons h1 h2 hs) fun vs σ H Q h => by
    obtain ⟨g, O0, e, s, ds, e', G, hs, he, h⟩ := h
    cases ds with
    | nil => simp [bindL] at he
    | cons d ds =>
      cases hs with
      | cons s1 s2 =>
        rename_i v vs
        simp only [bindL] at he
        cases hb : bind1 e a d with
        | none => rw [hb] at he; cases he
        | some e1 =>
          rw [hb] at he
          refine ⟨v, vs, rfl, g, O0, e, s, d, e1, G, s1, hb, fun σ1 r1 o1 f1 => ?_⟩
          refine ⟨g, O0, e1, s, ds, e', ⟨G.dk0, G.oe, r1, G.dk, G.ob⟩, ShA.weak (fun a z => z.imp id (o1 a)) s2, he, fun σ2 r2 o2 f2 => h σ2 r2 (fun a z => o1 a (o2 a z)) fun j z => ?_⟩
          have z' : asgT a j = false ∧ asgTs as j = false := by simpa [asgTs] using z
          exact (f2 j z'.2).trans (f1 j z'.1)
/-- a, b, .. = a tuple or a list -/
noncomputable def gTL (K : PySem.W.Frag) (n : Nat) (t : TGs) : TG := fun v σ H Q => gTup K n t v σ H Q ∨ gLst K n t v σ H Q
theorem pg_tl {X : Cx} {pos : Pos} {es : List Expr} {k : Nat} {t : TGs} {n : Nat} (hc : X.calm = true) (h : PGs X es t)
    (hn : (assignEach es X.env).length = n := by rfl) (hst : (assignEach es X.env).findIdx? (·.1) = none := by rfl) : PG X (.Tuple es k pos) (gTL X.K n t) := by
  refine ⟨fun pins s σ H v u Q I r hw => ?_⟩
  rcases hw with hw | hw
  · exact (pg_tup hc h hn hst).run pins s σ H v u Q I r hw
  · exact (pg_lst hc h hn hst).run pins s σ H v u Q I r hw
theorem dg_tup {k n : Nat} (o : Ok X) (h : DGs X ts as) (hn : (assignEach ts X.env).length = n := by rfl) (hl : ∀ e ds e', bindL e as ds = some e' → ds.length = n) (hst : (assignEach ts X.env).findIdx? (·.1) = none := by rfl) : DG X (.Tuple ts k pos) (.tp as) :=
  PGimp (pg_tl o.calm h hn hst) fun v σ H Q h => by
    obtain ⟨g, O0, e, s, d, e', G, hs, he, h⟩ := h
    cases d with
    | tuple ds =>
      obtain ⟨p, xs, rfl, ht, _, q⟩ := sh_tuple.mp hs
      have he : bindL e as ds = some e' := he
      exact .inl ⟨p, xs, rfl, ht.sq, by rw [Paired.len q]; exact hl _ _ _ he, g, O0, e, s, ds, e', G, q, he, h⟩
    | none => simp [bind1] at he
    | bool b => simp [bind1] at he
    | int b => simp [bind1] at he
    | str b => simp [bind1] at he
    | list ds =>
      obtain ⟨p, xs, rfl, ht, _, q⟩ := sh_list.mp hs
      have he : bindL e as ds = some e' := he
      exact .inr ⟨p, xs, rfl, ht.sq, by rw [Paired.len q]; exact hl _ _ _ he, g, O0, e, s, ds, e', G, q, he, h⟩
    | dict b => simp [bind1] at he
noncomputable def lenTs : Tgs → Nat
  | .nil => 0
  | .cons _ ts => lenTs ts + 1
theorem bindL_len : ∀ (as : Tgs) (e : Env) (ds : List PyData) (e' : Env), bindL e as ds = some e' → ds.length = lenTs as
  | .nil, e, [], e', h => rfl
  | .nil, e, d :: ds, e', h => by simp [bindL] at h
  | .cons t ts, e, [], e', h => by simp [bindL] at h
  | .cons t ts, e, d :: ds, e', h => by
    simp only [bindL] at h
    cases hb : bind1 e t d with
    | none => rw [hb] at h; cases h
    | some e1 => rw [hb] at h; simp [lenTs, bindL_len ts e1 ds e' h]
theorem dg_tp {k : Nat} (o : Ok X) (h : DGs X ts as) (hn : (assignEach ts X.env).length = lenTs as := by rfl) (hst : (assignEach ts X.env).findIdx? (·.1) = none := by rfl) : DG X (.Tuple ts k pos) (.tp as) :=
  dg_tup o h hn (bindL_len as) hst
end
end PV
namespace PV
open PySem PySem.Spec L2
structure ItOk (K : PySem.W.Frag) (J : L2.It) (ds : List PyData) (P : AP → Hp → Prop) : Prop where
  go : ∀ i O H, P O H → i < ds.length → J.go i H
  stop : ∀ O H, P O H → J.stop ds.length H
  yld : ∀ i O H x H', P O H → i < ds.length → J.yld i H x H' → Keep (fun _ => False) H H' ∧ ∃ d, ds[i]? = some d ∧ Sh K O H' x d
noncomputable def ItR (K : PySem.W.Frag) (σ : L2.St) (O : AP) (H : Hp) (J : L2.It) (ds : List PyData) : Src → Prop
  | none => ∃ P, ItOk K J ds P ∧ P O H ∧ ∀ M O O' H H', P O H → Keep M H H' → (∀ a, M a → O a) → (∀ a, O' a → O a ∨ H a = none) → P O' H'
  | some (i, d0) => ∃ p, σ[i]? = some (some (.ref p)) ∧ ItOk K J ds fun O H => ShT K O H (.ref p) (.list d0)
noncomputable def PostI (xc : XC) (K : PySem.W.Frag) (W : WX) (g : Gd) (O0 : AP) (e : Env) (σ : L2.St) (H : Hp) (R : L2.It → Hp → Prop) : Res (List PyData × Src) → Prop
  | .ok (ds, src) m => ∀ J H' F, Stp K g O0 e σ H F m H' → ItR K σ (Ow O0 m.e σ) H' J ds src → R J H'
  | .rz c f m => ∀ cls dd H', Stp K g O0 e σ H [] m H' → XcR xc K (Ow O0 m.e σ) H' c f cls dd → W cls dd σ H'
  | .bad => False
noncomputable def tI (xc : XC) (K : PySem.W.Frag) (W : WX) (f : M → Res (List PyData × Src)) : TI := fun σ H R => ∃ g O0 e s, Good K g O0 e s σ H ∧ PostI xc K W g O0 e σ H R (f ⟨e, s⟩)
noncomputable def DI (X : Cx) (xc : XC) (W : WX) (cl : Nat → List Arg → DS → FRes) (tg it : Expr) (a : It) : Prop := PI X tg it (tI xc X.K W fun m => evI cl a m)
theorem PIimp {X : Cx} {tg e : Expr} {t t' : TI} (h : PI X tg e t) (i : ∀ σ H R, t' σ H R → t σ H R) : PI X tg e t' := ⟨fun pins s σ H R I z => h.run pins s σ H R I (i σ H R z)⟩
theorem PIor {X : Cx} {tg e : Expr} {t t' : TI} (h : PI X tg e t) (h' : PI X tg e t') : PI X tg e (fun σ H R => t σ H R ∨ t' σ H R) := ⟨fun pins s σ H R I z => z.elim (h.run pins s σ H R I) (h'.run pins s σ H R I)⟩
section
variable {X : Cx} {xc : XC} {W : WX} {cl : Nat → List Arg → DS → FRes} {K : PySem.W.Frag} {g : Gd} {O O0 : AP} {e : Env} {s : DS} {σ : L2.St} {H H1 H' : Hp} {F : List Addr} {m : M}
theorem itl_ok {a : Addr} {ds : List PyData} {P : AP → Hp → Prop} (h : ∀ O H, P O H → ShT K O H (.ref a) (.list ds)) : ItOk K (Itl K a) ds P := by
  refine ⟨fun i O H p hi => ?_, fun O H p => ?_, fun i O H x H' p hi hy => ?_⟩
  · obtain ⟨b, xs, e, l, _, q⟩ := t_list (h O H p)
    cases e
    obtain ⟨x, hx, _⟩ := Paired.get q (List.getElem?_eq_getElem hi)
    exact ⟨xs, x, SqL.of l, hx⟩
  · obtain ⟨b, xs, e, l, _, q⟩ := t_list (h O H p)
    cases e
    exact ⟨xs, SqL.of l, Nat.le_of_eq (Paired.len q)⟩
  · obtain ⟨rfl, hy⟩ := hy
    obtain ⟨b, xs, e, l, _, q⟩ := t_list (h O H' p)
    cases e
    obtain ⟨x', hx, s⟩ := Paired.get q (List.getElem?_eq_getElem hi)
    have := hy xs (SqL.of l)
    rw [hx] at this; cases this
    exact ⟨Keep.refl, _, List.getElem?_eq_getElem hi, s⟩
theorem itt_ok {a : Addr} {ds : List PyData} {P : AP → Hp → Prop} (h : ∀ O H, P O H → ShT K O H (.ref a) (.tuple ds)) : ItOk K (Itt K a) ds P := by
  refine ⟨fun i O H p hi => ?_, fun O H p => ?_, fun i O H x H' p hi hy => ?_⟩
  · obtain ⟨b, xs, e, l, _, q⟩ := t_tup (h O H p)
    cases e
    obtain ⟨x, hx, _⟩ := Paired.get q (List.getElem?_eq_getElem hi)
    exact ⟨xs, x, l, hx⟩
  · obtain ⟨b, xs, e, l, _, q⟩ := t_tup (h O H p)
    cases e
    exact ⟨xs, l, Nat.le_of_eq (Paired.len q)⟩
  · obtain ⟨rfl, hy⟩ := hy
    obtain ⟨b, xs, e, l, _, q⟩ := t_tup (h O H' p)
    cases e
    obtain ⟨x', hx, s⟩ := Paired.get q (List.getElem?_eq_getElem hi)
    have := hy xs l
    rw [hx] at this; cases this
    exact ⟨Keep.refl, _, List.getElem?_eq_getElem hi, s⟩
theorem itr_ok {lo : Int} {n : Nat} : ItOk K (Itr lo n) ((List.range n).map fun (k : Nat) => .int (lo + (k : Int))) fun _ _ => True := by
  refine ⟨fun i O H p hi => ?_, fun O H p => ?_, fun i O H x H' p hi hy => ?_⟩
  · show i < n; simpa using hi
  · show n ≤ _; simp
  · obtain ⟨rfl, rfl⟩ := hy
    have hi' : i < n := by simpa using hi
    exact ⟨Keep.refl, _, by rw [List.getElem?_map, List.getElem?_range hi']; rfl, sh_int.mpr rfl⟩
theorem di_e {tg a : Expr} {ea : E} (ha : DE X xc W cl a ea) : DI X xc W cl tg a (.e ea) :=
  PIimp (PIor (pi_list ha) (pi_tup ha)) fun σ H R h => by
    obtain ⟨g, O0, e, s, G, h⟩ := h
    have h : PostI xc X.K W g O0 e σ H R (match ev cl ea ⟨e, s⟩ with
      | .ok r m1 => match items m1.e r with
        | some p => .ok p m1
        | none => .bad
      | .rz c f m1 => .rz c f m1
      | .bad => .bad) := h
    cases hf : ev cl ea ⟨e, s⟩ with
    | bad => simp only [hf] at h; exact h.elim
    | rz c f m1 => exact .inl ⟨g, O0, e, s, G, by show PostE xc X.K W g O0 e σ H _ (ev cl ea ⟨e, s⟩); rw [hf]; simp only [hf] at h; exact h⟩
    | ok r m1 =>
      simp only [hf] at h
      have list : ∀ ds, (∀ v H1 F, Stp X.K g O0 e σ H F m1 H1 → RV1 X.K g (Ow (plus O0 F) m1.e σ) σ H1 v F r → Sh X.K (Ow O0 m1.e σ) H1 v (.list ds)) → items m1.e r = some (ds, none) → ∃ g O0 e s, Good X.K g O0 e s σ H ∧ PostE xc X.K W g O0 e σ H (fun x H1 => ∃ a, x = .ref a ∧ (∃ xs, SqL X.K H1 a xs) ∧ R (Itl X.K a) H1) (ev cl ea ⟨e, s⟩) := fun ds hv hi => by
        simp only [hi] at h
        refine ⟨g, O0, e, s, G, ?_⟩
        rw [hf]
        intro v H1 F t1 rv
        have hs := hv v H1 F t1 rv
        obtain ⟨a, xs, rfl, l, _, q⟩ := sh_list.mp hs
        exact ⟨a, rfl, ⟨xs, l.sq⟩, h _ H1 F t1 ⟨fun O H => Sh X.K O H (.ref a) (.list ds), itl_ok fun O H z => z.top, hs, fun M O O' H H' p k m n => p.go k m n⟩⟩
      cases r with
      | dk => simp only [items] at h; exact h.elim
      | fd t kvs => simp only [items] at h; exact h.elim
      | fl ds =>
        refine .inl (list ds (fun v H1 F t1 rv => ?_) rfl)
        obtain ⟨p, xs, rfl, rfl, hp, z, q⟩ := rv
        obtain ⟨_, n1, n2, _⟩ := t1.new p (by simp)
        exact sh_list.mpr ⟨p, xs, rfl, ⟨fun z => z.elim n1 n2, hp⟩, z, q.weak fun a z => z.imp .inl id⟩
      | v d =>
        cases d with
        | list ds => exact .inl (list ds (fun v H1 F t1 rv => rv.2.weak fun a z => z.imp .inl id) rfl)
        | tuple ds =>
          simp only [items] at h
          refine .inr ⟨g, O0, e, s, G, ?_⟩
          show PostE xc X.K W g O0 e σ H _ (ev cl ea ⟨e, s⟩)
          rw [hf]
          intro v H1 F t1 rv
          have hs : Sh X.K (Ow O0 m1.e σ) H1 v (.tuple ds) := rv.2.weak fun a z => z.imp .inl id
          obtain ⟨a, xs, rfl, l, _, q⟩ := sh_tuple.mp hs
          exact ⟨a, rfl, ⟨xs, l.sq⟩, h _ H1 F t1 ⟨fun O H => Sh X.K O H (.ref a) (.tuple ds), itt_ok fun O H z => z.top, hs, fun M O O' H H' p k m n => p.go k m n⟩⟩
        | none => simp only [items] at h; exact h.elim
        | bool b => simp only [items] at h; exact h.elim
        | int b => simp only [items] at h; exact h.elim
        | str b => simp only [items] at h; exact h.elim
        | dict b => simp only [items] at h; exact h.elim
      | pl i =>
        cases hs : m1.e[i]? with
        | none => simp only [items, hs] at h; exact h.elim
        | some sl =>
          cases sl with
          | un => simp only [items, hs] at h; exact h.elim
          | ex a f => simp only [items, hs] at h; exact h.elim
          | dk => simp only [items, hs] at h; exact h.elim
          | od t kvs => simp only [items, hs] at h; exact h.elim
          | sh d =>
            cases d with
            | list ds =>
              refine .inl (list ds (fun v H1 F t1 rv => ?_) (by simp only [items, hs]))
              obtain ⟨v', h1, h2⟩ := t1.repO.at' i _ hs
              rw [rv.2] at h1; cases h1
              exact h2
            | tuple ds => simp only [items, hs] at h; exact h.elim
            | none => simp only [items, hs] at h; exact h.elim
            | bool b => simp only [items, hs] at h; exact h.elim
            | int b => simp only [items, hs] at h; exact h.elim
            | str b => simp only [items, hs] at h; exact h.elim
            | dict b => simp only [items, hs] at h; exact h.elim
          | ol ds =>
            simp only [items, hs] at h
            refine .inl ⟨g, O0, e, s, G, ?_⟩
            show PostE xc X.K W g O0 e σ H _ (ev cl ea ⟨e, s⟩)
            rw [hf]
            intro v H1 F t1 rv
            obtain ⟨p, xs, h1, _, h3, h4, h5⟩ := t1.repO.at' i _ hs
            have hi := rv.2
            rw [hi] at h1; cases h1
            exact ⟨p, rfl, ⟨xs, SqL.of h3⟩, h _ H1 F t1 ⟨p, hi, itl_ok fun O H z => z⟩⟩
theorem rvs1 {O : AP} {vs : List V} {a : R} (h : RVs K g O σ H vs F [a]) : ∃ x, vs = [x] ∧ RV1 K g O σ H x F a := by
  generalize hr : [a] = rs at h
  cases h with
  | nil => cases hr
  | cons r t _ =>
    cases hr
    cases t
    exact ⟨_, rfl, by rw [List.append_nil]; exact r⟩
noncomputable def lenEs : Es → Nat
  | .nil => 0
  | .cons _ es => lenEs es + 1
theorem evs_len : ∀ (es : Es) (m : M) (rs : List R) (m1 : M), evs cl es m = .ok rs m1 → rs.length = lenEs es
  | .nil, m, rs, m1, h => by cases h; rfl
  | .cons a es, m, rs, m1, h => by
    have h : (match ev cl a m with
      | .ok r m1 => match evs cl es m1 with
        | .ok rs m2 => Res.ok (r :: rs) m2
        | .rz c f m2 => .rz c f m2
        | .bad => .bad
      | .rz c f m1 => .rz c f m1
      | .bad => .bad) = .ok rs m1 := h
    split at h
    · rename_i r m2 h1
      split at h
      · rename_i rs' m3 h2
        cases h
        rw [List.length_cons, evs_len es _ _ _ h2]; rfl
      · cases h
      · cases h
    · cases h
    · cases h
theorem rng_ok {es : Es} (R : L2.It → Hp → Prop) (h : tI xc K W (fun m => evI cl (.rng es) m) σ H R) (Q : List V → Hp → Prop)
    (hq : ∀ rs ds vs g O H1 F, rs.length = lenEs es → rngD rs = some ds → RVs K g O σ H1 vs F rs → (∀ J, (∃ P, ItOk K J ds P ∧ P (fun _ => True) H1 ∧ ∀ O H O' H', P O H → P O' H') → R J H1) → Q vs H1) : tEs xc K W (fun m => evs cl es m) σ H Q := by
  obtain ⟨g, O0, e, s, G, h⟩ := h
  refine ⟨g, O0, e, s, G, ?_⟩
  show PostEs xc K W g O0 e σ H _ (evs cl es ⟨e, s⟩)
  have h : PostI xc K W g O0 e σ H R (match evs cl es ⟨e, s⟩ with
    | .ok rs m1 => match rngD rs with
      | some ds => .ok (ds, none) m1
      | none => .bad
    | .rz c f m1 => .rz c f m1
    | .bad => .bad) := h
  cases hf : evs cl es ⟨e, s⟩ with
  | bad => simp only [hf] at h; exact h.elim
  | rz c f m1 => simp only [hf] at h; exact h
  | ok rs m1 =>
    simp only [hf] at h
    intro vs H1 F t1 rvs
    cases hd : rngD rs with
    | none => simp only [hd] at h; exact h.elim
    | some ds =>
      simp only [hd] at h
      refine hq rs ds vs g _ H1 F (evs_len _ _ _ _ hf) hd rvs fun J ⟨P, h1, h2, h3⟩ => h J H1 F t1 ⟨P, h1, h3 _ _ _ _ h2, fun M O O' H H' p _ _ _ => h3 _ _ _ _ p⟩
theorem di_rng1 {tg a : Expr} {ea : E} {p pos : Pos} (hg : Gl X "range") (hm : X.mg "range" = none) (ha : DE X xc W cl a ea) (hs : starEach [a] X.env = [(false, eval a X.env)] := by rfl) : DI X xc W cl tg (.Call (.Name "range" p) [a] [] pos) (.rng (.cons ea .nil)) :=
  PIimp (pi_range1 hg hm (da_cons ha da_nil hs) hs) fun σ H R h => rng_ok R h _ fun rs ds vs g O H1 F hl hd rvs hR => by
    unfold rngD at hd
    split at hd
    · split at hd
      · rename_i j hj
        cases hd
        obtain ⟨x, rfl, r⟩ := rvs1 rvs
        obtain rfl := sh_int.mp r.2
        exact ⟨j, rfl, hj.1, hj.2, hR _ ⟨fun _ _ => True, itr_ok, trivial, fun _ _ _ _ _ => trivial⟩⟩
      · cases hd
    · exact absurd hl (by simp [lenEs])
    · cases hd
theorem di_rng2 {tg a b : Expr} {ea eb : E} {p pos : Pos} (hg : Gl X "range") (hm : X.mg "range" = none) (ha : DE X xc W cl a ea) (hb : DE X xc W cl b eb) (hs : starEach [a, b] X.env = [(false, eval a X.env), (false, eval b X.env)] := by rfl) (hs2 : starEach [b] X.env = [(false, eval b X.env)] := by rfl) :
    DI X xc W cl tg (.Call (.Name "range" p) [a, b] [] pos) (.rng (.cons ea (.cons eb .nil))) :=
  PIimp (pi_range2 hg hm (da_cons ha (da_cons hb da_nil hs2) (by rw [hs, hs2])) hs hs2) fun σ H R h => rng_ok R h _ fun rs ds vs g O H1 F hl hd rvs hR => by
    unfold rngD at hd
    split at hd
    · exact absurd hl (by simp [lenEs])
    · split at hd
      · rename_i i j hj
        cases hd
        obtain ⟨x, y, F1, F2, rfl, r1, r2⟩ : ∃ x y F1 F2, vs = [x, y] ∧ RV1 X.K g O σ H1 x F1 (.v (.int i)) ∧ RV1 X.K g O σ H1 y F2 (.v (.int j)) := by
          cases rvs with
          | cons r t _ => cases t with
            | cons r' t' _ => cases t'; exact ⟨_, _, _, _, rfl, r, r'⟩
        obtain rfl := sh_int.mp r1.2
        obtain rfl := sh_int.mp r2.2
        exact ⟨i, j, rfl, hj, hR _ ⟨fun _ _ => True, itr_ok, trivial, fun _ _ _ _ _ => trivial⟩⟩
      · cases hd
    · cases hd
end
end PV
namespace PV
open PySem PySem.Spec L2
section
variable {X : Cx} {xc : XC} {W : WX} {cl : Nat → List Arg → DS → FRes} {K : PySem.W.Frag} {g : Gd} {O O0 : AP} {e : Env} {s : DS} {σ : L2.St} {H H1 H' : Hp} {F : List Addr} {m m1 : M} {D : Ends} {A : Nat → Bool}
/-- behind an expression, a statement's end -/
theorem PostS.stp {x : Res Flow} (G : Good K g O0 e s σ H) (t : Stp K g O0 e σ H F m1 H1) (h : PostS xc K W g O0 e σ H A D x) : PostS xc K W g O0 m1.e σ H1 A D x := PostS.step (t.ss G) h
theorem nx_of (G : Good K g O0 e s σ H) (h : PostS xc K W g O0 e σ H A D (.ok .nx ⟨e, s⟩)) : D.nx σ H := h σ H (StS.refl G)
theorem tS.intro {f : M → Res Flow} (G : Good K g O0 e s σ H) (h : PostS xc K W g O0 e σ H A D (f ⟨e, s⟩)) : tS xc K W A f D σ H := ⟨g, O0, e, s, G, h⟩
/-- a test, then one of two -/
theorem ifs_ok {c : T} {f k : M → Res Flow} (h : tS xc K W A (fun m => match evT cl c m with
      | .ok true m1 => f m1
      | .ok false m1 => k m1
      | .rz c f m1 => .rz c f m1
      | .bad => .bad) D σ H) : tT xc K W (fun m => evT cl c m) σ H fun b H1 => if b = true then tS xc K W A f D σ H1 else tS xc K W A k D σ H1 := by
  obtain ⟨g, O0, e, s, G, h⟩ := h
  refine ⟨g, O0, e, s, G, ?_⟩
  show PostT xc K W g O0 e σ H _ (evT cl c ⟨e, s⟩)
  cases hf : evT cl c ⟨e, s⟩ with
  | rz c f m1 => simp only [hf] at h; exact fun cls dd H' t x => h cls dd σ H' (t.ss G) x
  | bad => simp only [hf] at h; exact h
  | ok b m1 =>
    intro H1 t1
    cases b with
    | true => simp only [hf] at h; rw [if_pos rfl]; exact tS.intro (G.step0 t1) (PostS.stp G t1 h)
    | false => simp only [hf] at h; rw [if_neg (by simp)]; exact tS.intro (G.step0 t1) (PostS.stp G t1 h)
theorem tS.mono {f : M → Res Flow} {A' : Nat → Bool} (h : tS xc K W A f D σ H) (i : ∀ j, A j = false → A' j = false) : tS xc K W A' f D σ H := by
  obtain ⟨g, O0, e, s, G, h⟩ := h
  exact ⟨g, O0, e, s, G, h.mono i⟩
theorem PostS.ends {x : Res Flow} {D' : Ends} (h : PostS xc K W g O0 e σ H A D x) (n : ∀ σ H, D.nx σ H → D'.nx σ H) (b : ∀ σ H, D.bk σ H → D'.bk σ H) (c : ∀ σ H, D.ct σ H → D'.ct σ H) (r : ∀ v H, D.rt v H → D'.rt v H) : PostS xc K W g O0 e σ H A D' x := by
  cases x with
  | bad => exact h
  | rz c f m => exact h
  | ok fl m => cases fl with
    | nx => exact fun σ' H' t => n _ _ (h σ' H' t)
    | brk => exact fun σ' H' t => b _ _ (h σ' H' t)
    | ct => exact fun σ' H' t => c _ _ (h σ' H' t)
    | rt z => exact fun v σ' H' F t => r _ _ (h v σ' H' F t)
theorem seq_ok {f k : M → Res Flow} (h : tS xc K W A (fun m => match f m with
      | .ok .nx m1 => k m1
      | r => r) D σ H) : tS xc K W A f { D with nx := tS xc K W A k D } σ H := by
  obtain ⟨g, O0, e, s, G, h⟩ := h
  refine ⟨g, O0, e, s, G, ?_⟩
  cases hf : f ⟨e, s⟩ with
  | rz c f m1 => simp only [hf] at h; exact h
  | bad => simp only [hf] at h; exact h
  | ok fl m1 =>
    cases fl with
    | nx => simp only [hf] at h; exact fun σ' H' t => tS.intro (G.ss t) (PostS.step t h)
    | brk => simp only [hf] at h; exact h
    | ct => simp only [hf] at h; exact h
    | rt r => simp only [hf] at h; exact h
end
section
variable {X : Cx} {xc : XC} {W : WX} {cl : Nat → List Arg → DS → FRes} {st : Stmt} {rest sa sb : List Stmt} {a b c e : Expr} {ia : S} {ib ic : Ss} {ea : E} {tc : T} {tg : Tg} {it : It} {pos : Pos}
theorem ds_nil : DSs X xc W cl [] .nil := PSsimp pss_nil fun D σ H h => by
  obtain ⟨g, O0, e, s, G, h⟩ := h
  exact nx_of G h
theorem cons_imp {D : Ends} {σ : L2.St} {H : Hp} (h : tS xc X.K W (asgSs (.cons ia ib)) (fun m => exs cl (.cons ia ib) m) D σ H) : tSeq (tS xc X.K W (asgS ia) fun m => ex cl ia m) (tS xc X.K W (asgSs ib) fun m => exs cl ib m) D σ H := by
  have h : tS xc X.K W (asgSs (.cons ia ib)) (fun m => match (fun m => ex cl ia m) m with
      | .ok .nx m1 => (fun m => exs cl ib m) m1
      | r => r) D σ H := h
  have s1 : ∀ j, asgSs (.cons ia ib) j = false → asgS ia j = false ∧ asgSs ib j = false := fun j z => by simpa [asgSs] using z
  obtain ⟨g, O0, e, s, G, h⟩ := (seq_ok h).mono fun j z => (s1 j z).1
  exact ⟨g, O0, e, s, G, h.ends (fun σ H z => z.mono fun j z => (s1 j z).2) (fun _ _ z => z) (fun _ _ z => z) fun _ _ z => z⟩
theorem ds_cons (h1 : DS' X xc W cl st ia) (h2 : DSs X xc W cl rest ib) : DSs X xc W cl (st :: rest) (.cons ia ib) := PSsimp (pss_cons h1 h2) fun D σ H h => cons_imp h
theorem ds_if (hc : DT X xc W cl c tc) (ha : DSs X xc W cl sa ib) (hb : DSs X xc W cl sb ic) : DS' X xc W cl (.If c sa sb pos) (.ite tc ib ic) := PSimp (ps_if hc ha hb) fun D σ H h => by
  have s1 : ∀ j, asgS (.ite tc ib ic) j = false → asgSs ib j = false ∧ asgSs ic j = false := fun j z => by simpa [asgS] using z
  refine (ifs_ok (f := fun m => exs cl ib m) (k := fun m => exs cl ic m) h).mono fun b H1 h => ?_
  cases b with
  | true => exact (show tS xc X.K W _ _ D σ H1 from by simpa using h).mono fun j z => (s1 j z).1
  | false => exact (show tS xc X.K W _ _ D σ H1 from by simpa using h).mono fun j z => (s1 j z).2
theorem ds_ret (ha : DE X xc W cl a ea) : DS' X xc W cl (.Return (some a) pos) (.ret ea) := PSimp (ps_ret ha) fun D σ H h => by
  obtain ⟨g, O0, e, s, G, h⟩ := h
  refine ⟨g, O0, e, s, G, ?_⟩
  show PostE xc X.K W g O0 e σ H _ (ev cl ea ⟨e, s⟩)
  have h : PostS xc X.K W g O0 e σ H (asgS (.ret ea)) D (match ev cl ea ⟨e, s⟩ with
    | .ok r m1 => .ok (.rt r) m1
    | .rz c f m1 => .rz c f m1
    | .bad => .bad) := h
  cases hf : ev cl ea ⟨e, s⟩ with
  | rz c f m1 => simp only [hf] at h; exact fun cls dd H' t x => h cls dd σ H' (t.ss G) x
  | bad => simp only [hf] at h; exact h
  | ok r m1 =>
    simp only [hf] at h
    exact fun v H' F t rv => h v σ H' F ⟨t.keep, fun a z => .inl (t.own a z), fun p hp => ⟨(t.new p hp).1, (t.new p hp).2.2.2⟩, t.repO, t.dk, rv⟩
theorem ex_imp {D : Ends} {σ : L2.St} {H : Hp} (h : tS xc X.K W (asgS (.ex ea)) (fun m => ex cl (.ex ea) m) D σ H) : tDrop (tE xc X.K W fun m => ev cl ea m) D σ H := by
  obtain ⟨g, O0, e, s, G, h⟩ := h
  refine ⟨g, O0, e, s, G, ?_⟩
  show PostE xc X.K W g O0 e σ H _ (ev cl ea ⟨e, s⟩)
  have h : PostS xc X.K W g O0 e σ H (asgS (.ex ea)) D (match ev cl ea ⟨e, s⟩ with
    | .ok _ m1 => .ok .nx m1
    | .rz c f m1 => .rz c f m1
    | .bad => .bad) := h
  cases hf : ev cl ea ⟨e, s⟩ with
  | rz c f m1 => simp only [hf] at h; exact fun cls dd H' t x => h cls dd σ H' (t.ss G) x
  | bad => simp only [hf] at h; exact h
  | ok r m1 =>
    simp only [hf] at h
    exact fun v H' F t rv => h σ H' (t.ss G)
theorem ds_ex (ha : DE X xc W cl a ea) (hs : swapsWith a none pos.line X.env = pure false := by rfl) : DS' X xc W cl (.Expr a pos) (.ex ea) := PSimp (ps_expr ha hs) fun D σ H h => ex_imp h
/-- slot i takes it -/
theorem setR_ok {K : PySem.W.Frag} {g : Gd} {O0 : AP} {e e' : Env} {s : DS} {σ : L2.St} {H H1 : Hp} {F : List Addr} {m1 : M} {v : V} {r : R} {i : Nat} {A : Nat → Bool} (G : Good K g O0 e s σ H) (t : Stp K g O0 e σ H F m1 H1) (rv : RV1 K g (Ow (plus O0 F) m1.e σ) σ H1 v F r) (hr : setR i r m1.e = some e') (hA : A i = true) :
    StS K g O0 e σ H A ⟨e', m1.s⟩ (σ.set i (some v)) H1 := by
  have fx : ∀ j, A j = false → (σ.set i (some v))[j]? = σ[j]? := fun j z => List.getElem?_set_ne fun q => by subst q; rw [hA] at z; cases z
  have hn : ∀ p ∈ F, ¬ O0 p ∧ ¬ own m1.e σ p := fun p hp => ⟨(t.new p hp).2.1, (t.new p hp).2.2.1⟩
  -- what escapes
  have shared : ∀ {d e1}, esc m1.e r = some (d, e1) → StS K g O0 e σ H A ⟨e1.set i (.sh d), m1.s⟩ (σ.set i (some v)) H1 := fun {d e1} he => by
    obtain ⟨r2, o2, s2⟩ := esc_ok t.repO rv hn he
    exact ⟨t.keep, fun a z => .inl (t.own a (o2 a (own_set rfl z))), r2.setSh s2, t.dk, fx⟩
  have mine : ∀ {p : Addr} {sl : Slot}, isOwn (some sl) = true → F = [p] → v = .ref p → (i < m1.e.length → SlotR K g O0 (Ow (plus O0 [p]) m1.e σ) (σ.set i (some (.ref p))) H1 i sl) → StS K g O0 e σ H A ⟨m1.e.set i sl, m1.s⟩ (σ.set i (some v)) H1 := fun {p sl} ow hF hv hs => by
    subst hF
    subst hv
    obtain ⟨n1, n2, n3, n4⟩ := t.new p (by simp)
    refine ⟨t.keep, fun a z => ?_, t.rep.setOwn n2 n3 hs, t.dk, fx⟩
    obtain ⟨j, h1, h2⟩ := z
    rcases isOwn_set h1 with ⟨z, y⟩ | ⟨z, y⟩
    · rcases get_set h2 with ⟨_, q, _⟩ | ⟨q, _⟩
      · cases q; exact .inr n1
      · exact absurd z q
    · rcases get_set h2 with ⟨q, _, _⟩ | ⟨_, q⟩
      · exact absurd q z
      · exact .inl (t.own a ⟨j, y, q⟩)
  cases r with
  | fl ds =>
    obtain rfl : m1.e.set i (.ol ds) = e' := by simpa [setR] using hr
    obtain ⟨p, xs, h1, h2, h3, h4, h5⟩ := rv
    exact mine rfl h1 h2 fun l => ⟨p, xs, by rw [List.getElem?_set_self (by rw [← t.rep.len]; exact l)], (t.new p (by rw [h1]; simp)).2.1, h3, h4, by subst h1; exact h5⟩
  | fd tt kvs =>
    obtain rfl : m1.e.set i (.od tt kvs) = e' := by simpa [setR] using hr
    obtain ⟨p, o, h1, h2, h3, h5⟩ := rv
    exact mine rfl h1 h2 fun l => ⟨p, o, by rw [List.getElem?_set_self (by rw [← t.rep.len]; exact l)], (t.new p (by rw [h1]; simp)).2.1, h3, by subst h1; exact h5⟩
  | dk =>
    obtain rfl : m1.e.set i (.dk _) = e' := by simpa [setR] using hr
    obtain ⟨_, rfl⟩ := rv
    exact ⟨t.keep, fun a z => .inl (t.own a (own_set rfl z)), t.repO.setDk, t.dk, fx⟩
  | v d =>
    simp only [setR] at hr
    cases he : esc m1.e (.v d) with
    | none => rw [he] at hr; cases hr
    | some q => rw [he] at hr; cases hr; exact shared he
  | pl j =>
    simp only [setR] at hr
    cases he : esc m1.e (.pl j) with
    | none => rw [he] at hr; cases hr
    | some q => rw [he] at hr; cases hr; exact shared he
theorem set_imp {D : Ends} {σ : L2.St} {H : Hp} {i : Nat} (h : tS xc X.K W (asgS (.set (.nm i) ea)) (fun m => ex cl (.set (.nm i) ea) m) D σ H) : tAsg (tE xc X.K W fun m => ev cl ea m) (gName i) D σ H := by
  obtain ⟨g, O0, e, s, G, h⟩ := h
  refine ⟨g, O0, e, s, G, ?_⟩
  show PostE xc X.K W g O0 e σ H _ (ev cl ea ⟨e, s⟩)
  have h : PostS xc X.K W g O0 e σ H (asgS (.set (.nm i) ea)) D (match ev cl ea ⟨e, s⟩ with
    | .ok r m1 => match setR i r m1.e with
      | some e => .ok .nx ⟨e, m1.s⟩
      | none => .bad
    | .rz c f m1 => .rz c f m1
    | .bad => .bad) := h
  cases hf : ev cl ea ⟨e, s⟩ with
  | rz c f m1 => simp only [hf] at h; exact fun cls dd H' t x => h cls dd σ H' (t.ss G) x
  | bad => simp only [hf] at h; exact h
  | ok r m1 =>
    simp only [hf] at h
    intro v H1 F t rv
    cases hr : setR i r m1.e with
    | none => simp only [hr] at h; exact h.elim
    | some e' =>
      simp only [hr] at h
      exact h _ H1 (setR_ok G t rv hr (by simp [asgS, asgT]))
theorem ds_set {i : Nat} {x : Str} {p : Pos} (nd : X.N.Nodup) (hi : X.N[i]? = some x) (hx : Loc X.env.scope x) (ha : DE X xc W cl a ea) (hs : swapsWith a (some (.Name x p)) pos.line X.env = pure false := by rfl) (hf : X.fn x = true ∨ X.env.scope.names.lookup x = some .local := by first | exact .inl rfl | exact .inr rfl | assumption) :
    DS' X xc W cl (.Assign [.Name x p] a pos) (.set (.nm i) ea) := PSimp (ps_set nd hi hx ha hs hf) fun D σ H h => set_imp h
theorem ds_unp {t : Expr} {as : Tgs} (ht : DG X t (.tp as)) (ha : DE X xc W cl a ea) (hs : swapsWithSole [t] a pos.line X.env = pure false := by rfl) (hw : swappedStores [t] a X.env = pure none := by rfl) (h1 : (assignEach [t] X.env).map (·.2) = [assign t X.env] := by rfl) :
    DS' X xc W cl (.Assign [t] a pos) (.set (.tp as) ea) := PSimp (ps_asg ha ht hs hw h1) fun D σ H h => by
  obtain ⟨g, O0, e, s, G, h⟩ := h
  refine ⟨g, O0, e, s, G, ?_⟩
  show PostE xc X.K W g O0 e σ H _ (ev cl ea ⟨e, s⟩)
  have h : PostS xc X.K W g O0 e σ H (asgS (.set (.tp as) ea)) D (match ev cl ea ⟨e, s⟩ with
    | .ok r m1 => match esc m1.e r with
      | some (d, e1) => match bind1 e1 (.tp as) d with
        | some e => .ok .nx ⟨e, m1.s⟩
        | none => .bad
      | none => .bad
    | .rz c f m1 => .rz c f m1
    | .bad => .bad) := h
  cases hf : ev cl ea ⟨e, s⟩ with
  | rz c f m1 => simp only [hf] at h; exact fun cls dd H' t x => h cls dd σ H' (t.ss G) x
  | bad => simp only [hf] at h; exact h
  | ok r m1 =>
    simp only [hf] at h
    intro v H1 F t rv
    cases hr : esc m1.e r with
    | none => simp only [hr] at h; exact h.elim
    | some q =>
      obtain ⟨d, e1⟩ := q
      simp only [hr] at h
      cases hb : bind1 e1 (.tp as) d with
      | none => simp only [hb] at h; exact h.elim
      | some e2 =>
        simp only [hb] at h
        obtain ⟨r2, o2, s2⟩ := esc_ok t.repO rv (fun p hp => ⟨(t.new p hp).2.1, (t.new p hp).2.2.1⟩) hr
        have G1 := G.step0 t
        exact ⟨g, O0, e1, m1.s, d, e2, ⟨G1.dk0, G1.oe, r2, G1.dk, G1.ob⟩, s2, hb, fun σ' r3 o3 f3 => h σ' H1 ⟨t.keep, fun a z => .inl (t.own a (o2 a (o3 a z))), r3, t.dk, f3⟩⟩
end
end PV
namespace PV
open PySem PySem.Spec L2
structure StX (K : PySem.W.Frag) (g : Gd) (O0 : AP) (e : Env) (σ : L2.St) (H : Hp) (A : Nat → Bool) (F : List Addr) (m : M) (σ' : L2.St) (H' : Hp) : Prop where
  keep : Keep (Mu g e σ) H H'
  own : ∀ a, own m.e σ' a → PV.own e σ a ∨ H a = none
  new : ∀ p ∈ F, H p = none ∧ ¬ O0 p ∧ ¬ PV.own m.e σ' p ∧ H' p ≠ none
  rep : Rep K g (plus O0 F) m.e σ' H'
  dk : DkRep g m.s H'
  fx : ∀ j, A j = false → σ'[j]? = σ[j]?
section
variable {xc : XC} {K : PySem.W.Frag} {g : Gd} {O0 : AP} {e e' : Env} {s : DS} {σ σ' : L2.St} {H H' : Hp} {A : Nat → Bool} {F F1 F2 : List Addr} {m : M} {v : V} {r : R} {vs : List V} {rs : List R}
theorem StX.ss (t : StX K g O0 e σ H A [] m σ' H') : StS K g O0 e σ H A m σ' H' := ⟨t.keep, t.own, t.rep.weak fun _ z => .inl z, t.dk, t.fx⟩
theorem Stp.sx (t : Stp K g O0 e σ H F m H') : StX K g O0 e σ H A F m σ H' := ⟨t.keep, fun a z => .inl (t.own a z), t.new, t.rep, t.dk, fun _ _ => rfl⟩
noncomputable def plR : R → Bool
  | .pl _ => true
  | _ => false
theorem setX {i : Nat} (t : StX K g O0 e σ H A (F1 ++ F2) m σ' H') (np : plR r = false) (rv : RV1 K g (Ow (plus O0 (F1 ++ F2)) m.e σ') σ' H' v F1 r) (ap : ∀ p ∈ F1, p ∉ F2) (hr : setR i r m.e = some e') (hA : A i = true) :
    StX K g O0 e σ H A F2 ⟨e', m.s⟩ (σ'.set i (some v)) H' ∧ ∀ a, Ow (plus O0 F2) e' (σ'.set i (some v)) a → Ow (plus O0 (F1 ++ F2)) m.e σ' a := by
  have fx : ∀ j, A j = false → (σ'.set i (some v))[j]? = σ[j]? := fun j z => by
    rw [List.getElem?_set_ne fun q => by subst q; rw [hA] at z; cases z]
    exact t.fx j z
  have sub : ∀ a, plus O0 F2 a → plus O0 (F1 ++ F2) a := fun a z => z.imp id fun z => List.mem_append_right _ z
  have rep2 : Rep K g (plus O0 F2) m.e σ' H' := t.rep.weak sub
  have plain : ∀ {sl : Slot}, isOwn (some sl) = false → Rep K g (plus O0 F2) (m.e.set i sl) (σ'.set i (some v)) H' → StX K g O0 e σ H A F2 ⟨m.e.set i sl, m.s⟩ (σ'.set i (some v)) H' ∧ ∀ a, Ow (plus O0 F2) (m.e.set i sl) (σ'.set i (some v)) a → Ow (plus O0 (F1 ++ F2)) m.e σ' a := fun {sl} hs rp =>
    ⟨⟨t.keep, fun a z => t.own a (own_set hs z), fun p hp => by
      obtain ⟨h1, h2, h3, h4⟩ := t.new p (List.mem_append_right _ hp)
      exact ⟨h1, h2, fun z => h3 (own_set hs z), h4⟩, rp, t.dk, fx⟩, fun a z => z.imp (sub a) fun z => own_set hs z⟩
  have mine : ∀ {p : Addr} {sl : Slot}, F1 = [p] → v = .ref p → (i < m.e.length → SlotR K g (plus O0 F2) (Ow (plus (plus O0 F2) [p]) m.e σ') (σ'.set i (some (.ref p))) H' i sl) → StX K g O0 e σ H A F2 ⟨m.e.set i sl, m.s⟩ (σ'.set i (some v)) H' ∧ ∀ a, Ow (plus O0 F2) (m.e.set i sl) (σ'.set i (some v)) a → Ow (plus O0 (F1 ++ F2)) m.e σ' a := fun {p sl} hF hv hs => by
    subst hF
    subst hv
    obtain ⟨n1, n2, n3, n4⟩ := t.new p (by simp)
    have o1 : ∀ a, PV.own (m.e.set i sl) (σ'.set i (some (.ref p))) a → a = p ∨ PV.own m.e σ' a := fun a z => by
      obtain ⟨j, h1, h2⟩ := z
      rcases isOwn_set h1 with ⟨z, y⟩ | ⟨z, y⟩
      · rcases get_set h2 with ⟨_, q, _⟩ | ⟨q, _⟩
        · cases q; exact .inl rfl
        · exact absurd z q
      · rcases get_set h2 with ⟨q, _, _⟩ | ⟨_, q⟩
        · exact absurd q z
        · exact .inr ⟨j, y, q⟩
    refine ⟨⟨t.keep, fun a z => ?_, fun q hq => ?_, ?_, t.dk, fx⟩, fun a z => ?_⟩
    · rcases o1 a z with rfl | z
      · exact .inr n1
      · exact t.own a z
    · obtain ⟨h1, h2, h3, h4⟩ := t.new q (List.mem_append_right _ hq)
      refine ⟨h1, h2, fun z => ?_, h4⟩
      rcases o1 q z with rfl | z
      · exact ap q (by simp) hq
      · exact h3 z
    · refine (t.rep.weak (O0' := plus (plus O0 F2) [p]) fun a z => ?_).setOwn (fun z => z.elim n2 fun z => ap p (by simp) z) n3 hs
      rcases z with (z | z) | z
      · exact .inl z
      · exact .inr (List.mem_append_right _ z)
      · exact .inr (List.mem_append_left _ z)
    · rcases z with z | z
      · exact .inl (sub a z)
      · rcases o1 a z with rfl | z
        · exact .inl (.inr (by simp))
        · exact .inr z
  cases r with
  | fl ds =>
    obtain rfl : m.e.set i (.ol ds) = e' := by simpa [setR] using hr
    obtain ⟨p, xs, h1, h2, h3, h4, h5⟩ := rv
    refine mine h1 h2 fun l => ⟨p, xs, by rw [List.getElem?_set_self (by rw [← t.rep.len]; exact l)], fun z => z.elim (t.new p (by rw [h1]; simp)).2.1 fun z => ap p (by rw [h1]; simp) z, h3, h4, h5.weak fun a z => ?_⟩
    subst h1
    rcases z with ((z | z) | z) | z
    · exact .inl (.inl z)
    · exact .inl (.inr (List.mem_append_right _ z))
    · exact .inl (.inr (List.mem_append_left _ z))
    · exact .inr z
  | fd tt kvs =>
    obtain rfl : m.e.set i (.od tt kvs) = e' := by simpa [setR] using hr
    obtain ⟨p, o, h1, h2, h3, h5⟩ := rv
    refine mine h1 h2 fun l => ⟨p, o, by rw [List.getElem?_set_self (by rw [← t.rep.len]; exact l)], fun z => z.elim (t.new p (by rw [h1]; simp)).2.1 fun z => ap p (by rw [h1]; simp) z, h3, h5.weak fun a z => ?_⟩
    subst h1
    rcases z with ((z | z) | z) | z
    · exact .inl (.inl z)
    · exact .inl (.inr (List.mem_append_right _ z))
    · exact .inl (.inr (List.mem_append_left _ z))
    · exact .inr z
  | dk =>
    obtain rfl : m.e.set i (.dk _) = e' := by simpa [setR] using hr
    obtain ⟨_, rfl⟩ := rv
    exact plain rfl rep2.setDk
  | v d =>
    obtain rfl : m.e.set i (.sh d) = e' := by simpa [setR, esc] using hr
    exact plain rfl (rep2.setSh (rv.2.weak fun a z => z.imp (sub a) id))
  | pl j => cases np
theorem RVs.one {O : AP} {a : R} (h : RVs K g O σ H vs F [a]) : ∃ x, vs = [x] ∧ RV1 K g O σ H x F a := rvs1 h
theorem RVs.uncons {O : AP} {a : R} (h : RVs K g O σ H vs F (a :: rs)) : ∃ x vs' F1 F2, vs = x :: vs' ∧ F = F1 ++ F2 ∧ RV1 K g O σ H x F1 a ∧ RVs K g O σ H vs' F2 rs ∧ ∀ p ∈ F1, p ∉ F2 := by
  generalize hr : a :: rs = rs' at h
  cases h with
  | nil => cases hr
  | cons r t d => cases hr; exact ⟨_, _, _, _, rfl, rfl, r, t, d⟩
/-- the slot's own entry does not count where nothing is read there -/
theorem RV1.slot {O : AP} {i : Nat} {x : Option V} (np : plR r = false) (h : RV1 K g O σ H v F r) : RV1 K g O (σ.set i x) H v F r := by
  cases r with
  | pl j => cases np
  | v d => exact h
  | fl d => exact h
  | fd t d => exact h
  | dk => exact h
theorem RVs.slot {O : AP} {i : Nat} {x : Option V} (np : noPl rs = true) (h : RVs K g O σ H vs F rs) : RVs K g O (σ.set i x) H vs F rs := by
  induction h with
  | nil => exact .nil
  | @cons v vs F1 F2 r rs q t d ih =>
    have n1 : plR r = false ∧ noPl rs = true := by cases r <;> simp_all [noPl, plR]
    exact .cons (q.slot n1.1) (ih n1.2) d
theorem np1 {a : R} (h : noPl (a :: rs) = true) : plR a = false ∧ noPl rs = true := by cases a <;> simp_all [noPl, plR]
end
section
variable {X : Cx} {xc : XC} {W : WX} {cl : Nat → List Arg → DS → FRes} {a b c : Expr} {ea eb ec : E} {pos px py pz pt : Pos} {as : Es}
theorem par_ok {K : PySem.W.Frag} {is : List Nat} {A : Nat → Bool} {D : Ends} {σ : L2.St} {H : Hp} (h : tS xc K W A (fun m => ex cl (.par is as) m) D σ H) (Q : List V → Hp → Prop)
    (hq : ∀ g O0 e s vs F rs m1 H1, Good K g O0 e s σ H → evs cl as ⟨e, s⟩ = .ok rs m1 → StX K g O0 e σ H A F m1 σ H1 → RVs K g (Ow (plus O0 F) m1.e σ) σ H1 vs F rs → noPl rs = true → ∀ e', setRs is rs m1.e = some e' → (∀ σ' H', StS K g O0 e σ H A ⟨e', m1.s⟩ σ' H' → D.nx σ' H') → Q vs H1) : tEs xc K W (fun m => evs cl as m) σ H Q := by
  obtain ⟨g, O0, e, s, G, h⟩ := h
  refine ⟨g, O0, e, s, G, ?_⟩
  show PostEs xc K W g O0 e σ H _ (evs cl as ⟨e, s⟩)
  have h : PostS xc K W g O0 e σ H A D (match evs cl as ⟨e, s⟩ with
    | .ok rs m1 => if noPl rs = true then match setRs is rs m1.e with
        | some e => .ok .nx ⟨e, m1.s⟩
        | none => .bad
      else .bad
    | .rz c f m1 => .rz c f m1
    | .bad => .bad) := h
  cases hf : evs cl as ⟨e, s⟩ with
  | rz c f m1 => simp only [hf] at h; exact fun cls dd H' t x => h cls dd σ H' (t.ss G) x
  | bad => simp only [hf] at h; exact h
  | ok rs m1 =>
    simp only [hf] at h
    intro vs H1 F t rv
    by_cases np : noPl rs = true
    · rw [if_pos np] at h
      cases hr : setRs is rs m1.e with
      | none => simp only [hr] at h; exact h.elim
      | some e' =>
        simp only [hr] at h
        exact hq g O0 e s vs F rs m1 H1 G hf t.sx rv np e' hr h
    · rw [if_neg np] at h; exact h.elim
theorem ds_par {i j : Nat} {x y : Str} {kt k2 pt2} (o : Ok X) (hi : X.N[i]? = some x) (hj : X.N[j]? = some y) (hij : i ≠ j) (hx : X.env.scope.names.lookup x = some .local) (hy : X.env.scope.names.lookup y = some .local) (ha : DA X xc W cl [a, b] (.cons ea (.cons eb .nil)))
    (hw : swappedStores [.Tuple [.Name x px, .Name y py] kt pt] (.Tuple [a, b] k2 pt2) X.env = pure (some [x, y])) (hs : swapsWithSole [.Tuple [.Name x px, .Name y py] kt pt] (.Tuple [a, b] k2 pt2) pos.line X.env = pure false := by rfl) :
    DS' X xc W cl (.Assign [.Tuple [.Name x px, .Name y py] kt pt] (.Tuple [a, b] k2 pt2) pos) (.par [i, j] (.cons ea (.cons eb .nil))) :=
  PSimp (ps_par o.calm o.nd hi hj hij hx hy ha hw hs) fun D σ H h => par_ok h _ fun g O0 e s vs F rs m1 H1 G hf t rv np e' hr h => by
    have hl := evs_len _ _ _ _ hf
    match rs, hl, rv, np, hr with
    | [r1, r2], _, rv, np, hr =>
      obtain ⟨v, vs', F1, F2, rfl, rfl, q1, q2, ap⟩ := rv.uncons
      obtain ⟨w, rfl, q3⟩ := rvs1 q2
      obtain ⟨n1, n2⟩ := np1 np
      refine ⟨v, w, rfl, ?_⟩
      simp only [setRs] at hr
      cases he1 : setR i r1 m1.e with
      | none => rw [he1] at hr; cases hr
      | some e1 =>
        rw [he1] at hr
        simp only at hr
        cases he2 : setR j r2 e1 with
        | none => rw [he2] at hr; cases hr
        | some e2 =>
          rw [he2] at hr
          cases hr
          obtain ⟨t1, sb⟩ := setX t n1 q1 ap he1 (by simp [asgS])
          obtain ⟨t2, _⟩ := setX (v := w) (F1 := F2) (F2 := []) (m := ⟨e1, m1.s⟩) (i := j) (by rw [List.append_nil]; exact t1) (np1 n2).1 (by rw [List.append_nil]; exact RV1.slot (np1 n2).1 (RV1.weak sb q3)) (fun _ _ z => nomatch z) he2 (by simp [asgS])
          exact h _ H1 t2.ss
end
end PV
namespace PV
open PySem PySem.Spec L2
section
variable {xc : XC} {K : PySem.W.Frag} {W : WX} {cl : Nat → List Arg → DS → FRes} {g : Gd} {O O0 : AP} {e : Env} {s : DS} {σ σ1 : L2.St} {H H1 H' : Hp} {F : List Addr} {m m1 : M} {D : Ends} {A : Nat → Bool}
/-- behind an iterable, a statement's end -/
theorem iter_ok {it : It} {k : List PyData × Src → M → Res Flow} (h : tS xc K W A (fun m => match evI cl it m with
      | .ok p m1 => k p m1
      | .rz c f m1 => .rz c f m1
      | .bad => .bad) D σ H) {R : L2.It → Hp → Prop}
    (hq : ∀ g O0 e s ds src J H1, Good K g O0 e s σ H1 → ItR K σ (Ow O0 e σ) H1 J ds src → PostS xc K W g O0 e σ H1 A D (k (ds, src) ⟨e, s⟩) → R J H1) : tI xc K W (fun m => evI cl it m) σ H R := by
  obtain ⟨g, O0, e, s, G, h⟩ := h
  refine ⟨g, O0, e, s, G, ?_⟩
  show PostI xc K W g O0 e σ H R (evI cl it ⟨e, s⟩)
  cases hf : evI cl it ⟨e, s⟩ with
  | rz c f m1 => simp only [hf] at h; exact fun cls dd H' t x => h cls dd σ H' (t.ss G) x
  | bad => simp only [hf] at h; exact h
  | ok p m1 =>
    obtain ⟨ds, src⟩ := p
    simp only [hf] at h
    exact fun J H1 F t r => hq g O0 m1.e m1.s ds src J H1 (G.step0 t) r (PostS.stp G t h)
/-- the source, later on -/
theorem src_now {J : L2.It} {ds : List PyData} {src : Src} (r : ItR K σ (Ow O0 e σ) H J ds src) : ∃ P, ItOk K J ds P ∧ ∀ m σ1 H1, StS K g O0 e σ H A m σ1 H1 → (∀ a, DkS g a → O0 a) → srcFree A src = true → srcOk m src → P (Ow O0 m.e σ1) H1 := by
  cases src with
  | none =>
    obtain ⟨P, h1, h2, h3⟩ := r
    refine ⟨P, h1, fun m σ1 H1 t d _ _ => h3 (Mu g e σ) _ _ H H1 h2 t.keep (fun a z => z.elim .inr fun z => .inl (d a z)) fun a z => ?_⟩
    rcases z with z | z
    · exact .inl (.inl z)
    · exact (t.own a z).imp .inr id
  | some q =>
    obtain ⟨i, d0⟩ := q
    obtain ⟨p, h1, h2⟩ := r
    refine ⟨_, h2, fun m σ1 H1 t _ hA hs => ?_⟩
    have hA : A i = false := by simpa [srcFree] using hA
    obtain ⟨q, xs, e1, _, e3, e4, e5⟩ := t.rep.at' i _ (show m.e[i]? = some (.ol d0) from hs)
    rw [t.fx i hA, h1] at e1; cases e1
    exact ⟨p, xs, rfl, e3, e4, e5⟩
/-- the turns of a for loop -/
theorem loop_ok {J : L2.It} {tg : Tg} {A1 A2 : Nat → Bool} {f : M → Res Flow} {gt : TG} {tb : TS} {ds : List PyData} {src : Src} (G : Good K g O0 e s σ H) (r : ItR K σ (Ow O0 e σ) H J ds src) (hA : srcFree A src = true) (h1 : ∀ j, A j = false → A1 j = false ∧ A2 j = false)
    (hg : ∀ v σ H Q, tGa K A1 (fun e d => bind1 e tg d) v σ H Q → gt v σ H Q) (hb : ∀ D σ H, tS xc K W A2 f D σ H → tb D σ H)
    (h : PostS xc K W g O0 e σ H A D (lopL src (fun d m => match bind1 m.e tg d with
        | some e => f ⟨e, m.s⟩
        | none => .bad) ds ⟨e, s⟩)) :
    ∃ Wt : Nat → Nat → L2.St → Hp → Prop, (∃ m, Wt 0 m σ H) ∧ ∀ i m σ H, Wt i m σ H →
      (J.stop i H ∧ D.nx σ H) ∨ (J.go i H ∧ ∃ N : L2.St → Hp → Prop, (∀ σ' H', N σ' H' → ∃ m', m' < m ∧ Wt (i + 1) m' σ' H') ∧ ∀ x H', J.yld i H x H' → gt x σ H' fun σ2 H2 => tb { D with nx := N, ct := N, bk := D.nx } σ2 H2) := by
  let bd : PyData → M → Res Flow := fun d m => match bind1 m.e tg d with
        | some e => f ⟨e, m.s⟩
        | none => .bad
  obtain ⟨P, hI, hP⟩ := src_now (g := g) (A := A) r
  refine ⟨fun i n σ' H' => i + n = ds.length ∧ ∃ m, StS K g O0 e σ H A m σ' H' ∧ PostS xc K W g O0 m.e σ' H' A D (lopL src bd (ds.drop i) m), ⟨ds.length, by omega, ⟨e, s⟩, StS.refl G, by rw [List.drop_zero]; exact h⟩, ?_⟩
  rintro i n σ' H' ⟨hi, m, t, h⟩
  by_cases z : i < ds.length
  rotate_left
  · have : i = ds.length := by omega
    subst this
    rw [List.drop_length] at h
    unfold lopL at h
    by_cases hs : srcOk m src
    · rw [if_pos hs] at h
      exact .inl ⟨hI.stop _ _ (hP m σ' H' t G.dk0 hA hs), h σ' H' (StS.refl (s := m.s) (G.ss t))⟩
    · rw [if_neg hs] at h; exact h.elim
  · have hd : ds.drop i = ds[i] :: ds.drop (i + 1) := List.drop_eq_getElem_cons z
    rw [hd] at h
    unfold lopL at h
    by_cases hs : srcOk m src
    · rw [if_pos hs] at h
      have Pn := hP m σ' H' t G.dk0 hA hs
      have G1 := G.ss t
      refine .inr ⟨hI.go _ _ _ Pn z, fun σ2 H2 => (i + 1) + (n - 1) = ds.length ∧ ∃ m, StS K g O0 e σ H A m σ2 H2 ∧ PostS xc K W g O0 m.e σ2 H2 A D (lopL src bd (ds.drop (i + 1)) m), fun σ2 H2 hN => ⟨n - 1, by omega, hN⟩, fun x H2 hy => hg _ _ _ _ ?_⟩
      obtain ⟨k, d, hd1, hs1⟩ := hI.yld _ _ _ _ _ Pn z hy
      obtain rfl : ds[i] = d := by rw [List.getElem?_eq_getElem z] at hd1; exact Option.some.inj hd1
      -- the heap with the item
      have st2 : Stp K g O0 m.e σ' H' [] ⟨m.e, m.s⟩ H2 := G1.pure k nilF
      have G2 : Good K g O0 m.e m.s σ' H2 := G1.step0 st2
      have h2 := PostS.stp G1 st2 h
      cases hbd : bind1 m.e tg ds[i] with
      | none =>
        have hbd' : bd ds[i] m = .bad := by show (match bind1 m.e tg ds[i] with | some e => f ⟨e, m.s⟩ | none => .bad) = _; rw [hbd]
        simp only [hbd'] at h2
        exact h2.elim
      | some e1 =>
        have hbd' : bd ds[i] m = f ⟨e1, m.s⟩ := by show (match bind1 m.e tg ds[i] with | some e => f ⟨e, m.s⟩ | none => .bad) = _; rw [hbd]
        refine ⟨g, O0, m.e, m.s, ds[i], e1, G2, hs1, hbd, fun σ3 r3 o3 f3 => hb _ _ _ ?_⟩
        have t3 : StS K g O0 m.e σ' H2 A ⟨e1, m.s⟩ σ3 H2 := ⟨Keep.refl, fun a z => .inl (o3 a z), r3, G2.dk, fun j z => f3 j (h1 j z).1⟩
        have t03 : StS K g O0 e σ H A ⟨e1, m.s⟩ σ3 H2 := (t.trans (st2.ss G1)).trans t3
        have h3 := PostS.step t3 h2
        refine tS.mono (A := A) (tS.intro (G2.ss t3) ?_) fun j z => (h1 j z).2
        rw [hbd'] at h3
        show PostS xc K W g O0 e1 σ3 H2 A _ (f ⟨e1, m.s⟩)
        cases hf : f ⟨e1, m.s⟩ with
        | bad => simp only [hf] at h3; exact h3
        | rz c x m1 => simp only [hf] at h3; exact h3
        | ok fl m1 =>
          cases fl with
          | nx => simp only [hf] at h3; exact fun σ4 H4 t4 => ⟨by omega, m1, t03.trans t4, PostS.step t4 h3⟩
          | ct => simp only [hf] at h3; exact fun σ4 H4 t4 => ⟨by omega, m1, t03.trans t4, PostS.step t4 h3⟩
          | brk => simp only [hf] at h3; exact h3
          | rt r => simp only [hf] at h3; exact h3
    · rw [if_neg hs] at h; exact h.elim
/-- the turns of a while loop -/
theorem while_ok {tc : TT} {tb : TS} {c : M → Res Bool} {f : M → Res Flow} {n : Nat} (G : Good K g O0 e s σ H) (hc : ∀ σ H Q, tT xc K W c σ H Q → tc σ H Q) (hb : ∀ D σ H, tS xc K W A f D σ H → tb D σ H)
    (h : PostS xc K W g O0 e σ H A D (whL c f n ⟨e, s⟩)) : tWhile tc tb D σ H := by
  refine ⟨fun n σ' H' => ∃ m, StS K g O0 e σ H A m σ' H' ∧ PostS xc K W g O0 m.e σ' H' A D (whL c f n m), ⟨n, ⟨e, s⟩, StS.refl G, h⟩, ?_⟩
  rintro n σ' H' ⟨m, t, h⟩
  cases n with
  | zero => exact h.elim
  | succ n =>
    have G1 := G.ss t
    refine hc _ _ _ ⟨g, O0, m.e, m.s, G1, ?_⟩
    unfold whL at h
    show PostT xc K W g O0 m.e σ' H' _ (c m)
    cases hf : c m with
    | bad => simp only [hf] at h; exact h
    | rz c x m1 => simp only [hf] at h; exact fun cls dd H' t x => h cls dd σ' H' (t.ss G1) x
    | ok b m1 =>
      intro H1 t1
      have t1' := t1.ss (A := A) G1
      have G2 := G1.ss t1'
      cases b with
      | false =>
        simp only [hf] at h
        rw [if_neg (by simp)]
        exact h σ' H1 t1'
      | true =>
        simp only [hf] at h
        rw [if_pos rfl]
        have h2 := PostS.step t1' h
        refine ⟨fun σ2 H2 => ∃ m, StS K g O0 e σ H A m σ2 H2 ∧ PostS xc K W g O0 m.e σ2 H2 A D (whL c f n m), fun σ2 H2 hN => ⟨n, by omega, hN⟩, hb _ _ _ (tS.intro G2 ?_)⟩
        show PostS xc K W g O0 m1.e σ' H1 A _ (f m1)
        have t01 := t.trans t1'
        cases hg : f m1 with
        | bad => simp only [hg] at h2; exact h2
        | rz c x m2 => simp only [hg] at h2; exact h2
        | ok fl m2 =>
          cases fl with
          | nx => simp only [hg] at h2; exact fun σ4 H4 t4 => ⟨m2, t01.trans t4, PostS.step t4 h2⟩
          | ct => simp only [hg] at h2; exact fun σ4 H4 t4 => ⟨m2, t01.trans t4, PostS.step t4 h2⟩
          | brk => simp only [hg] at h2; exact h2
          | rt r => simp only [hg] at h2; exact h2
end
section
variable {X : Cx} {xc : XC} {W : WX} {cl : Nat → List Arg → DS → FRes} {body : List Stmt} {tg iter c : Expr} {t : Tg} {it : It} {tc : T} {ib : Ss} {pos : Pos}
theorem ds_for (o : Ok X) (hp : PassesOwn (model X.prog X.w) X.A X.env X.xe) (hi : DI X xc W cl tg iter it) (ht : DG X tg t) (hb : DSs X xc W cl body ib) (hs : ∀ x, foldedSetIterable iter X.env x = pure x := by intro _; rfl) :
    DS' X xc W cl (.For tg iter body [] pos) (.lop t it ib) := PSimp (ps_for hp o.calm hi ht hb hs) fun D σ H h =>
  iter_ok (k := fun p m1 => if srcFree (fun j => asgT t j || asgSs ib j) p.2 = true then lopL p.2 (fun d m => match bind1 m.e t d with
        | some e => exs cl ib ⟨e, m.s⟩
        | none => .bad) p.1 m1 else .bad) (A := asgS (.lop t it ib)) (by
      obtain ⟨g, O0, e, s, G, h⟩ := h
      refine ⟨g, O0, e, s, G, ?_⟩
      have h : PostS xc X.K W g O0 e σ H (asgS (.lop t it ib)) D (match evI cl it ⟨e, s⟩ with
        | .ok (ds, src) m1 => if srcFree (fun j => asgT t j || asgSs ib j) src = true then lopL src (fun d m => match bind1 m.e t d with
            | some e => exs cl ib ⟨e, m.s⟩
            | none => .bad) ds m1 else .bad
        | .rz c f m1 => .rz c f m1
        | .bad => .bad) := h
      cases hf : evI cl it ⟨e, s⟩ with
      | bad => simp only [hf] at h ⊢; exact h
      | rz c f m1 => simp only [hf] at h ⊢; exact h
      | ok p m1 => obtain ⟨ds, src⟩ := p; simp only [hf] at h ⊢; exact h) fun g O0 e s ds src J H1 G r h => by
    by_cases hA : srcFree (fun j => asgT t j || asgSs ib j) src = true
    · simp only [hA, if_true] at h
      exact loop_ok (A := asgS (.lop t it ib)) (A1 := asgT t) (A2 := asgSs ib) (f := fun m => exs cl ib m) (tg := t) (xc := xc) (W := W) G r hA (fun j z => by simpa [asgS] using z) (fun v σ H Q z => z) (fun D σ H z => z) h
    · simp only [hA] at h
      exact h.elim
theorem ds_while (hp : PassesOwn (model X.prog X.w) X.A X.env X.xe) (hc : DT X xc W cl c tc) (hb : DSs X xc W cl body ib) : DS' X xc W cl (.While c body [] pos) (.wh tc ib) := PSimp (ps_while hp hc hb) fun D σ H h => by
  obtain ⟨g, O0, e, s, G, h⟩ := h
  exact while_ok (A := asgS (.wh tc ib)) (c := fun m => evT cl tc m) (f := fun m => exs cl ib m) (n := 100000) G (fun _ _ _ z => z) (fun _ _ _ z => z) h
end
end PV
namespace PV
open PySem PySem.Spec L2
section
variable {xc : XC} {K : PySem.W.Frag} {cl : Nat → List Arg → DS → FRes} {g : Gd} {O : AP} {s : DS} {H : Hp}
noncomputable def e0 (ns : Nat) (as : List Arg) : Env := as.map slotA ++ List.replicate ns .un
theorem e0_get {ns : Nat} {as : List Arg} {i : Nat} {sl : Slot} (h : (e0 ns as)[i]? = some sl) : (∃ a, as[i]? = some a ∧ sl = slotA a) ∨ sl = .un := by
  unfold e0 at h
  by_cases z : i < as.length
  · rw [List.getElem?_append_left (by simpa using z), List.getElem?_map] at h
    cases hq : as[i]? with
    | none => rw [hq] at h; cases h
    | some a => rw [hq] at h; cases h; exact .inl ⟨a, rfl, rfl⟩
  · rw [List.getElem?_append_right (by simpa using z), List.getElem?_replicate] at h
    split at h
    · cases h; exact .inr rfl
    · cases h
theorem e0_own {ns : Nat} {as : List Arg} {i : Nat} : isOwn (e0 ns as)[i]? = false := by
  cases h : (e0 ns as)[i]? with
  | none => rfl
  | some sl =>
    rcases e0_get h with ⟨a, _, rfl⟩ | rfl
    · cases a <;> rfl
    · rfl
theorem e0_no {ns : Nat} {as : List Arg} {σ : L2.St} {a : Addr} : ¬ own (e0 ns as) σ a := fun ⟨i, h, _⟩ => by rw [e0_own] at h; cases h
theorem good0 {N : List Str} {vs : List V} {as : List Arg} (h0 : GOb K g) (h1 : ∀ a, DkS g a → O a) (h2 : ∀ a, O a → H a ≠ none) (dk : DkRep g s H) (hp : Paired (ArgR K g O H) vs as) (hl : vs.length ≤ N.length) : Good K g O (e0 (N.length - as.length) as) s (start N vs) H := by
  refine ⟨h1, h2, ⟨?_, fun i sl hi => ?_, fun i j a z _ _ _ => ?_⟩, dk, h0⟩
  · unfold e0 L2.start
    simp [← Paired.len hp]
  · rcases e0_get hi with ⟨a, ha, rfl⟩ | rfl
    · obtain ⟨v, hv, r⟩ := Paired.get hp ha
      have hs : (start N vs)[i]? = some (some v) := by
        unfold L2.start
        rw [List.getElem?_append_left (by simpa using (List.getElem?_eq_some_iff.mp hv).1), List.getElem?_map, hv]
        rfl
      cases r with
      | sh h => exact ⟨v, hs, h.weak fun a z => z.elim id fun z => (e0_no z).elim⟩
      | dk => exact hs
      | nil => trivial
    · trivial
  · rw [e0_own] at z; cases z
theorem runB_len {fd : FD} {as : List Arg} {s : DS} (h : runB cl fd as s ≠ .bad) : as.length = fd.np := by
  unfold runB at h
  by_cases z : as.length = fd.np
  · exact z
  · rw [if_neg z] at h; exact absurd rfl h
theorem body_ok {N : List Str} {vs : List V} {np : Nat} {ib : Ss} {Q : VK} {E : XK} (hn : np ≤ N.length) (h : spF xc K np (runB cl ⟨N.length, np, ib⟩) vs H Q E) :
    tS xc K (fun c d _ H => E c d H) (asgSs ib) (fun m => exs cl ib m) { nx := fun _ H' => Q .non H', rt := Q } (start N vs) H := by
  obtain ⟨hl, g, O, as, s, h0, h1, h2, dk, hp, h⟩ := h
  have G := good0 (N := N) h0 h1 h2 dk hp (by omega)
  have la : as.length = np := by rw [← Paired.len hp]; exact hl
  have kp : ∀ {H'}, Keep (Mu g (e0 (N.length - as.length) as) (start N vs)) H H' → Keep (DkS g) H H' := fun k => k.mono fun a z => z.elim (fun z => (e0_no z).elim) id
  have nw : ∀ {m : M} {σ' a}, (own m.e σ' a → own (e0 (N.length - as.length) as) (start N vs) a ∨ H a = none) → own m.e σ' a → H a = none := fun f z => (f z).elim (fun z => (e0_no z).elim) id
  unfold runB at h
  simp only at h
  rw [if_pos la] at h
  rw [show as.map slotA ++ List.replicate (N.length - np) .un = e0 (N.length - as.length) as by rw [la]; rfl] at h
  refine tS.intro G ?_
  cases hf : exs cl ib ⟨e0 (N.length - as.length) as, s⟩ with
  | bad => rw [hf] at h; exact h
  | rz c f m =>
    rw [hf] at h
    exact fun cls dd σ' H' t x => h cls dd H' (kp t.keep) (x.weak fun a z => .inl z) t.dk
  | ok fl m =>
    rw [hf] at h
    cases fl with
    | brk => exact h.elim
    | ct => exact h.elim
    | nx => exact fun σ' H' t => h .non H' [] (kp t.keep) nilF (RO.sh (sh_none.mpr rfl)) t.dk
    | rt r =>
      intro v σ' H' F t
      simp only at h
      have sub : ∀ a, plus O F a → Ow (plus O F) m.e σ' a := fun a z => .inl z
      cases r with
      | dk => exact h.elim
      | v d => exact h v H' F (kp t.keep) t.new (RO.weak sub (show RO K _ H' v F (.v d) from t.rv)) t.dk
      | fl ds => exact h v H' F (kp t.keep) t.new (RO.weak sub (show RO K _ H' v F (.fl ds) from t.rv)) t.dk
      | fd tt kvs => exact h v H' F (kp t.keep) t.new (RO.weak sub (show RO K _ H' v F (.fd tt kvs) from t.rv)) t.dk
      | pl i =>
        obtain ⟨rfl, hi⟩ := t.rv
        unfold finR at h
        simp only at h
        cases hs : m.e[i]? with
        | none => rw [hs] at h; exact h.elim
        | some sl =>
          have q := t.rep.at' i _ hs
          cases sl with
          | un => rw [hs] at h; exact h.elim
          | ex a f => rw [hs] at h; exact h.elim
          | dk => rw [hs] at h; exact h.elim
          | sh d =>
            rw [hs] at h
            obtain ⟨v', e1, e2⟩ := q
            rw [hi] at e1; cases e1
            exact h v H' [] (kp t.keep) nilF (RO.sh (e2.weak fun a z => .inl z)) t.dk
          | ol ds =>
            rw [hs] at h
            obtain ⟨p, xs, e1, e2, e3, e4, e5⟩ := q
            rw [hi] at e1; cases e1
            have op : own m.e σ' p := ⟨i, by rw [hs]; rfl, hi⟩
            refine h _ H' [p] (kp t.keep) (fun z hz => ?_) ⟨p, xs, rfl, rfl, e3, e4, e5.weak fun a z => ?_⟩ t.dk
            · rw [List.mem_singleton.mp hz]; exact ⟨nw (t.own p) op, by rw [e3]; simp⟩
            · rcases z with z | z
              · exact .inl z
              · rw [List.mem_singleton.mp z]; exact .inr op
          | od tt kvs =>
            rw [hs] at h
            obtain ⟨p, o, e1, e2, e3, e5⟩ := q
            rw [hi] at e1; cases e1
            have op : own m.e σ' p := ⟨i, by rw [hs]; rfl, hi⟩
            refine h _ H' [p] (kp t.keep) (fun z hz => ?_) ⟨p, o, rfl, rfl, e3, e5.weak fun a z => ?_⟩ t.dk
            · rw [List.mem_singleton.mp hz]; exact ⟨nw (t.own p) op, by rw [e3]; simp⟩
            · rcases z with z | z
              · exact .inl z
              · rw [List.mem_singleton.mp z]; exact .inr op
end
section
variable {P : Program} {w : World} {K : PySem.W.Frag} {mg : Str → Option Value} {base : Heap} {xc : XC} {cl : Nat → List Arg → DS → FRes}
/-- what a body's walk may use -/
structure Bd (X : Cx) (W : WX) (k : Nat) : Prop where
  ok : Ok X
  room : Room k X.A
  pass : PassesOwn (model X.prog X.w) X.A X.env X.xe
  takes : Takes X W
noncomputable abbrev CxD (P : Program) (w : World) (K : PySem.W.Frag) (mg : Str → Option Value) (base : Heap) (N : List Str) (qual : Str) (st : Stmt) (f : Addr) (cdv : Value) (A : Around) (outer : List PySem.Env) (s : Shared) (H : Hp) (E : XK) : Cx := cxOf (L2.CX P w) P w K mg base N qual (defScope st) f cdv A outer s H E
theorem def_ok {x qual : Str} {st : Stmt} {f : Addr} {fd : FuncData} {N ps : List Str} {k : Nat} {ib : Ss} (F : Fun K x qual st f fd) (S : FnScope N ps (defScope st))
    (hb : ∀ (cdv : Value) (A : Around) (outer : List PySem.Env) (s : Shared) (H : Hp) (E : XK), Bd (CxD P w K mg base N qual st f cdv A outer s H E) (fun c d _ H => E c d H) k → DSs (CxD P w K mg base N qual st f cdv A outer s H E) xc (fun c d _ H => E c d H) cl (defBody st) ib) :
    FnG P w K mg base (L2.CX P w) (k + 1) f fd ps (spF xc K ps.length (runB cl ⟨N.length, ps.length, ib⟩)) := by
  obtain ⟨oc, od, kV, doc, pm, an, cdv, ct, osl, rfl, lk, hcd⟩ := F.ex
  refine FnG.body lk hcd S (fun vs H Q E h => h.1) fun A outer s H vs Q E hg hr hf hsp => ?_
  have un := hr.un
  refine ⟨_, hb cdv A outer s H E ⟨⟨rfl, S.nd, ?_, deeper_gd hg⟩, hr, L2.passes_of rfl, L2.takes_of rfl rfl rfl rfl⟩, body_ok ?_ hsp⟩
  · show (A.deeper _).units + 65 < cLine
    omega
  · have := congrArg List.length S.pre
    rw [List.length_take] at this
    omega
end
end PV
namespace PV
open PySem PySem.Spec L2
section
variable {xc : XC} {K : PySem.W.Frag} {W : WX} {cl : Nat → List Arg → DS → FRes} {g : Gd} {O O0 : AP} {e e' e1 e2 : Env} {s : DS} {σ σ1 σ2 : L2.St} {H H1 H' : Hp} {F : List Addr} {m m1 : M} {vs : List Nat}
theorem wipe_get {j : Nat} : ∀ {vs : List Nat}, (wipe σ vs)[j]? = if j ∈ vs then σ[j]?.map fun _ => none else σ[j]?
  | [] => by simp [wipe]
  | v :: vs => by
    unfold wipe
    by_cases h : v = j
    · subst h
      rw [if_pos List.mem_cons_self, List.getElem?_set, if_pos rfl, wipe_length]
      by_cases z : v < σ.length
      · rw [if_pos z, List.getElem?_eq_getElem z]; rfl
      · rw [if_neg z, List.getElem?_eq_none (by simpa using z)]; rfl
    · rw [List.getElem?_set_ne h, wipe_get (vs := vs)]
      by_cases q : j ∈ vs
      · rw [if_pos q, if_pos (List.mem_cons_of_mem _ q)]
      · rw [if_neg q, if_neg (fun z => (List.mem_cons.mp z).elim (fun z => h z.symm) q)]
theorem clear_len : ∀ {vs : List Nat}, (clear e vs).length = e.length
  | [] => rfl
  | v :: vs => by unfold clear; rw [List.length_set, clear_len]
theorem back_get {j : Nat} : ∀ {vs : List Nat}, (back e e1 vs)[j]? = if j ∈ vs then e[j]?.map fun _ => (e1[j]?).getD .un else e[j]?
  | [] => by simp [back]
  | v :: vs => by
    unfold back
    have hl : ∀ vs : List Nat, (back e e1 vs).length = e.length := fun vs => by
      induction vs with
      | nil => rfl
      | cons v vs ih => unfold back; rw [List.length_set, ih]
    by_cases h : v = j
    · subst h
      rw [if_pos List.mem_cons_self, List.getElem?_set, if_pos rfl, hl]
      by_cases z : v < e.length
      · rw [if_pos z, List.getElem?_eq_getElem z]; rfl
      · rw [if_neg z, List.getElem?_eq_none (l := e) (by simpa using z)]; rfl
    · rw [List.getElem?_set_ne h, back_get (vs := vs)]
      by_cases q : j ∈ vs
      · rw [if_pos q, if_pos (List.mem_cons_of_mem _ q)]
      · rw [if_neg q, if_neg (fun z => (List.mem_cons.mp z).elim (fun z => h z.symm) q)]
theorem back_len : ∀ {vs : List Nat}, (back e e1 vs).length = e.length
  | [] => rfl
  | v :: vs => by unfold back; rw [List.length_set, back_len]
theorem Rep.clear (r : Rep K g O0 e σ H) : ∀ vs : List Nat, Rep K g O0 (PV.clear e vs) (wipe σ vs) H ∧ ∀ a, own (PV.clear e vs) (wipe σ vs) a → own e σ a
  | [] => ⟨r, fun _ z => z⟩
  | v :: vs => by
    obtain ⟨r1, o1⟩ := Rep.clear r vs
    exact ⟨r1.setUn, fun a z => o1 a (own_set rfl z)⟩
/-- the block's own slots as they were -/
theorem Rep.back {O' : AP} (r2 : Rep K g O' e2 (wipe σ vs) H') (r1 : Rep K g O0 e1 σ H1) (k : Keep (Mu g e1 σ) H1 H') (dk : ∀ a, DkS g a → O0 a) (o : ∀ a, own e2 (wipe σ vs) a → own e1 σ a) (hv : vs.all (fun i => !isOwn e1[i]?) = true) (hO : ∀ a, O' a → O0 a ∨ H1 a = none) (hl : e2.length = e1.length) :
    Rep K g O' (PV.back e2 e1 vs) σ H' ∧ ∀ a, own (PV.back e2 e1 vs) σ a → own e2 (wipe σ vs) a := by
  have nv : ∀ j ∈ vs, isOwn e1[j]? = false := fun j hj => by
    have := List.all_eq_true.mp hv j hj
    simpa using this
  have at1 : ∀ {j}, isOwn (PV.back e2 e1 vs)[j]? = true → j ∉ vs ∧ isOwn e2[j]? = true := fun {j} h => by
    rw [back_get] at h
    by_cases q : j ∈ vs
    · rw [if_pos q] at h
      exfalso
      cases hq : e2[j]? with
      | none => rw [hq] at h; simp [isOwn] at h
      | some sl =>
        rw [hq] at h
        have z := nv j q
        cases hq1 : e1[j]? with
        | none => rw [hq1] at h; simp [isOwn] at h
        | some s1 =>
          rw [hq1] at z h
          have h : isOwn (some s1) = true := h
          rw [z] at h; cases h
    · rw [if_neg q] at h; exact ⟨q, h⟩
  have sg : ∀ {j}, j ∉ vs → (wipe σ vs)[j]? = σ[j]? := fun {j} q => by rw [wipe_get, if_neg q]
  have oo : ∀ a, own (PV.back e2 e1 vs) σ a → own e2 (wipe σ vs) a := fun a ⟨j, h1, h2⟩ => by
    obtain ⟨q, h⟩ := at1 h1
    exact ⟨j, h, by rw [sg q]; exact h2⟩
  refine ⟨⟨by rw [back_len, r2.len, wipe_length], fun j sl h => ?_, fun i j a h1 h2 h3 h4 => ?_⟩, oo⟩
  · rw [back_get] at h
    by_cases q : j ∈ vs
    · rw [if_pos q] at h
      cases hq : e2[j]? with
      | none => rw [hq] at h; cases h
      | some s2 =>
        have lt : j < e1.length := by rw [← hl]; exact (List.getElem?_eq_some_iff.mp hq).1
        have h1 := List.getElem?_eq_getElem lt
        have z := nv j q
        rw [h1] at z
        rw [hq, h1] at h
        obtain rfl : e1[j] = sl := by simpa using h
        have q1 := r1.at' j _ h1
        generalize e1[j] = s1 at q1 z
        cases s1 with
        | un => trivial
        | ex x f =>
          refine ⟨q1.1, fun b n' d e => ?_⟩
          obtain ⟨v, a1, a2⟩ := q1.2 b n' d e
          refine ⟨v, k.stay _ _ a1 (.inr rfl), a2.go k (fun a z => z.elim .inr fun z => .inl (dk a z)) fun a z => ?_⟩
          rcases z with z | z
          · exact (hO a z).imp .inl id
          · exact .inl (.inr (o a (oo a z)))
        | dk => exact q1
        | ol ds => cases z
        | od t kvs => cases z
        | sh d =>
          obtain ⟨v, a1, a2⟩ := q1
          refine ⟨v, a1, a2.go k (fun a z => z.elim .inr fun z => .inl (dk a z)) fun a z => ?_⟩
          rcases z with z | z
          · exact (hO a z).imp .inl id
          · exact .inl (.inr (o a (oo a z)))
    · rw [if_neg q] at h
      have q2 := r2.at' j sl h
      have wk : ∀ a, Ow O' (PV.back e2 e1 vs) σ a → Ow O' e2 (wipe σ vs) a := fun a z => z.imp id (oo a)
      refine SlotR.weak (O := Ow O' e2 (wipe σ vs)) ?_ wk fun _ z => .inl z
      cases sl with
      | un => trivial
      | ex x f => exact ⟨by rw [← sg q]; exact q2.1, q2.2⟩
      | sh d => obtain ⟨v, a1, a2⟩ := q2; exact ⟨v, by rw [← sg q]; exact a1, a2⟩
      | ol ds => obtain ⟨p, xs, a1, a2⟩ := q2; exact ⟨p, xs, by rw [← sg q]; exact a1, a2⟩
      | od t kvs => obtain ⟨p, xs, a1, a2⟩ := q2; exact ⟨p, xs, by rw [← sg q]; exact a1, a2⟩
      | dk => show σ[j]? = _; rw [← sg q]; exact q2
  · obtain ⟨q1, z1⟩ := at1 h1
    obtain ⟨q2, z2⟩ := at1 h2
    exact r2.inj i j a z1 z2 (by rw [sg q1]; exact h3) (by rw [sg q2]; exact h4)
mutual
noncomputable def tgIn (own : List Nat) : Tg → Bool
  | .nm i => own.contains i
  | .tp ts => tgsIn own ts
noncomputable def tgsIn (own : List Nat) : Tgs → Bool
  | .nil => true
  | .cons t ts => tgIn own t && tgsIn own ts
end
mutual
theorem tgIn_mem {own : List Nat} {j : Nat} : ∀ {t : Tg}, tgIn own t = true → asgT t j = true → j ∈ own
  | .nm i, h, h2 => by
    have : i = j := by simpa [asgT] using h2
    subst this
    simpa [tgIn] using h
  | .tp ts, h, h2 => tgsIn_mem (by simpa [tgIn] using h) (by simpa [asgT] using h2)
theorem tgsIn_mem {own : List Nat} {j : Nat} : ∀ {t : Tgs}, tgsIn own t = true → asgTs t j = true → j ∈ own
  | .nil, _, h2 => by simp [asgTs] at h2
  | .cons t ts, h, h2 => by
    have h : tgIn own t = true ∧ tgsIn own ts = true := by simpa [tgsIn] using h
    have h2 : asgT t j = true ∨ asgTs ts j = true := by simpa [asgTs] using h2
    exact h2.elim (tgIn_mem h.1) (tgsIn_mem h.2)
end
mutual
theorem bind1_len : ∀ {t : Tg} {e : Env} {d : PyData} {e' : Env}, bind1 e t d = some e' → e'.length = e.length
  | .nm i, e, d, e', h => by
    obtain rfl : e.set i (.sh d) = e' := by simpa [bind1] using h
    simp
  | .tp ts, e, d, e', h => by
    cases d with
    | tuple ds => exact bindL_len' (show bindL e ts ds = some e' from h)
    | none => simp [bind1] at h
    | bool b => simp [bind1] at h
    | int b => simp [bind1] at h
    | str b => simp [bind1] at h
    | list ds => exact bindL_len' (show bindL e ts ds = some e' from h)
    | dict b => simp [bind1] at h
theorem bindL_len' : ∀ {t : Tgs} {e : Env} {d : List PyData} {e' : Env}, bindL e t d = some e' → e'.length = e.length
  | .nil, e, [], e', h => by
    obtain rfl : e = e' := by simpa [bindL] using h
    rfl
  | .nil, e, d :: ds, e', h => by simp [bindL] at h
  | .cons t ts, e, [], e', h => by simp [bindL] at h
  | .cons t ts, e, d :: ds, e', h => by
    simp only [bindL] at h
    cases hb : bind1 e t d with
    | none => rw [hb] at h; cases h
    | some e1 => rw [hb] at h; rw [bindL_len' h, bind1_len hb]
end
theorem wipe_eq (hl : σ2.length = σ.length) (h : ∀ j, j ∉ vs → σ2[j]? = (wipe σ vs)[j]?) : wipe σ2 vs = wipe σ vs := by
  refine List.ext_getElem? fun j => ?_
  rw [wipe_get, wipe_get]
  by_cases q : j ∈ vs
  · rw [if_pos q, if_pos q]
    by_cases z : j < σ.length
    · rw [List.getElem?_eq_getElem z, List.getElem?_eq_getElem (by omega)]; rfl
    · rw [List.getElem?_eq_none (by omega), List.getElem?_eq_none (by omega)]
  · rw [if_neg q, if_neg q, h j q, wipe_get, if_neg q]
/-- where a comprehension stands -/
structure LcI (K : PySem.W.Frag) (g : Gd) (O0 : AP) (e1 : Env) (σ : L2.St) (H1 : Hp) (D : Addr) (vs : List Nat) (m : M) (H : Hp) : Prop where
  keep : Keep (Mu g e1 σ) H1 H
  own : ∀ a, own m.e (wipe σ vs) a → PV.own e1 σ a
  good : Good K g (plus O0 [D]) m.e m.s (wipe σ vs) H
theorem LcI.ow {D : Addr} (t : LcI K g O0 e1 σ H1 D vs m H) (nD : H1 D = none) : ∀ a, Ow (plus O0 [D]) m.e (wipe σ vs) a → Ow O0 e1 σ a ∨ H1 a = none := fun a z => by
  rcases z with (z | z) | z
  · exact .inl (.inl z)
  · rw [List.mem_singleton.mp z]; exact .inr nD
  · exact .inl (.inr (t.own a z))
theorem lc_src {J : L2.It} {ds : List PyData} {src : Src} (r : ItR K σ (Ow O0 e1 σ) H1 J ds src) (dk : ∀ a, DkS g a → O0 a) : ∃ P, ItOk K J ds P ∧ ∀ D m H, H1 D = none → LcI K g O0 e1 σ H1 D vs m H → srcOk m src → P (Ow (plus O0 [D]) m.e (wipe σ vs)) H := by
  cases src with
  | none =>
    obtain ⟨P, h1, h2, h3⟩ := r
    exact ⟨P, h1, fun D m H nD t _ => h3 (Mu g e1 σ) _ _ H1 H h2 t.keep (fun a z => z.elim .inr fun z => .inl (dk a z)) (t.ow nD)⟩
  | some q =>
    obtain ⟨i, d0⟩ := q
    obtain ⟨p, h1, h2⟩ := r
    refine ⟨_, h2, fun D m H nD t hs => ?_⟩
    obtain ⟨q, xs, a1, _, a3, a4, a5⟩ := t.good.rep.at' i _ (show m.e[i]? = some (.ol d0) from hs)
    have := (wipe_some a1).1
    rw [h1] at this; cases this
    exact ⟨p, xs, rfl, a3, a4, a5⟩
theorem upd_id {H : Hp} {a : Addr} {o : HO} (h : H a = some o) : upd H a o = H := by
  funext b
  unfold upd
  split
  · rename_i q; rw [q, h]
  · rfl
/-- the turns of a list comprehension -/
theorem lc_ok {J : L2.It} {tg : Tg} {gt : TG} {tt : TT} {te : TE} {fc : M → Res Bool} {fe : M → Res R} {ds : List PyData} {src : Src} {Q : VK} (G : Good K g O0 e1 s σ H1) (r : ItR K σ (Ow O0 e1 σ) H1 J ds src) (hn : vs.all (fun i => !isOwn e1[i]?) = true) (hl : ds.length ≤ LIM) (ht : tgIn vs tg = true)
    (hg : ∀ v σ H Q, tGa K (asgT tg) (fun e d => bind1 e tg d) v σ H Q → gt v σ H Q) (hc : ∀ σ H Q, tT xc K (fun _ _ _ _ => False) fc σ H Q → tt σ H Q) (he : ∀ σ H Q, tE xc K (fun _ _ _ _ => False) fe σ H Q → te σ H Q)
    (h : PostE xc K W g O0 e1 σ H1 Q (match lcL src vs (fun d m => match bind1 m.e tg d with
            | some e => fc ⟨e, m.s⟩
            | none => .bad) fe ds [] ⟨clear e1 vs, s⟩ with
        | .ok acc m2 => .ok (.fl acc) ⟨back m2.e e1 vs, m2.s⟩
        | _ => .bad)) (D : Addr) (nD : H1 D = none) :
    ∃ Wt : Nat → Nat → Hp → Prop, (∃ m, Wt 0 m (upd H1 D (.lst []))) ∧ ∀ i m H, Wt i m H →
      (J.stop i H ∧ Q (.ref D) H) ∨ (J.go i H ∧ ∃ Nx : Hp → Prop, (∀ H', Nx H' → ∃ m', m' < m ∧ Wt (i + 1) m' H') ∧ ∀ x H', J.yld i H x H' → gt x (wipe σ vs) H' fun σ2 H2 => wipe σ2 vs = wipe σ vs ∧ tt σ2 H2 fun b H3 =>
        if b = true then te σ2 H3 fun y H4 => ∃ acc, H4 D = some (.lst acc) ∧ acc.length < sizeLine ∧ Nx (upd H4 D (.lst (acc ++ [y]))) else Nx H3) := by
  let bd : PyData → M → Res Bool := fun d m => match bind1 m.e tg d with
            | some e => fc ⟨e, m.s⟩
            | none => .bad
  obtain ⟨P, hI, hP⟩ := lc_src (vs := vs) r G.dk0
  have D0 : ¬ O0 D := fun z => G.oe D z nD
  have Dk : ¬ DkS g D := fun z => D0 (G.dk0 D z)
  -- the invariant
  let Inv' : Nat → M → Hp → Prop := fun i m H => LcI K g O0 e1 σ H1 D vs m H ∧ m.e.length = e1.length ∧ (∃ xs acc, H D = some (.lst xs) ∧ xs.length ≤ i ∧ ShA K (Ow (plus O0 [D]) m.e (wipe σ vs)) H xs acc ∧
    PostE xc K W g O0 e1 σ H1 Q (match lcL src vs bd fe (ds.drop i) acc m with
        | .ok acc m2 => .ok (.fl acc) ⟨back m2.e e1 vs, m2.s⟩
        | _ => .bad))
  refine ⟨fun i n H => i + n = ds.length ∧ ∃ m, Inv' i m H, ⟨ds.length, by omega, ⟨clear e1 vs, s⟩, ⟨?_, ?_, ?_⟩, clear_len, [], [], upd_same, Nat.le_refl _, .nil, by rw [List.drop_zero]; exact h⟩, ?_⟩
  · exact Keep.new nD
  · exact (G.rep.clear vs).2
  · have k0 : Keep (fun _ => False) H1 (upd H1 D (.lst [])) := Keep.new nD
    refine ⟨fun a z => .inl (G.dk0 a z), fun a z => ?_, (G.rep.clear vs).1.go k0 (fun _ z => z.elim) fun a z => z.imp id fun z => by rw [List.mem_singleton.mp z]; exact nD, G.dk.keep k0 (fun _ z => z.elim), G.ob⟩
    rcases z with z | z
    · exact fun q => G.oe a z (k0.old a q)
    · rw [List.mem_singleton.mp z, upd_same]; simp
  rintro i n H ⟨hi, m, t, ml, xs, acc, hD, hx, hs, h⟩
  by_cases z : i < ds.length
  rotate_left
  · have : i = ds.length := by omega
    subst this
    rw [List.drop_length] at h
    unfold lcL at h
    by_cases hso : srcOk m src
    · rw [if_pos hso] at h
      refine .inl ⟨hI.stop _ _ (hP D m H nD t hso), ?_⟩
      obtain ⟨rb, ob⟩ := t.good.rep.back G.rep t.keep G.dk0 t.own hn (fun a z => z.imp id fun z => by rw [List.mem_singleton.mp z]; exact nD) ml
      have os : ∀ a, own (back m.e e1 vs) σ a → own e1 σ a := fun a z => t.own a (ob a z)
      refine h (.ref D) H [D] ⟨t.keep, os, fun p hp => ?_, rb, t.good.dk⟩ ⟨D, xs, rfl, rfl, hD, ?_, ?_⟩
      · rw [List.mem_singleton.mp hp]
        refine ⟨nD, D0, fun z => ?_, by rw [hD]; simp⟩
        obtain ⟨_, o, ho, _⟩ := G.rep.owned (os D z)
        rw [nD] at ho; cases ho
      · rw [← LIM_eq]; omega
      · exact ShA.weak (fun a z => z.imp id (ob a)) hs
    · rw [if_neg hso] at h; exact h.elim
  · have hd : ds.drop i = ds[i] :: ds.drop (i + 1) := List.drop_eq_getElem_cons z
    rw [hd] at h
    unfold lcL at h
    by_cases hso : srcOk m src
    rotate_left
    · rw [if_neg hso] at h; exact h.elim
    · rw [if_pos hso] at h
      have Pn := hP D m H nD t hso
      refine .inr ⟨hI.go _ _ _ Pn z, fun H2 => (i + 1) + (n - 1) = ds.length ∧ ∃ m, Inv' (i + 1) m H2, fun H2 hN => ⟨n - 1, by omega, hN⟩, fun x H2 hy => hg _ _ _ _ ?_⟩
      obtain ⟨k, d, hd1, hs1⟩ := hI.yld _ _ _ _ _ Pn z hy
      obtain rfl : ds[i] = d := by rw [List.getElem?_eq_getElem z] at hd1; exact Option.some.inj hd1
      have G1 := t.good
      have st2 : Stp K g (plus O0 [D]) m.e (wipe σ vs) H [] ⟨m.e, m.s⟩ H2 := G1.pure k nilF
      have G2 : Good K g (plus O0 [D]) m.e m.s (wipe σ vs) H2 := G1.step0 st2
      cases hbd : bind1 m.e tg ds[i] with
      | none =>
        have hbd' : bd ds[i] m = .bad := by show (match bind1 m.e tg ds[i] with | some e => fc ⟨e, m.s⟩ | none => .bad) = _; rw [hbd]
        simp only [hbd'] at h
        exact h.elim
      | some ea =>
        have hbd' : bd ds[i] m = fc ⟨ea, m.s⟩ := by show (match bind1 m.e tg ds[i] with | some e => fc ⟨e, m.s⟩ | none => .bad) = _; rw [hbd]
        rw [hbd'] at h
        refine ⟨g, plus O0 [D], m.e, m.s, ds[i], ea, G2, hs1, hbd, fun σ3 r3 o3 f3 => ?_⟩
        have hl3 : σ3.length = σ.length := by rw [← r3.len, bind1_len hbd, G1.rep.len, wipe_length]
        have hw : wipe σ3 vs = wipe σ vs := wipe_eq hl3 fun j hj => f3 j (by
          cases q : asgT tg j with
          | false => rfl
          | true => exact absurd (tgIn_mem ht q) hj)
        have G3 : Good K g (plus O0 [D]) ea m.s σ3 H2 := ⟨G2.dk0, G2.oe, r3, G2.dk, G2.ob⟩
        have k12 : Keep (Mu g e1 σ) H1 H2 := t.keep.trans k fun _ z => z.elim
        refine ⟨hw, hc _ _ _ ⟨g, plus O0 [D], ea, m.s, G3, ?_⟩⟩
        -- what stands at D goes on standing
        have stayD : ∀ {F m4 H4}, Stp K g (plus O0 [D]) ea σ3 H2 F m4 H4 → H4 D = some (.lst xs) := fun {F m4 H4} t4 => t4.keep.stay D _ (k.stay D _ hD (.inl fun z => z)) (.inl fun z => by
          rcases z with z | z
          · exact (G3.rep.owned z).1 (.inr (by simp))
          · exact Dk z)
        have keepA : ∀ {F m4 H4}, Stp K g (plus O0 [D]) ea σ3 H2 F m4 H4 → ShA K (Ow (plus O0 [D]) m4.e σ3) H4 xs acc := fun {F m4 H4} t4 => ShA.go (ShA.go hs k (fun _ z => z.elim) fun a z => .inl z) (M := Mu g ea σ3) t4.keep (fun a z => z.elim (fun z => .inr (o3 a z)) fun z => .inl (.inl (G.dk0 a z))) fun a z => .inl (z.imp id fun z => o3 a (t4.own a z))
        -- at the end of the turn
        have done : ∀ {F m4 H4}, Stp K g (plus O0 [D]) ea σ3 H2 F m4 H4 → ∀ {e5}, Rep K g (plus O0 [D]) e5 σ3 H4 → (∀ a, own e5 σ3 a → own m4.e σ3 a) → e5.length = e1.length → ∀ ys acc', ys.length ≤ i + 1 → ShA K (Ow (plus O0 [D]) e5 σ3) H4 ys acc' →
            PostE xc K W g O0 e1 σ H1 Q (match lcL src vs bd fe (ds.drop (i + 1)) acc' ⟨clear e5 vs, m4.s⟩ with
              | .ok acc m2 => .ok (.fl acc) ⟨back m2.e e1 vs, m2.s⟩
              | _ => .bad) → Inv' (i + 1) ⟨clear e5 vs, m4.s⟩ (upd H4 D (.lst ys)) := fun {F m4 H4} t4 {e5} r5 o5 l5 ys acc' hy ha h => by
          have hD4 := stayD t4
          have kw : Keep (fun a => a = D) H4 (upd H4 D (.lst ys)) := Keep.write hD4 rfl rfl
          have k14 : Keep (Mu g e1 σ) H1 H4 := k12.trans t4.keep fun a z => .inl (z.imp (fun z => t.own a (o3 a z)) id)
          have r6 : Rep K g (plus O0 [D]) (clear e5 vs) (wipe σ vs) H4 := by rw [← hw]; exact (r5.clear vs).1
          have o6 : ∀ a, own (clear e5 vs) (wipe σ vs) a → own e5 σ3 a := by rw [← hw]; exact (r5.clear vs).2
          refine ⟨⟨k14.trans kw fun a z => .inr (by rw [z]; exact nD), fun a z => t.own a (o3 a (t4.own a (o5 a (o6 a z)))), fun a z => .inl (G.dk0 a z), fun a z q => ?_, r6.go kw (fun a z => .inr (by simp [z])) fun a z => .inl z, t4.dk.keep kw (fun a z q => Dk (by rw [← z]; exact q)), G.ob⟩, by rw [clear_len]; exact l5, ys, acc', upd_same, hy, ?_, h⟩
          · exact G2.oe a z (t4.keep.old a (kw.old a q))
          · exact ShA.go (ShA.weak (fun a z => z.imp id (o6 a)) ha) (M := fun a => a = D) kw (fun a z => .inl (.inr (by simp [z]))) fun a z => .inl z
        show PostT xc K _ g (plus O0 [D]) ea σ3 H2 _ (fc ⟨ea, m.s⟩)
        cases hf : fc ⟨ea, m.s⟩ with
        | bad => simp only [hf] at h; exact h.elim
        | rz c x m4 => simp only [hf] at h; exact h.elim
        | ok b m4 =>
          intro H4 t4
          have e4l : m4.e.length = e1.length := by rw [t4.rep.len, ← r3.len, bind1_len hbd, ml]
          cases b with
          | false =>
            simp only [hf] at h
            rw [if_neg (by simp)]
            refine ⟨by omega, ⟨clear m4.e vs, m4.s⟩, ?_⟩
            have hD4 := stayD t4
            have := done t4 (e5 := m4.e) t4.repO (fun _ z => z) e4l xs acc (by omega) (keepA t4) h
            rwa [upd_id hD4] at this
          | true =>
            simp only [hf] at h
            rw [if_pos rfl]
            have G4 := G3.step0 t4
            refine he _ _ _ ⟨g, plus O0 [D], m4.e, m4.s, G4, ?_⟩
            show PostE xc K _ g (plus O0 [D]) m4.e σ3 H4 _ (fe m4)
            cases hf2 : fe m4 with
            | bad => simp only [hf2] at h; exact h.elim
            | rz c x m5 => simp only [hf2] at h; exact h.elim
            | ok y m5 =>
              simp only [hf2] at h
              intro v H5 F t5 rv
              cases hes : esc m5.e y with
              | none => simp only [hes] at h; exact h.elim
              | some q =>
                obtain ⟨yd, e6⟩ := q
                simp only [hes] at h
                obtain ⟨r6, o6, s6⟩ := esc_ok t5.repO rv (fun p hp => ⟨(t5.new p hp).2.1, (t5.new p hp).2.2.1⟩) hes
                have t45 := t4.trans0 t5
                have l6 : e6.length = e1.length := by rw [r6.len, hl3, ← G.rep.len]
                refine ⟨xs, stayD t45, by rw [← LIM_eq]; omega, by omega, _, done t45 r6 o6 l6 (xs ++ [v]) (acc ++ [yd]) (by simp; omega) ?_ h⟩
                exact Paired.app (ShA.weak (fun a z => z.imp id (o6 a)) (keepA t45)) (.cons s6 .nil)
end
section
variable {X : Cx} {xc : XC} {W : WX} {cl : Nat → List Arg → DS → FRes} {c e elt tg iter : Expr} {ifs : List Expr} {scope : Scope} {own : List (Str × Nat)} {ea : E} {t : Tg} {it : It} {tc : T} {pos spos py : Pos}
/-- the tests of a block -/
noncomputable def DTs (X : Cx) (xc : XC) (W : WX) (cl : Nat → List Arg → DS → FRes) (ifs : List Expr) (a : T) : Prop := PTs X ifs (tT xc X.K W fun m => evT cl a m)
theorem PTsimp {X : Cx} {e : List Expr} {t t' : TT} (h : PTs X e t) (i : ∀ σ H Q, t' σ H Q → t σ H Q) : PTs X e t' := ⟨fun pins s σ H Q I z => h.run pins s σ H Q I (i σ H Q z)⟩
theorem dts_nil : DTs X xc W cl [] .yes := PTsimp pts_nil fun σ H Q h => tT.ret h
theorem dts_one (h : DT X xc W cl c tc) : DTs X xc W cl [c] tc := pts_one h
theorem PostE.step0 {K : PySem.W.Frag} {g : Gd} {O0 : AP} {e : Env} {σ : L2.St} {H H1 : Hp} {m1 : M} {Q : VK} {x : Res R} (t1 : Stp K g O0 e σ H [] m1 H1) (h : PostE xc K W g O0 e σ H Q x) : PostE xc K W g O0 m1.e σ H1 Q x := by
  cases x with
  | bad => exact h
  | rz c f m2 => exact rz_of0 t1 h
  | ok r m2 => exact fun v2 H2 F2 t2 r2 => h v2 H2 F2 (t1.trans0 t2) r2
theorem lcv_ok {K : PySem.W.Frag} {vs : List Nat} {σ : L2.St} {H : Hp} {Q : VK} (h : tE xc K W (fun m => ev cl (.lc t it tc ea vs) m) σ H Q) {Rr : L2.It → Hp → Prop}
    (hq : ∀ g O0 e s ds src J H1, Good K g O0 e s σ H1 → ItR K σ (Ow O0 e σ) H1 J ds src → vs.all (fun i => !isOwn e[i]?) = true → ds.length ≤ LIM → PostE xc K W g O0 e σ H1 Q (match lcL src vs (fun d m => match bind1 m.e t d with
            | some e => evT cl tc ⟨e, m.s⟩
            | none => .bad) (fun m => ev cl ea m) ds [] ⟨clear e vs, s⟩ with
        | .ok acc m2 => .ok (.fl acc) ⟨back m2.e e vs, m2.s⟩
        | _ => .bad) → Rr J H1) : tI xc K W (fun m => evI cl it m) σ H Rr := by
  obtain ⟨g, O0, e, s, G, h⟩ := h
  refine ⟨g, O0, e, s, G, ?_⟩
  show PostI xc K W g O0 e σ H Rr (evI cl it ⟨e, s⟩)
  have h : PostE xc K W g O0 e σ H Q (match evI cl it ⟨e, s⟩ with
    | .ok (ds, src) m1 => if vs.all (fun i => !isOwn m1.e[i]?) = true ∧ ds.length ≤ LIM then match lcL src vs (fun d m => match bind1 m.e t d with
            | some e => evT cl tc ⟨e, m.s⟩
            | none => .bad) (fun m => ev cl ea m) ds [] ⟨clear m1.e vs, m1.s⟩ with
        | .ok acc m2 => .ok (.fl acc) ⟨back m2.e m1.e vs, m2.s⟩
        | _ => .bad
        else .bad
    | .rz c f m1 => .rz c f m1
    | .bad => .bad) := h
  cases hf : evI cl it ⟨e, s⟩ with
  | rz c f m1 => simp only [hf] at h; exact h
  | bad => simp only [hf] at h; exact h
  | ok p m1 =>
    obtain ⟨ds, src⟩ := p
    simp only [hf] at h
    intro J H1 F t1 r
    by_cases z : vs.all (fun i => !isOwn m1.e[i]?) = true ∧ ds.length ≤ LIM
    · rw [if_pos z] at h
      refine hq g O0 m1.e m1.s ds src J H1 (G.step0 t1) r z.1 z.2 ?_
      exact PostE.step0 t1.forget h
    · rw [if_neg z] at h; exact h.elim
theorem de_lc (o : Ok X) (hi : DI X xc W cl tg iter it) (ok : BlkOk X.N X.env.scope scope own) (ht : tgIn (own.map (·.2)) t = true)
    (hg : ∀ (s : Shared) (H : Hp) (C : Addr) (cl : List (Str × Addr)) (fp : List Addr), Ok (X.blk s H scope (compEnvC scope cl C X.env) fp) → DG (X.blk s H scope (compEnvC scope cl C X.env) fp) tg t)
    (hc : ∀ (s : Shared) (H : Hp) (C : Addr) (cx : List (Str × Addr)) (fp : List Addr), Ok (X.blk s H scope (compEnvC scope cx C X.env) fp) → DTs (X.blk s H scope (compEnvC scope cx C X.env) fp) xc (fun _ _ _ _ => False) cl ifs tc)
    (he : ∀ (s : Shared) (H : Hp) (C : Addr) (cx : List (Str × Addr)) (fp : List Addr), Ok (X.blk s H scope (compEnvC scope cx C X.env) fp) → DE (X.blk s H scope (compEnvC scope cx C X.env) fp) xc (fun _ _ _ _ => False) cl elt ea)
    (hs : ∀ x, foldedSetIterable iter X.env x = pure x := by intro _; rfl) :
    DE X xc W cl (.ListComp elt [⟨tg, iter, ifs, 0⟩] scope pos) (.lc t it tc ea (own.map (·.2))) :=
  PEimp (pe_lc (g := tGa X.K (asgT t) fun e d => bind1 e t d) (tt := tT xc X.K (fun _ _ _ _ => False) fun m => evT cl tc m) (te := tE xc X.K (fun _ _ _ _ => False) fun m => ev cl ea m) o.calm o.nd hi ok (fun s H C cx fp => hg s H C cx fp ⟨o.calm, o.nd, o.un, o.gd⟩) (fun s H C cx fp => hc s H C cx fp ⟨o.calm, o.nd, o.un, o.gd⟩) (fun s H C cx fp => he s H C cx fp ⟨o.calm, o.nd, o.un, o.gd⟩) hs) fun σ H Q h =>
    lcv_ok h fun g O0 e s ds src J H1 G r hn hl h D nD => lc_ok G r hn hl ht (fun _ _ _ _ z => z) (fun _ _ _ z => z) (fun _ _ _ z => z) h D nD
end
end PV
namespace PV
open PySem PySem.Spec L2
section
variable {X : Cx} {xc : XC} {W : WX} {cl : Nat → List Arg → DS → FRes} {a b c e elt tg iter : Expr} {ifs es : List Expr} {scope : Scope} {own : List (Str × Nat)} {ea : E} {as : Es} {t : Tg} {it : It} {tc : T} {pos spos py p apos cpos : Pos} {i : Nat} {y x : Str}
theorem set_ok {K : PySem.W.Frag} {D : Ends} {σ : L2.St} {H : Hp} (h : tS xc K W (asgS (.set (.nm i) ea)) (fun m => ex cl (.set (.nm i) ea) m) D σ H) : tE xc K W (fun m => ev cl ea m) σ H fun x H1 => gName i x σ H1 D.nx := by
  obtain ⟨g, O0, e, s, G, h⟩ := h
  refine ⟨g, O0, e, s, G, ?_⟩
  show PostE xc K W g O0 e σ H _ (ev cl ea ⟨e, s⟩)
  have h : PostS xc K W g O0 e σ H (asgS (.set (.nm i) ea)) D (match ev cl ea ⟨e, s⟩ with
    | .ok r m1 => match setR i r m1.e with
      | some e => .ok .nx ⟨e, m1.s⟩
      | none => .bad
    | .rz c f m1 => .rz c f m1
    | .bad => .bad) := h
  cases hf : ev cl ea ⟨e, s⟩ with
  | rz c f m1 => simp only [hf] at h; exact fun cls dd H' t x => h cls dd σ H' (t.ss G) x
  | bad => simp only [hf] at h; exact h
  | ok r m1 =>
    simp only [hf] at h
    intro v H1 F t rv
    cases hr : setR i r m1.e with
    | none => simp only [hr] at h; exact h.elim
    | some e' =>
      simp only [hr] at h
      exact h _ H1 (setR_ok G t rv hr (by simp [asgS, asgT]))
theorem ds_setLc (o : Ok X) (hy : X.N[i]? = some y) (hyl : X.env.scope.names.lookup y = some .local) (hk : X.env.scope.kind = .function) (hl : (py.line == pos.line) = true) (hq : (scope.names.any fun (n, k) => n == y && (k == .local || k == .cell)) = false)
    (hi : DI X xc W cl tg iter it) (ok : BlkOk X.N X.env.scope scope own) (ht : tgIn (own.map (·.2)) t = true)
    (hg : ∀ (s : Shared) (H : Hp) (C : Addr) (cl : List (Str × Addr)) (fp : List Addr), Ok (X.blk s H scope (compEnvC scope cl C X.env) fp) → DG (X.blk s H scope (compEnvC scope cl C X.env) fp) tg t)
    (hc : ∀ (s : Shared) (H : Hp) (C : Addr) (cx : List (Str × Addr)) (fp : List Addr), Ok (X.blk s H scope (compEnvC scope cx C X.env) fp) → DTs (X.blk s H scope (compEnvC scope cx C X.env) fp) xc (fun _ _ _ _ => False) cl ifs tc)
    (he : ∀ (s : Shared) (H : Hp) (C : Addr) (cx : List (Str × Addr)) (fp : List Addr), Ok (X.blk s H scope (compEnvC scope cx C X.env) fp) → DE (X.blk s H scope (compEnvC scope cx C X.env) fp) xc (fun _ _ _ _ => False) cl elt ea)
    (hs : ∀ x, foldedSetIterable iter X.env x = pure x := by intro _; rfl) :
    DS' X xc W cl (.Assign [.Name y py] (.ListComp elt [⟨tg, iter, ifs, 0⟩] scope pos) spos) (.set (.nm i) (.lc t it tc ea (own.map (·.2)))) :=
  PSimp (ps_setLc (g := tGa X.K (asgT t) fun e d => bind1 e t d) (tt := tT xc X.K (fun _ _ _ _ => False) fun m => evT cl tc m) (te := tE xc X.K (fun _ _ _ _ => False) fun m => ev cl ea m) o.calm o.nd hy hyl (sw_true hk hyl hl hq) hi ok
    (fun s H C cx fp => hg s H C cx fp ⟨o.calm, o.nd, o.un, o.gd⟩) (fun s H C cx fp => hc s H C cx fp ⟨o.calm, o.nd, o.un, o.gd⟩) (fun s H C cx fp => he s H C cx fp ⟨o.calm, o.nd, o.un, o.gd⟩) hs) fun D σ H h =>
    lcv_ok (set_ok h) fun g O0 e s ds src J H1 G r hn hl h D nD => lc_ok G r hn hl ht (fun _ _ _ _ z => z) (fun _ _ _ z => z) (fun _ _ _ z => z) h D nD
theorem tyV_of {K : PySem.W.Frag} {H : Hp} {p : Addr} {xs : List V} (h : H p = some (.lst xs)) : tyV K "list" (.ref p) H := .inl ⟨rfl, xs, SqL.of h⟩
/-- the slot's list, then the arguments, then the method -/
theorem mut_ok {K : PySem.W.Frag} {o : MOp} {Q : VK} {σ : L2.St} {H : Hp} (ho : o ≠ .upd) (h : tE xc K W (fun m => ev cl (.mut o i as) m) σ H Q) {r : V → List V → Hp → VK → Prop}
    (hr : ∀ g O0 e s H1 F vs rs m p, Good K g O0 e s σ H1 → σ[i]? = some (some (.ref p)) → RVs K g (Ow (plus O0 F) e σ) σ H1 vs F rs → (∀ q ∈ F, ¬ O0 q ∧ ¬ PV.own e σ q) → evs cl as m = .ok rs ⟨e, s⟩ → PostE xc K W g O0 e σ H1 Q (mutD o i rs ⟨e, s⟩) → r (.ref p) vs H1 Q) :
    ∃ v, σ[i]? = some (some v) ∧ tyV K "list" v H ∧ tEs xc K W (fun m => evs cl as m) σ H fun vs H1 => r v vs H1 Q := by
  obtain ⟨g, O0, e, s, G, h⟩ := h
  have h : PostE xc K W g O0 e σ H Q (if mutOk o e[i]? = true then match evs cl as ⟨e, s⟩ with
      | .ok rs m1 => mutD o i rs m1
      | .rz c f m1 => .rz c f m1
      | .bad => .bad
    else .bad) := h
  by_cases z : mutOk o e[i]? = true
  · rw [if_pos z] at h
    obtain ⟨ds, hi⟩ : ∃ ds, e[i]? = some (.ol ds) := by
      cases hs : e[i]? with
      | none => rw [hs] at z; cases o <;> simp_all [mutOk]
      | some sl => rw [hs] at z; cases sl <;> cases o <;> simp_all [mutOk]
    obtain ⟨p, xs, h1, h2, h3, h4, h5⟩ := G.rep.at' i _ hi
    refine ⟨_, h1, tyV_of h3, g, O0, e, s, G, ?_⟩
    show PostEs xc K W g O0 e σ H _ (evs cl as ⟨e, s⟩)
    cases hf : evs cl as ⟨e, s⟩ with
    | rz c f m1 => simp only [hf] at h; exact h
    | bad => simp only [hf] at h; exact h
    | ok rs m1 =>
      simp only [hf] at h
      exact fun vs H1 F t rv => hr g O0 m1.e m1.s H1 F vs rs ⟨e, s⟩ p (G.step0 t) h1 rv (fun q hq => ⟨(t.new q hq).2.1, (t.new q hq).2.2.1⟩) hf (PostE.step0 t.forget h)
  · rw [if_neg z] at h; exact h.elim
/-- the slot's list is written -/
theorem write_ok {K : PySem.W.Frag} {Q : VK} {g : Gd} {O0 : AP} {e : Env} {s : DS} {σ : L2.St} {H : Hp} {p : Addr} {xs ys : List V} {ds ds' : List PyData} {v : V} {d : PyData} (G : Good K g O0 e s σ H) (hi : e[i]? = some (.ol ds)) (hp : σ[i]? = some (some (.ref p))) (hx : H p = some (.lst xs))
    (hl : ys.length ≤ sizeLine) (hs : ShA K (Ow O0 e σ) H ys ds') (hv : Sh K (Ow O0 e σ) H v d) (h : PostE xc K W g O0 e σ H Q (.ok (.v d) ⟨e.set i (.ol ds'), s⟩)) : Q v (upd H p (.lst ys)) := by
  have op : PV.own e σ p := ⟨i, by rw [hi]; rfl, hp⟩
  have oe : ∀ a, PV.own (e.set i (.ol ds')) σ a ↔ PV.own e σ a := fun a => own_eq (s := .ol ds') hi rfl
  have kw : Keep (PV.own e σ) H (upd H p (.lst ys)) := Keep.write hx rfl op
  have go : ∀ {u w}, Sh K (Ow O0 e σ) H u w → Sh K (Ow O0 e σ) (upd H p (.lst ys)) u w := fun q => q.go kw (fun a z => .inr z) fun a z => .inl z
  obtain ⟨n0, _⟩ := G.rep.owned op
  have nk : ¬ DkS g p := fun z => n0 (G.dk0 p z)
  have rep : Rep K g O0 (e.set i (.ol ds')) σ (upd H p (.lst ys)) := G.rep.write hi rfl rfl hp fun _ => ⟨p, ys, hp, n0, upd_same, hl, Paired.imp hs fun _ _ q => go q⟩
  refine h v _ [] ⟨kw.mono fun a z => .inl z, fun a z => (oe a).mp z, (fun _ z => nomatch z), rep.weak fun a z => z.elim id (fun z => nomatch z), ?_⟩ ⟨rfl, (go hv).weak fun a z => ?_⟩
  · exact G.dk.keep kw fun a z q => (G.rep.owned z).1 (G.dk0 a q)
  · rcases z with (z | z) | z
    · exact .inl z
    · exact nomatch z
    · exact .inr ((oe a).mp z)
theorem app_imp {σ : L2.St} {H : Hp} {Q : VK} (h : tE xc X.K W (fun m => ev cl (.mut .app i (.cons ea .nil)) m) σ H Q) : tBM X.K "list" rAppend (tVar i) (tEs xc X.K W fun m => evs cl (.cons ea .nil) m) σ H Q :=
    mut_ok (o := .app) (fun z => nomatch z) h (r := rAppend) fun g O0 e s H1 F vs rs m p G hp rv hn hf h => by
      have hl := evs_len _ _ _ _ hf
      match rs, hl, rv, h with
      | [r], _, rv, h =>
        obtain ⟨v, rfl, q⟩ := rvs1 rv
        have h : PostE xc X.K W g O0 e σ H1 Q (match esc e r with
          | some (d, e) => match e[i]? with
            | some (.ol ds) => if ds.length < LIM then .ok (.v .none) ⟨e.set i (.ol (ds ++ [d])), s⟩ else .bad
            | _ => .bad
          | none => .bad) := h
        cases he : esc e r with
        | none => simp only [he] at h; exact h.elim
        | some q2 =>
          obtain ⟨d, e'⟩ := q2
          simp only [he] at h
          obtain ⟨r2, o2, s2⟩ := esc_ok G.rep q hn he
          cases hi : e'[i]? with
          | none => simp only [hi] at h; exact h.elim
          | some sl =>
            cases sl with
            | ol ds =>
              simp only [hi] at h
              by_cases z : ds.length < LIM
              · rw [if_pos z] at h
                obtain ⟨p', xs, h1, h2, h3, h4, h5⟩ := r2.at' i _ hi
                rw [hp] at h1; cases h1
                have G2 : Good X.K g O0 e' s σ H1 := ⟨G.dk0, G.oe, r2, G.dk, G.ob⟩
                have xl : xs.length < sizeLine := by rw [Paired.len h5, ← LIM_eq]; exact z
                refine ⟨p, xs, v, rfl, rfl, h3, xl, write_ok G2 hi hp h3 (by simp; omega) (Paired.app h5 (.cons s2 .nil)) (sh_none.mpr rfl) (PostE.step0 (stp_esc G r2 o2) h)⟩
              · rw [if_neg z] at h; exact h.elim
            | un => simp only [hi] at h; exact h.elim
            | ex a f => simp only [hi] at h; exact h.elim
            | sh d => simp only [hi] at h; exact h.elim
            | od t k => simp only [hi] at h; exact h.elim
            | dk => simp only [hi] at h; exact h.elim
theorem de_app (hN : X.N[i]? = some x) (hv : Vis X.env.scope x) (ha : DE X xc W cl a ea) (hbase : attributeBase (.Name x p) "append" X.env (eval (.Name x p) X.env) = eval (.Name x p) X.env := by rfl)
    (hfew : ((backTo cpos (starEach [a] X.env)).all (fun x => !x.1) && (backToKw cpos (keywordEach [] X.env)).all (fun x => x.1.isSome)
      && decide (([a] : List Expr).length + ([] : List Keyword).length + (if ([] : List Keyword).isEmpty then 0 else 1) < 30)) = true := by rfl)
    (hline : (apos.endLine == cpos.line) = true := by rfl) (hs : starEach [a] X.env = (false, eval a X.env) :: starEach [] X.env := by rfl) (hplain : (backTo cpos (starEach [] X.env)).any (·.1) = false := by rfl)
    (hd : (x == ("__debug__" : Str)) = false := by decide) (hcd : (x == ("__classdict__" : Str)) = false := by decide) :
    DE X xc W cl (.Call (.Attribute (.Name x p) "append" apos) [a] [] cpos) (.mut .app i (.cons ea .nil)) :=
  PEimp (pe_bm PySem.F.plainAttrs_list PySem.F.slot_list_append PySem.F.type_list_append mt_append (pe_var hN hv hd hcd) (da_cons ha da_nil hs) hbase hfew hline hs hplain) fun σ H Q h => app_imp h
end
end PV
namespace PV
open PySem PySem.Spec PyProof.Rows L2
end PV
namespace PV
open PySem PySem.Spec PyProof.Rows L2
/-- an address that is sysModules' one holds a list -/
noncomputable def NSy (h : Heap) (as : List Addr) : Prop := ∀ a ∈ as, a = sysModules → ∃ o, h.get? a = some o ∧ o.cls = .type "list"
theorem NSy.app {h : Heap} {as bs : List Addr} (x : NSy h as) (y : NSy h bs) : NSy h (as ++ bs) := fun a m e => (List.mem_append.mp m).elim (fun m => x a m e) fun m => y a m e
theorem NSy.cons {h : Heap} {as : List Addr} {a : Addr} (x : a = sysModules → ∃ o, h.get? a = some o ∧ o.cls = .type "list") (y : NSy h as) : NSy h (a :: as) := fun b m e => by
  rcases List.mem_cons.mp m with rfl | m
  · exact x e
  · exact y b m e
theorem NSy.nil {h : Heap} : NSy h [] := fun _ m => nomatch m
theorem NSy.l {h : Heap} {as bs : List Addr} (x : NSy h (as ++ bs)) : NSy h as := fun a m => x a (List.mem_append_left _ m)
theorem NSy.r {h : Heap} {as bs : List Addr} (x : NSy h (as ++ bs)) : NSy h bs := fun a m => x a (List.mem_append_right _ m)
theorem reads_pairs {X : Cx} {h : Heap} : ∀ {es : List DictEntry} {vs : List (Key × Value)} {ks : List (Key × V)} {kvs : List (PyData × PyData)} (R : V → PyData → Prop),
    Pairs (mixKind X.prog X.w) es vs → KV ks vs → Paired (fun p q => q.1 = keyD p.1 ∧ R p.2 q.2) ks kvs → (∀ x d v, R x d → rok d = true → RelV x v → ∃ as, Reads h v d as ∧ NSy h as) → rokK kvs = true →
    ∃ as bs, ReadsAll h (es.map (·.key)) (kvs.map (·.1)) as ∧ ReadsAll h (es.map (·.val)) (kvs.map (·.2)) bs ∧ NSy h as ∧ NSy h bs := by
  intro es vs ks kvs R hp
  induction hp generalizing ks kvs with
  | nil =>
    intro hk hq hr ho
    cases hk
    cases hq
    exact ⟨[], [], .nil, .nil, .nil, .nil⟩
  | @cons e kv es vs h1 h2 _ ih =>
    intro hk hq hr ho
    cases hk with
    | cons r1 hk =>
      cases hq with
      | cons q1 hq =>
        rename_i p ks q kvs
        have ho' : (keyOk false q.1 = true ∧ rok q.2 = true) ∧ rokK kvs = true := by simpa [rokK] using ho
        obtain ⟨as, bs, c1, c2, c3, c4⟩ := ih hk hq hr ho'.2
        obtain ⟨a2, d1, d2⟩ := hr _ _ _ q1.2 ho'.1.2 r1.2
        have key : Reads h e.key q.1 [] := by
          rw [q1.1]
          have h1 : keyIs kv.1 e.key = true := h1
          rw [← r1.1] at h1
          rcases keyIs_shape h1 with ⟨i, t, e1, e2⟩ | ⟨x, t, e1, e2⟩
          · rw [e1, e2]; exact .int i t
          · rw [e1, e2]; exact .str x t
        refine ⟨[] ++ as, a2 ++ bs, .cons key c1, ?_, by simpa using c3, d2.app c4⟩
        refine .cons ?_ c2
        show Reads h e.val q.2 a2
        rw [h2]; exact d1
theorem reads_all {h : Heap} {R : V → PyData → Prop} : ∀ {xs : List V} {ds : List PyData} {its : List Value}, Paired R xs ds → Vals xs its → (∀ x d v, R x d → rok d = true → RelV x v → ∃ as, Reads h v d as ∧ NSy h as) → rokA ds = true →
    ∃ as, ReadsAll h its ds as ∧ NSy h as := by
  intro xs ds its hp
  induction hp generalizing its with
  | nil =>
    intro hv _ _
    cases hv
    exact ⟨[], .nil, .nil⟩
  | cons r _ ih =>
    intro hv hr ho
    cases hv with
    | cons r1 hv =>
      rename_i d ds _ _ _ _
      have ho' := ho
      simp only [rokA, Bool.and_eq_true] at ho'
      obtain ⟨as, c1, c2⟩ := ih hv hr ho'.2
      obtain ⟨a2, d1, d2⟩ := hr _ _ _ r ho'.1 r1
      exact ⟨a2 ++ as, .cons d1 c1, d2.app c2⟩
theorem reads_sh {X : Cx} {pins : List (Addr × Obj)} {σ : L2.St} {H : Hp} {s : Shared} {O : AP} (I : Inv X pins σ H s) : ∀ (n : Nat) (x : V) (d : PyData) (v : Value), ShN X.K O H n x d → rok d = true → RelV x v → ∃ as, Reads s.heap v d as ∧ NSy s.heap as
  | 0, _, _, _, h, _, _ => h.elim
  | n + 1, x, d, v, h, ho, r => by
    have ih := fun x d v => reads_sh (O := O) I n x d v
    cases d with
    | none => cases (show x = .non from h); cases r; exact ⟨[], .none, .nil⟩
    | bool b => cases (show x = .bl b from h); cases r; exact ⟨[], .bool b, .nil⟩
    | int i => cases (show x = .int i from h); obtain ⟨t, rfl⟩ := r; exact ⟨[], .int i t, .nil⟩
    | str i => cases (show x = .str i from h); obtain ⟨t, rfl⟩ := r; exact ⟨[], .str i t, .nil⟩
    | list ds =>
      obtain ⟨a, xs, rfl, l, z, p⟩ := h
      cases r
      obtain ⟨_, its, m, rv, e⟩ := (show ObjOk X.prog X.w H s.heap a (.lst xs) from I.hok a _ l.2)
      obtain ⟨as, c1, c2⟩ := reads_all p rv ih (by simpa [rok] using ho)
      exact ⟨a :: as, .list e rfl rfl (by simpa using c1), .cons (fun _ => ⟨_, e, rfl⟩) c2⟩
    | tuple ds =>
      obtain ⟨a, xs, rfl, l, z, p⟩ := h
      cases r
      obtain ⟨its, rv, ⟨o, e1, e2, m, e3⟩, _⟩ := I.tuple (SqT.of l)
      obtain ⟨as, c1, c2⟩ := reads_all p rv ih (by simpa [rok] using ho)
      exact ⟨as, .tuple e1 e2 e3 (by simpa using c1), c2⟩
    | dict kvs =>
      obtain ⟨a, rfl, _, h⟩ := h
      cases r
      rcases h with ⟨ks, e, p⟩ | ⟨ks, e, p⟩
      · obtain ⟨_, hs, vs, kv, o, es, ep, e1, e2, e3, _, e5, _⟩ := dk_of I.hok e
        obtain ⟨as, bs, c1, c2, c3, c4⟩ := reads_pairs (X := X) (h := s.heap) _ e5 kv p ih (by simpa [rok] using ho)
        refine ⟨a :: as ++ bs, .dict e1 e2.1 e3 c1 c2, NSy.app (.cons (fun q => ?_) c3) c4⟩
        rw [q] at hs; simp at hs
      · -- a key that is a tuple is not plain
        cases p with
        | nil =>
          obtain ⟨_, hs, vs, kv, o, es, ep, e1, e2, e3, e4, _⟩ := dt_of I.hok e
          cases kv
          refine ⟨a :: [] ++ [], .dict e1 e2.1 e3 (kvs := []) (by rw [e4]; exact .nil) (by rw [e4]; exact .nil), NSy.app (.cons (fun q => ?_) .nil) .nil⟩
          rw [q] at hs; simp at hs
        | cons q _ =>
          rename_i q' ks' kvs' _
          have ho' : (keyOk false q'.1 = true ∧ rok q'.2 = true) ∧ rokK kvs' = true := by simpa [rok, rokK] using ho
          have := ho'.1.1
          rw [q.1] at this
          simp [keyT, keyOk, toKey] at this
section
variable {prog : Program} {w : World} {h : Heap}
theorem nsy_dict {a : Addr} {o : Obj} {as : List Addr} (n : NSy h (a :: as)) (e : h.get? a = some o) (c : o.cls = .type "dict") : (a == sysModules) = false := beq_eq_false_iff_ne.mpr fun q => by
  obtain ⟨o', e', c'⟩ := n a List.mem_cons_self q
  rw [e] at e'; cases e'
  rw [c] at c'; exact absurd c' (by decide)
theorem nsy_tl {a : Addr} {as : List Addr} (n : NSy h (a :: as)) : NSy h as := fun b m => n b (List.mem_cons_of_mem _ m)
mutual
theorem rk1 : ∀ {v : Value} {d : PyData} {as : List Addr}, Reads h v d as → d.showable = true → NSy h as → d.shown.length ≤ sizeLine → ∃ bs, ReadAtMost h d.depth bs ∧ ReprK prog w bs h d.depth v d.shown
  | _, _, _, .none, _, _, _ => by
    refine ⟨[], (fun _ m => nomatch m), ?_⟩
    simp only [PyData.shown]; exact .of_is ReprIs.none _ _ _
  | _, _, _, .bool b, _, _, _ => by
    refine ⟨[], (fun _ m => nomatch m), ?_⟩
    simp only [PyData.shown]; exact .of_is (ReprIs.bool b) _ _ _
  | _, _, _, .int i t, hs, _, _ => by
    refine ⟨[], (fun _ m => nomatch m), ?_⟩
    simp only [PyData.shown]; exact .of_is (ReprIs.int t (by simpa [PyData.showable] using hs)) _ _ _
  | _, _, _, .str x t, _, _, hz => by
    refine ⟨[], (fun _ m => nomatch m), ?_⟩
    simp only [PyData.shown]; exact .of_is (ReprIs.str x t (by simpa only [PyData.shown] using hz)) _ _ _
  | _, _, _, .list (a := a) (vs := vs) (xs := xs) e1 e2 e3 e4, hs, ns, hz => by
    have z : (listText (PyData.shownAll xs)).length ≤ sizeLine := by simpa only [PyData.shown] using hz
    obtain ⟨bs, m, k⟩ := rkA e4 (by simpa [PyData.showable] using hs) (nsy_tl ns) fun t ht => Nat.le_trans (listText_mem_le ht) z
    have rd : Reads h (.ref a) (.list xs) _ := .list e1 e2 e3 e4
    have na : a ∉ bs := not_mem_of_deeper rd (by simp only [PyData.depth]; omega) m
    refine ⟨a :: bs, .cons rd (by simp only [PyData.depth]; omega) m, ?_⟩
    simp only [PyData.depth, PyData.shown]
    obtain ⟨l⟩ := vs
    cases l with
    | nil =>
      have e4' : ReadsAll h [] xs _ := e4
      cases e4'
      simp only [PyData.shownAll, listText_nil]; exact .listEmpty e1 e2 e3
    | cons x l => exact .list e1 e2 e3 na (by simpa using k.length_eq) fun i y q => k.item i y (by simpa using q)
  | _, _, _, .tuple (a := a) (xs := xs) e1 e2 e3 e4, hs, ns, hz => by
    have z : (tupleText (PyData.shownAll xs)).length ≤ sizeLine := by simpa only [PyData.shown] using hz
    obtain ⟨bs, m, k⟩ := rkA e4 (by simpa [PyData.showable] using hs) ns fun t ht => Nat.le_trans (tupleText_mem_le ht) z
    have rd : Reads h (.ref a) (.tuple xs) _ := .tuple e1 e2 e3 e4
    refine ⟨a :: bs, .cons rd (by simp only [PyData.depth]; omega) m, ?_⟩
    simp only [PyData.depth, PyData.shown]
    exact .tuple e1 e2 e3 (not_mem_of_deeper rd (by simp only [PyData.depth]; omega) m) k
  | _, _, _, .dict (a := a) (es := es) (kvs := kvs) (as := p) (bs := q) e1 e2 e3 e4 e5, hs, ns, hz => by
    have z : (dictText (PyData.shownKv kvs)).length ≤ sizeLine := by simpa only [PyData.shown] using hz
    obtain ⟨s1, s2⟩ := PyData.showableKv_split kvs (by simpa [PyData.showable] using hs)
    obtain ⟨b1, m1, k1⟩ := rkA e4 s1 (nsy_tl ns).l fun t ht => by
      obtain ⟨u, hu, hl⟩ := PyData.shownKv_key_le kvs t ht
      exact Nat.le_trans hl (Nat.le_trans (dictText_mem_le hu) z)
    obtain ⟨b2, m2, k2⟩ := rkA e5 s2 (nsy_tl ns).r fun t ht => by
      obtain ⟨u, hu, hl⟩ := PyData.shownKv_val_le kvs t ht
      exact Nat.le_trans hl (Nat.le_trans (dictText_mem_le hu) z)
    have rd : Reads h (.ref a) (.dict kvs) _ := .dict e1 e2 e3 e4 e5
    have m : ReadAtMost h (PyData.depthKv kvs) (b1 ++ b2) := .append (m1.mono (PyData.depthAll_keys_le kvs)) (m2.mono (PyData.depthAll_vals_le kvs))
    refine ⟨a :: (b1 ++ b2), .cons rd (by simp only [PyData.depth]; omega) m, ?_⟩
    simp only [PyData.depth, PyData.shown, PyData.shownKv_eq]
    exact .dict e1 e2 e3 (nsy_dict ns e1 e2) (not_mem_of_deeper rd (by simp only [PyData.depth]; omega) m) (.of_two _ _ _ (k1.more_le (fun b => List.mem_append_left _) (PyData.depthAll_keys_le kvs)) (k2.more_le (fun b => List.mem_append_right _) (PyData.depthAll_vals_le kvs)))
theorem rkA : ∀ {vs : List Value} {ds : List PyData} {as : List Addr}, ReadsAll h vs ds as → PyData.showableAll ds = true → NSy h as → (∀ t ∈ PyData.shownAll ds, t.length ≤ sizeLine) → ∃ bs, ReadAtMost h (PyData.depthAll ds) bs ∧ ReprAllK prog w bs h (PyData.depthAll ds) vs (PyData.shownAll ds)
  | _, _, _, .nil, _, _, _ => by
    refine ⟨[], (fun _ m => nomatch m), ?_⟩
    simp only [PyData.shownAll]; exact .nil
  | _, _, _, .cons (d := d) (ds := ds) r rs, hs, ns, hz => by
    have s2 : d.showable = true ∧ PyData.showableAll ds = true := by simpa [PyData.showableAll] using hs
    obtain ⟨b1, m1, k1⟩ := rk1 r s2.1 ns.l (hz _ (by simp only [PyData.shownAll]; exact List.mem_cons_self))
    obtain ⟨b2, m2, k2⟩ := rkA rs s2.2 ns.r fun t ht => hz t (by simp only [PyData.shownAll]; exact List.mem_cons_of_mem _ ht)
    refine ⟨b1 ++ b2, ?_, ?_⟩
    · simp only [PyData.depthAll]
      exact .append (m1.mono (Nat.le_max_left _ _)) (m2.mono (Nat.le_max_right _ _))
    · simp only [PyData.depthAll, PyData.shownAll]
      exact .cons ((k1.more fun b => List.mem_append_left _).level_le (Nat.le_max_left _ _)) (k2.more_le (fun b => List.mem_append_right _) (Nat.le_max_right _ _))
end
variable {A : Around} {E : Value → Shared → Prop} {s : Shared} {Q : Value → Shared → Prop}
/-- repr of what is read -/
theorem repr_rd {a : Addr} {d : PyData} {as : List Addr} (r : Reads h (.ref a) d as) (hs : d.showable = true) (ns : NSy h as) (hg : A.guards = some []) (hu : A.units + (d.depth + 1) < cLine) (hk : ∀ b o, h.get? b = some o → s.heap.get? b = some o)
    (hQ : ∀ h' u tk, (∀ b o, s.heap.get? b = some o → h'.get? b = some o) → Q (.str d.shown u) { s with heap := h', toks := tk }) (hz : d.shown.length ≤ sizeLine) : wpAny (model prog w) A (call (.builtin "repr") [.ref a]) Q E s := by
  have un : A.in1.units = A.units + 1 := rfl
  have go : ∀ {T idr : String}, s.TypeIs (.ref a) T → SlotG T "__repr__" idr → wpAny (model prog w) A.in1 (call (.builtin idr) [.ref a]) (fun v s' => ∃ y u, v = .str y u ∧ Q v s') E s → wpAny (model prog w) A (call (.builtin "repr") [.ref a]) Q E s := fun ty sl c =>
    call_repr_slot (by omega) ty sl (wpAny_mono c (fun v s' ⟨y, u, e, q⟩ => ⟨y, u, e, e ▸ q⟩) fun _ _ x => x)
  cases r with
  | list e1 e2 e3 e4 =>
    rename_i o vs n xs bs
    have z : (listText (PyData.shownAll xs)).length ≤ sizeLine := by simpa only [PyData.shown] using hz
    obtain ⟨bs, m, k⟩ := rkA (prog := prog) (w := w) e4 (by simpa [PyData.showable] using hs) (nsy_tl ns) fun t ht => Nat.le_trans (listText_mem_le ht) z
    have na : a ∉ bs := not_mem_of_deeper (.list e1 e2 e3 e4) (by simp only [PyData.depth]; omega) m
    simp only [PyData.depth] at hu
    simp only [PyData.shown] at hQ
    refine go ⟨o, hk _ _ e1, e2⟩ F.slot_list_repr.toG ?_
    obtain ⟨l⟩ := vs
    cases l with
    | nil =>
      have e4' : ReadsAll h [] xs _ := e4
      cases e4'
      simp only [PyData.shownAll, listText_nil] at hQ
      exact call_list_repr_empty ⟨o, hk _ _ e1, e2⟩ (hk _ _ e1) e3 ⟨_, _, rfl, hQ s.heap _ _ fun _ _ q => q⟩
    | cons x l => exact call_list_reprK e1 e2 e3 na (by simpa using k.length_eq) (fun i y q => k.item i y (by simpa using q)) hg (fun b _ => Clear.nil b) (by omega) hk (fun h' u tk q => ⟨_, _, rfl, hQ h' u tk q⟩) z
  | tuple e1 e2 e3 e4 =>
    rename_i o vs n xs
    have z : (tupleText (PyData.shownAll xs)).length ≤ sizeLine := by simpa only [PyData.shown] using hz
    obtain ⟨bs, m, k⟩ := rkA (prog := prog) (w := w) e4 (by simpa [PyData.showable] using hs) ns fun t ht => Nat.le_trans (tupleText_mem_le ht) z
    have na : a ∉ bs := not_mem_of_deeper (.tuple e1 e2 e3 e4) (by simp only [PyData.depth]; omega) m
    simp only [PyData.depth] at hu
    simp only [PyData.shown] at hQ
    exact go ⟨o, hk _ _ e1, e2⟩ F.slot_tuple_repr (call_tuple_reprK e1 e2 e3 na k hg (fun b _ => Clear.nil b) (by omega) hk (fun h' u tk q => ⟨_, _, rfl, hQ h' u tk q⟩) z)
  | dict e1 e2 e3 e4 e5 =>
    rename_i o es n kvs p q
    have z : (dictText (PyData.shownKv kvs)).length ≤ sizeLine := by simpa only [PyData.shown] using hz
    obtain ⟨s1, s2⟩ := PyData.showableKv_split kvs (by simpa [PyData.showable] using hs)
    obtain ⟨b1, m1, k1⟩ := rkA (prog := prog) (w := w) e4 s1 (nsy_tl ns).l fun t ht => by
      obtain ⟨u, hu, hl⟩ := PyData.shownKv_key_le kvs t ht
      exact Nat.le_trans hl (Nat.le_trans (dictText_mem_le hu) z)
    obtain ⟨b2, m2, k2⟩ := rkA (prog := prog) (w := w) e5 s2 (nsy_tl ns).r fun t ht => by
      obtain ⟨u, hu, hl⟩ := PyData.shownKv_val_le kvs t ht
      exact Nat.le_trans hl (Nat.le_trans (dictText_mem_le hu) z)
    have m : ReadAtMost h (PyData.depthKv kvs) (b1 ++ b2) := .append (m1.mono (PyData.depthAll_keys_le kvs)) (m2.mono (PyData.depthAll_vals_le kvs))
    have na : a ∉ b1 ++ b2 := not_mem_of_deeper (.dict e1 e2 e3 e4 e5) (by simp only [PyData.depth]; omega) m
    simp only [PyData.depth] at hu
    simp only [PyData.shown, PyData.shownKv_eq] at hQ
    exact go ⟨o, hk _ _ e1, e2⟩ F.slot_dict_repr (call_dict_reprK e1 e2 e3 (nsy_dict ns e1 e2) na (.of_two _ _ _ (k1.more_le (fun b => List.mem_append_left _) (PyData.depthAll_keys_le kvs)) (k2.more_le (fun b => List.mem_append_right _) (PyData.depthAll_vals_le kvs)))
      hg (fun b _ => Clear.nil b) (by omega) hk (fun h' u tk q => ⟨_, _, rfl, hQ h' u tk q⟩) (by rw [← PyData.shownKv_eq]; exact z))
end
end PV
namespace PV
open PySem PySem.Spec PyProof.Rows L2
mutual
theorem rok_nod : ∀ d : PyData, nod d = true → rok d = true
  | .none, _ => rfl
  | .bool _, _ => rfl
  | .int _, _ => rfl
  | .str _, _ => rfl
  | .list xs, h => by simpa [rok] using rok_nodA xs (by simpa [nod] using h)
  | .tuple xs, h => by simpa [rok] using rok_nodA xs (by simpa [nod] using h)
  | .dict _, h => by simp [nod] at h
theorem rok_nodA : ∀ ds : List PyData, nodA ds = true → rokA ds = true
  | [], _ => rfl
  | d :: ds, h => by
    have h : nod d = true ∧ nodA ds = true := by simpa [nodA] using h
    simp [rokA, rok_nod d h.1, rok_nodA ds h.2]
end
theorem ShT.any {K : PySem.W.Frag} {O : AP} {H : Hp} {v : V} {d : PyData} (h : ShT K O H v d) : Sh K (fun _ => False) H v d := by
  have w : ∀ {v : V} {d : PyData}, Sh K O H v d → Sh K (fun _ => False) H v d := fun h => h.weak fun _ z => z.elim
  cases d with
  | list ds => obtain ⟨a, xs, e, l, z, p⟩ := h; exact sh_list.mpr ⟨a, xs, e, ⟨fun z => z, l⟩, z, Paired.imp p fun _ _ q => w q⟩
  | dict kvs =>
    obtain ⟨a, o, e, ho, p⟩ := h
    refine sh_dict.mpr ⟨a, o, e, fun z => z, ho, ?_⟩
    rcases p with ⟨ks, e, q⟩ | ⟨ks, e, q⟩
    · exact .inl ⟨ks, e, Paired.imp q fun _ _ q => ⟨q.1, w q.2⟩⟩
    · exact .inr ⟨ks, e, Paired.imp q fun _ _ q => ⟨q.1, w q.2⟩⟩
  | none => exact w h
  | bool b => exact w h
  | int i => exact w h
  | str s => exact w h
  | tuple ds => exact w h
noncomputable def rRepr (K : PySem.W.Frag) : List V → Hp → VK → Prop := fun xs H Q => ∃ x d O n, xs = [x] ∧ ShN K O H n x d ∧ d.showable = true ∧ rok d = true ∧ d.shown.length ≤ sizeLine ∧ d.depth ≤ 60 ∧ Q (.str d.shown) H
theorem call_repr {X : Cx} (un : X.A.units + 65 < cLine) (gd : X.A.guards = some []) : CallR X (.builtin "repr") (rRepr X.K) := by
  intro pins s σ H xs us Q I r h
  obtain ⟨x, d, O, n, rfl, hd, h1, h2, h3, h4, q⟩ := h
  obtain ⟨u, rfl, ru⟩ := vals1 r
  obtain ⟨as, rd, ns⟩ := reads_sh I n x d u hd h2 ru
  have ref : ∀ {a : Addr}, u = .ref a → wpAny (model X.prog X.w) X.A (call (.builtin "repr") [u]) (EP X pins σ Q) X.xe s := fun {a} e => by
    subst e
    exact repr_rd rd h1 ns gd (by omega) (fun b ob e => e) (fun h' u tk k => ⟨.str _, H, I.kept k, ⟨_, rfl⟩, q⟩) h3
  cases rd with
  | none => exact PySem.P.repr_of_none ⟨.str _, H, I.tok _, ⟨_, rfl⟩, q⟩
  | bool b => exact PySem.P.repr_of_bool ⟨.str _, H, I.tok _, ⟨_, rfl⟩, q⟩
  | int i t => exact PySem.P.repr_of_int (by simpa [PyData.showable] using h1) ⟨.str _, H, I.tok _, ⟨_, rfl⟩, q⟩
  | str y t => exact PySem.P.repr_of_str ⟨.str _, H, I.tok _, ⟨_, rfl⟩, q⟩ h3
  | list _ _ _ _ => exact ref rfl
  | tuple _ _ _ _ => exact ref rfl
  | dict _ _ _ _ _ => exact ref rfl
theorem v_repr {K : PySem.W.Frag} : OpV K (rRepr K) reprD := by
  intro O H vs ds z Q hp hz hQ
  unfold reprD at hz
  split at hz
  · obtain ⟨x, rfl, h1⟩ := p1 hp
    split at hz
    · rename_i h
      cases hz
      obtain ⟨n, h1⟩ := h1.any
      exact ⟨x, _, _, n, rfl, h1, h.1, h.2.1, by rw [← LIM_eq]; exact h.2.2.1, h.2.2.2, fin_v hQ (sh_str.mpr rfl)⟩
    · cases hz
  · cases hz
end PV
namespace PV
open PySem PySem.Spec L2
/-- a def of the table -/
structure FnT (P : Program) (w : World) (K : PySem.W.Frag) (mg : Str → Option Value) (base : Heap) (xc : XC) (cl : Nat → List Arg → DS → FRes) (k : Nat) (n : Str) (f np : Nat) : Prop where
  fn : ∃ (fa : Addr) (fd : FuncData) (ps : List Str), FnG P w K mg base (L2.CX P w) k fa fd ps (spF xc K np (cl f)) ∧ mg n = some (.ref fa) ∧ PySem.W.keepIn K (.ref fa) = true ∧ Binds K fd ps []
  ln : ∀ args s, cl f args s ≠ .bad → args.length = np
noncomputable def WalkB (P : Program) (w : World) (K : PySem.W.Frag) (mg : Str → Option Value) (base : Heap) (N : List Str) (qual : Str) (st : Stmt) (xc : XC) (cl : Nat → List Arg → DS → FRes) (k : Nat) (ib : Ss) : Prop :=
  ∀ (f : Addr) (cdv : Value) (A : Around) (outer : List PySem.Env) (s : Shared) (H : Hp) (E : XK), Bd (CxD P w K mg base N qual st f cdv A outer s H E) (fun c d _ H => E c d H) k → DSs (CxD P w K mg base N qual st f cdv A outer s H E) xc (fun c d _ H => E c d H) cl (defBody st) ib
section
variable {X : Cx} {xc : XC} {W : WX} {cl : Nat → List Arg → DS → FRes} {k : Nat} {a b c e x y elt tg iter : Expr} {es ifs : List Expr} {ea eb ec el eh : E} {as : Es} {ta tb tc : T} {t : Tg} {ts : Tgs} {it : It} {ib ic : Ss} {pos p p2 p3 spos py px pt apos cpos : Pos} {n nm : Str} {i j f np : Nat} {body : List Stmt} {scope : Scope}
theorem un3 {X : Cx} (o : Ok X) : X.A.units + 64 < cLine := by have := o.un; omega
theorem Bd.blk {s : Shared} {H : Hp} {cenv : PySem.Env} {fp : List Addr} (d : Bd X W k) : Bd (X.blk s H scope cenv fp) (fun _ _ _ _ => False) k := ⟨⟨d.ok.calm, d.ok.nd, d.ok.un, d.ok.gd⟩, d.room, PassesOwn.never, takes0⟩
theorem d_v (i : Nat) (hN : X.N[i]? = some n := by rfl) (hv : Vis X.env.scope n := by first | exact Or.inl rfl | exact Or.inr (Or.inl rfl) | exact Or.inr (Or.inr rfl)) (hd : (n == ("__debug__" : Str)) = false := by decide) (hcd : (n == ("__classdict__" : Str)) = false := by decide) : DE X xc W cl (.Name n pos) (.x i) := de_var hN hv hd hcd
theorem d_add (ha : DE X xc W cl a ea) (hb : DE X xc W cl b eb) : DE X xc W cl (.BinOp a .Add b pos) (.op .add (.cons ea (.cons eb .nil))) := de_bin o_add (.of v_add) ha hb
theorem d_sub (ha : DE X xc W cl a ea) (hb : DE X xc W cl b eb) : DE X xc W cl (.BinOp a .Sub b pos) (.op .sub (.cons ea (.cons eb .nil))) := de_bin op_sub (.of v_sub) ha hb
section
variable (d : Bd X W k)
include d
theorem d_eq (ha : DE X xc W cl a ea) (hb : DE X xc W cl b eb) : DE X xc W cl (.Compare a [.Eq] [b] pos) (.op .eq (.cons ea (.cons eb .nil))) := de_cmp (o_eq (un3 d.ok)) (.of v_eq) ha hb
theorem d_in (ha : DE X xc W cl a ea) (hb : DE X xc W cl b eb) (hm : behindInMarks .In b = false := by with_unfolding_all rfl) : DE X xc W cl (.Compare a [.In] [b] pos) (.op .inn (.cons ea (.cons eb .nil))) := de_cmp (o_in d.ok.un) e_in ha hb hm
theorem t_eq (ha : DE X xc W cl a ea) (hb : DE X xc W cl b eb) : DT X xc W cl (.Compare a [.Eq] [b] pos) (.e (.op .eq (.cons ea (.cons eb .nil)))) := dt_cmp (o_eq (un3 d.ok)) (.of v_eq) b_eq ha hb
theorem t_ne (ha : DE X xc W cl a ea) (hb : DE X xc W cl b eb) : DT X xc W cl (.Compare a [.NotEq] [b] pos) (.e (.op .ne (.cons ea (.cons eb .nil)))) := dt_cmp (o_ne (un3 d.ok)) (.of v_ne) b_ne ha hb
theorem t_lt (ha : DE X xc W cl a ea) (hb : DE X xc W cl b eb) : DT X xc W cl (.Compare a [.Lt] [b] pos) (.e (.op .lt (.cons ea (.cons eb .nil)))) := dt_cmp (o_lt d.ok.un1) (.of v_lt) b_lt ha hb
theorem t_gt (ha : DE X xc W cl a ea) (hb : DE X xc W cl b eb) : DT X xc W cl (.Compare a [.Gt] [b] pos) (.e (.op .gt (.cons ea (.cons eb .nil)))) := dt_cmp op_gt (.of v_gt) b_gt ha hb
theorem t_in (ha : DE X xc W cl a ea) (hb : DE X xc W cl b eb) (hm : behindInMarks .In b = false := by with_unfolding_all rfl) : DT X xc W cl (.Compare a [.In] [b] pos) (.e (.op .inn (.cons ea (.cons eb .nil)))) := dt_cmp (o_in d.ok.un) e_in b_in ha hb hm
theorem t_notin (ha : DE X xc W cl a ea) (hb : DE X xc W cl b eb) (hm : behindInMarks .NotIn b = false := by with_unfolding_all rfl) : DT X xc W cl (.Compare a [.NotIn] [b] pos) (.e (.op .notin (.cons ea (.cons eb .nil)))) := dt_cmp (o_notin d.ok.un) e_notin b_notin ha hb hm
theorem d_ix (ha : DE X xc W cl a ea) (hb : DE X xc W cl b eb) (hs : PlainIx b := by intro _ _; rfl) : DE X xc W cl (.Subscript a b pos) (.op .idx (.cons ea (.cons eb .nil))) := de_ix d.ok ha hb hs
theorem d_call (F : FnT X.prog X.w X.K X.mg X.base xc cl k n f np) (ha : DA X xc W cl (e :: es) as) (hg : Gl X n := by rfl)
    (hdb : (n == ("__debug__" : Str)) = false := by decide) (he : starEach (e :: es) X.env = (false, eval e X.env) :: starEach es X.env := by rfl) (hpl : (backTo pos (starEach es X.env)).any (·.1) = false := by rfl) :
    DE X xc W cl (.Call (.Name n p) (e :: es) [] pos) (.call f as) := de_call d.ok d.room (CX := L2.CX X.prog X.w) ⟨F.fn, F.ln⟩ (fun σ => L2.passAt d.takes σ) hg ha hdb he hpl
theorem d_len (hm : X.mg "len" = none) (ha : DA X xc W cl [e] as) (hg : Gl X "len" := by rfl) (he : starEach [e] X.env = [(false, eval e X.env)] := by rfl) : DE X xc W cl (.Call (.Name "len" p) [e] [] pos) (.op .len as) := de_blt call_len (.of v_len) hg hm (by rfl) ha (he := he)
theorem d_repr (hm : X.mg "repr" = none) (ha : DA X xc W cl [e] as) (hg : Gl X "repr" := by rfl) (he : starEach [e] X.env = [(false, eval e X.env)] := by rfl) : DE X xc W cl (.Call (.Name "repr" p) [e] [] pos) (.op .repr as) := de_blt (call_repr d.ok.un d.ok.gd) (.of v_repr) hg hm (by rfl) ha (he := he)
theorem d_tuple (hm : X.mg "tuple" = none) (ha : DA X xc W cl [e] as) (hg : Gl X "tuple" := by rfl) (he : starEach [e] X.env = [(false, eval e X.env)] := by rfl) : DE X xc W cl (.Call (.Name "tuple" p) [e] [] pos) (.op .tuple as) := de_ty call_tuple_of (.of v_tuple) hg hm (by rfl) ha (he := he)
theorem d_list (hm : X.mg "list" = none) (ha : DA X xc W cl [e] as) (hg : Gl X "list" := by rfl) (he : starEach [e] X.env = [(false, eval e X.env)] := by rfl) : DE X xc W cl (.Call (.Name "list" p) [e] [] pos) (.op .list as) := de_ty call_list_of (.of v_list) hg hm (by rfl) ha (he := he)
theorem d_min2 (hm : X.mg "min" = none) (ha : DA X xc W cl [a, b] as) (hg : Gl X "min" := by rfl) (he : starEach [a, b] X.env = (false, eval a X.env) :: starEach [b] X.env := by rfl) (hpl : (backTo pos (starEach [b] X.env)).any (·.1) = false := by rfl) : DE X xc W cl (.Call (.Name "min" p) [a, b] [] pos) (.op .min2 as) := de_blt (call_min2 d.ok.calm) (.of v_min2) hg hm (by rfl) ha (he := he) (hpl := hpl)
theorem d_max2 (hm : X.mg "max" = none) (ha : DA X xc W cl [a, b] as) (hg : Gl X "max" := by rfl) (he : starEach [a, b] X.env = (false, eval a X.env) :: starEach [b] X.env := by rfl) (hpl : (backTo pos (starEach [b] X.env)).any (·.1) = false := by rfl) : DE X xc W cl (.Call (.Name "max" p) [a, b] [] pos) (.op .max2 as) := de_blt (call_max2 d.ok.calm) (.of v_max2) hg hm (by rfl) ha (he := he) (hpl := hpl)
theorem i_rng1 (hm : X.mg "range" = none) (ha : DE X xc W cl a ea) (hg : Gl X "range" := by rfl) (hs : starEach [a] X.env = [(false, eval a X.env)] := by rfl) : DI X xc W cl tg (.Call (.Name "range" p) [a] [] pos) (.rng (.cons ea .nil)) := di_rng1 hg hm ha hs
theorem i_rng2 (hm : X.mg "range" = none) (ha : DE X xc W cl a ea) (hb : DE X xc W cl b eb) (hg : Gl X "range" := by rfl) (hs : starEach [a, b] X.env = [(false, eval a X.env), (false, eval b X.env)] := by rfl) (hs2 : starEach [b] X.env = [(false, eval b X.env)] := by rfl) : DI X xc W cl tg (.Call (.Name "range" p) [a, b] [] pos) (.rng (.cons ea (.cons eb .nil))) := di_rng2 hg hm ha hb hs hs2
theorem d_lc (own : List (Str × Nat)) (hi : DI X xc W cl tg iter it)
    (hg : ∀ {s : Shared} {H : Hp} {C : Addr} {cx : List (Str × Addr)} {fp : List Addr}, Bd (X.blk s H scope (compEnvC scope cx C X.env) fp) (fun _ _ _ _ => False) k → DG (X.blk s H scope (compEnvC scope cx C X.env) fp) tg t)
    (hc : ∀ {s : Shared} {H : Hp} {C : Addr} {cx : List (Str × Addr)} {fp : List Addr}, Bd (X.blk s H scope (compEnvC scope cx C X.env) fp) (fun _ _ _ _ => False) k → DTs (X.blk s H scope (compEnvC scope cx C X.env) fp) xc (fun _ _ _ _ => False) cl ifs tc)
    (he : ∀ {s : Shared} {H : Hp} {C : Addr} {cx : List (Str × Addr)} {fp : List Addr}, Bd (X.blk s H scope (compEnvC scope cx C X.env) fp) (fun _ _ _ _ => False) k → DE (X.blk s H scope (compEnvC scope cx C X.env) fp) xc (fun _ _ _ _ => False) cl elt ea)
    (ok : blkC X.N X.env.scope scope own = true := by with_unfolding_all rfl) (ht : tgIn (own.map (·.2)) t = true := by rfl) (hs : ∀ x, foldedSetIterable iter X.env x = pure x := by intro _; rfl) :
    DE X xc W cl (.ListComp elt [⟨tg, iter, ifs, 0⟩] scope pos) (.lc t it tc ea (own.map (·.2))) :=
  de_lc d.ok hi (blkOk_by ok) ht (fun s H C cx fp _ => hg d.blk) (fun s H C cx fp _ => hc d.blk) (fun s H C cx fp _ => he d.blk) hs
theorem g_nm (i : Nat) (hi : X.N[i]? = some n := by rfl) (hx : Loc X.env.scope n := by first | exact Or.inl rfl | exact Or.inr rfl) (hf : X.fn n = true ∨ X.env.scope.names.lookup n = some .local := by first | exact .inl rfl | exact .inr rfl) : DG X (.Name n pos) (.nm i) := dg_nm d.ok hi hx hf
theorem g_tp {k' : Nat} (h : DGs X es ts) (hn : (assignEach es X.env).length = lenTs ts := by rfl) (hst : (assignEach es X.env).findIdx? (·.1) = none := by rfl) : DG X (.Tuple es k' pos) (.tp ts) := dg_tp d.ok h hn hst
theorem s_set (i : Nat) (ha : DE X xc W cl a ea) (hi : X.N[i]? = some n := by rfl) (hx : Loc X.env.scope n := by first | exact Or.inl rfl | exact Or.inr rfl) (hs : swapsWith a (some (.Name n p)) pos.line X.env = pure false := by rfl) (hf : X.fn n = true ∨ X.env.scope.names.lookup n = some .local := by first | exact .inl rfl | exact .inr rfl) :
    DS' X xc W cl (.Assign [.Name n p] a pos) (.set (.nm i) ea) := ds_set d.ok.nd hi hx ha hs hf
theorem s_setLc (i : Nat) (own : List (Str × Nat)) (hi : DI X xc W cl tg iter it)
    (hg : ∀ {s : Shared} {H : Hp} {C : Addr} {cx : List (Str × Addr)} {fp : List Addr}, Bd (X.blk s H scope (compEnvC scope cx C X.env) fp) (fun _ _ _ _ => False) k → DG (X.blk s H scope (compEnvC scope cx C X.env) fp) tg t)
    (hc : ∀ {s : Shared} {H : Hp} {C : Addr} {cx : List (Str × Addr)} {fp : List Addr}, Bd (X.blk s H scope (compEnvC scope cx C X.env) fp) (fun _ _ _ _ => False) k → DTs (X.blk s H scope (compEnvC scope cx C X.env) fp) xc (fun _ _ _ _ => False) cl ifs tc)
    (he : ∀ {s : Shared} {H : Hp} {C : Addr} {cx : List (Str × Addr)} {fp : List Addr}, Bd (X.blk s H scope (compEnvC scope cx C X.env) fp) (fun _ _ _ _ => False) k → DE (X.blk s H scope (compEnvC scope cx C X.env) fp) xc (fun _ _ _ _ => False) cl elt ea)
    (ok : blkC X.N X.env.scope scope own = true := by with_unfolding_all rfl) (ht : tgIn (own.map (·.2)) t = true := by rfl)
    (hy : X.N[i]? = some n := by rfl) (hyl : X.env.scope.names.lookup n = some .local := by rfl) (hk : X.env.scope.kind = .function := by rfl) (hl : (py.line == pos.line) = true := by rfl) (hq : (scope.names.any fun (m, k) => m == n && (k == .local || k == .cell)) = false := by rfl) (hs : ∀ x, foldedSetIterable iter X.env x = pure x := by intro _; rfl) :
    DS' X xc W cl (.Assign [.Name n py] (.ListComp elt [⟨tg, iter, ifs, 0⟩] scope pos) spos) (.set (.nm i) (.lc t it tc ea (own.map (·.2)))) :=
  ds_setLc d.ok hy hyl hk hl hq hi (blkOk_by ok) ht (fun s H C cx fp _ => hg d.blk) (fun s H C cx fp _ => hc d.blk) (fun s H C cx fp _ => he d.blk) hs
theorem s_for (hi : DI X xc W cl tg iter it) (ht : DG X tg t) (hb : DSs X xc W cl body ib) (hs : ∀ x, foldedSetIterable iter X.env x = pure x := by intro _; rfl) : DS' X xc W cl (.For tg iter body [] pos) (.lop t it ib) := ds_for d.ok d.pass hi ht hb hs
theorem s_while (hc : DT X xc W cl c tc) (hb : DSs X xc W cl body ib) : DS' X xc W cl (.While c body [] pos) (.wh tc ib) := ds_while d.pass hc hb
theorem s_par (i j : Nat) {kt k2 pt2} (ha : DA X xc W cl [a, b] (.cons ea (.cons eb .nil))) (hij : i ≠ j := by decide) (hi : X.N[i]? = some n := by rfl) (hj : X.N[j]? = some nm := by rfl) (hx : X.env.scope.names.lookup n = some .local := by rfl) (hy : X.env.scope.names.lookup nm = some .local := by rfl)
    (hw : swappedStores [.Tuple [.Name n px, .Name nm py] kt pt] (.Tuple [a, b] k2 pt2) X.env = pure (some [n, nm]) := by rfl) (hs : swapsWithSole [.Tuple [.Name n px, .Name nm py] kt pt] (.Tuple [a, b] k2 pt2) pos.line X.env = pure false := by rfl) :
    DS' X xc W cl (.Assign [.Tuple [.Name n px, .Name nm py] kt pt] (.Tuple [a, b] k2 pt2) pos) (.par [i, j] (.cons ea (.cons eb .nil))) := ds_par d.ok hi hj hij hx hy ha hw hs
theorem s_app (i : Nat) (ha : DE X xc W cl a ea) (hN : X.N[i]? = some n := by rfl) (hv : Vis X.env.scope n := by first | exact Or.inl rfl | exact Or.inr (Or.inl rfl) | exact Or.inr (Or.inr rfl)) (hbase : attributeBase (.Name n p) "append" X.env (eval (.Name n p) X.env) = eval (.Name n p) X.env := by rfl)
    (hfew : ((backTo cpos (starEach [a] X.env)).all (fun x => !x.1) && (backToKw cpos (keywordEach [] X.env)).all (fun x => x.1.isSome)
      && decide (([a] : List Expr).length + ([] : List Keyword).length + (if ([] : List Keyword).isEmpty then 0 else 1) < 30)) = true := by rfl)
    (hline : (apos.endLine == cpos.line) = true := by rfl) (hs : starEach [a] X.env = (false, eval a X.env) :: starEach [] X.env := by rfl) (hplain : (backTo cpos (starEach [] X.env)).any (·.1) = false := by rfl)
    (hd : (n == ("__debug__" : Str)) = false := by decide) (hcd : (n == ("__classdict__" : Str)) = false := by decide) (hsw : swapsWith (.Call (.Attribute (.Name n p) "append" apos) [a] [] cpos) none pos.line X.env = pure false := by rfl) :
    DS' X xc W cl (.Expr (.Call (.Attribute (.Name n p) "append" apos) [a] [] cpos) pos) (.ex (.mut .app i (.cons ea .nil))) := ds_ex (de_app hN hv ha hbase hfew hline hs hplain hd hcd) hsw
end
end
end PV
namespace PV
open PySem PySem.Spec L2
theorem pair2 {α β : Type} {F : α → β → Prop} {vs : List α} {d e : β} (h : Paired F vs [d, e]) : ∃ x y, vs = [x, y] ∧ F x d ∧ F y e := by
  cases h with
  | cons r t => cases t with
    | cons q u => cases u; exact ⟨_, _, rfl, r, q⟩
noncomputable def ix (K : PySem.W.Frag) (a b : TE) : TE := tOp (rIxL K) a b
noncomputable def lenR (K : PySem.W.Frag) : List V → Hp → VK → Prop := fun xs H Q => ∃ x n, xs = [x] ∧ LenV K x H n ∧ Q (.int n) H
theorem dk_cnt {g : Gd} {s : DS} {H : Hp} (d : DkRep g s H) {xs : List V} (h : H g.1 = some (.lst xs)) (c : Int) : DkRep g ⟨s.cells, c, s.rests, s.obs⟩ (upd H g.1 (.lst (xs.set 1 (.int c)))) := by
  refine ⟨by rw [upd_ne d.ne.symm]; exact d.cells, d.ne, ?_, d.obsD h rfl (.inl rfl), d.st, d.tabsD h⟩
  rcases d.top with ⟨e, t⟩ | ⟨e1, e2, t, t2⟩
  · rw [h] at t; cases t; exact .inl ⟨e, upd_same⟩
  · rw [h] at t; cases t; exact .inr ⟨e1, e2, upd_same, by rw [upd_ne e1]; exact t2⟩
theorem dk_keep {g : Gd} {H : Hp} {a : Addr} {xs ys : List V} (h : H a = some (.lst xs)) (d : DkS g a) : Keep (DkS g) H (upd H a (.lst ys)) := Keep.write h rfl d
theorem at1 {xs : List V} {v : V} (h : xs[1]? = some v) : atI xs 1 = some v := atI_nat (j := 1) h
theorem ixN_nat {n j : Nat} (h : j < n) : ixN n (j : Int) = some j := by
  unfold ixN
  simp [h]
end PV
namespace PV
open PySem PySem.Spec L2
noncomputable def absI (i : Int) : Int := if i < 0 then -i else i
noncomputable def absR : List V → Hp → VK → Prop := fun xs H Q => ∃ i, xs = [.int i] ∧ Q (.int (if i < 0 then -i else i)) H
theorem sq_keep {K : PySem.W.Frag} {H H' : Hp} {a : Addr} {xs : List V} (k : Keep (fun _ => False) H H') (h : SqL K H a xs) : SqL K H' a xs := by
  rcases h with h | h
  · exact .inl (Rd.keep k h (.inl fun z => z))
  · exact .inr h
theorem cutV_all {xs : List V} {n : Nat} (h : xs.length ≤ n) : cutV xs none (some (n : Int)) = xs := by
  unfold cutV
  rw [HT.sIx_none, HT.sIx_nat, List.drop_zero, Nat.sub_zero, Nat.min_eq_right h, List.take_length]
/-- the law: the deck, then the rest -/
noncomputable def spLaw (K : PySem.W.Frag) (ok : List Int → Prop) : Sp := fun vs H Q _ => ∃ (a : Addr) (ns : List Int), vs = [.ref a] ∧ SqL K H a (ns.map V.int) ∧ LamX.Tabs (TBL K) H ∧ ns.length ≤ 63 ∧ ok ns ∧ ∀ H', Q (.bl true) H'
theorem e_un {n i : Nat} {sl : Slot} {j : Nat} (h : ((List.replicate n Slot.un).set i (.dk 0))[j]? = some sl) : (j = i ∧ sl = .dk 0 ∧ i < n) ∨ sl = .un := by
  rcases get_set h with ⟨z, y, l⟩ | ⟨z, y⟩
  · exact .inl ⟨z, y, by simpa using l⟩
  · rw [List.getElem?_replicate] at y
    split at y
    · cases y; exact .inr rfl
    · cases y
theorem cx_false {P : Program} {w : World} {outer : List PySem.Env} {H : Hp} {s : Shared} {e : Value} {s' : Shared} (h : L2.CX P w outer H s (fun _ _ _ => False) e s') : False := by
  obtain ⟨_, _, _, _, _, _, _, _, _, _, _, _, z⟩ := h
  exact z
section
variable {P : Program} {w : World} {K : PySem.W.Frag} {mg : Str → Option Value} {base : Heap} {xc : XC} {cl : Nat → List Arg → DS → FRes}
theorem FnG.walk {x qual : Str} {st : Stmt} {f : Addr} {fd : FuncData} {N ps : List Str} {k : Nat} {sp : Sp} (F : Fun K x qual st f fd) (S : FnScope N ps (defScope st)) (len : ∀ vs H Q E, sp vs H Q E → vs.length = ps.length)
    (hb : ∀ (cdv : Value) (A : Around) (outer : List PySem.Env) (s : Shared) (H : Hp) (E : XK), Bd (CxD P w K mg base N qual st f cdv A outer s H E) (fun c d _ H => E c d H) k → ∃ t, PSs (CxD P w K mg base N qual st f cdv A outer s H E) (defBody st) t ∧
      ∀ vs Q, sp vs H Q E → t { nx := fun _ H' => Q .non H', rt := Q } (L2.start N vs) H) : FnG P w K mg base (L2.CX P w) (k + 1) f fd ps sp := by
  obtain ⟨oc, od, kV, doc, pm, an, cdv, ct, osl, rfl, lk, hcd⟩ := F.ex
  refine FnG.body lk hcd S len fun A outer s H vs Q E hg hr hf hsp => ?_
  have un := hr.un
  obtain ⟨t, h1, h2⟩ := hb cdv A outer s H E ⟨⟨rfl, S.nd, by show (A.deeper _).units + 65 < cLine; omega, deeper_gd hg⟩, hr, L2.passes_of rfl, L2.takes_of rfl rfl rfl rfl⟩
  exact ⟨t, h1, h2 vs Q hsp⟩
/-- a draw of the table -/
theorem FnT.prim {tb : Nat → Option FSem} {k : Nat} {n qual : Str} {f np : Nat} {st : Stmt} {fa : Addr} {fd : FuncData} {N ps : List Str} {gf : List Arg → DS → FRes}
    (F : Fun K n qual st fa fd) (hm : mg n = some (.ref fa)) (hb : Binds K fd ps []) (S : FnScope N ps (defScope st)) (ht : tb f = some (.prim gf)) (hp : ps.length = np) (hl : ∀ as s, gf as s ≠ .bad → as.length = np)
    (w' : ∀ (cdv : Value) (A : Around) (outer : List PySem.Env) (s : Shared) (H : Hp) (E : XK), Bd (CxD P w K mg base N qual st fa cdv A outer s H E) (fun c d _ H => E c d H) k → ∃ t, PSs (CxD P w K mg base N qual st fa cdv A outer s H E) (defBody st) t ∧
      ∀ vs Q, spF xc K np gf vs H Q E → t { nx := fun _ H' => Q .non H', rt := Q } (L2.start N vs) H) : FnT P w K mg base xc (run tb (k + 1)) (k + 1) n f np := by
  have e : run tb (k + 1) f = gf := by
    funext as s
    show (match tb f with
      | some (.prim g) => g as s
      | some (.df fd) => runB (run tb k) fd as s
      | none => .bad) = _
    rw [ht]
  refine ⟨⟨fa, fd, ps, ?_, hm, F.kp, hb⟩, fun as s h => ?_⟩
  · rw [e]
    exact FnG.walk F S (fun vs H Q E h => by rw [hp]; exact h.1) w'
  · rw [e] at h; exact hl as s h
end
end PV
namespace PV
open PySem PySem.Spec L2
noncomputable def kN : Nat → String
  | 0 => "int" | 1 => "bool" | 2 => "str" | 3 => "tuple" | 4 => "list" | _ => "dict"
end PV
namespace PV
open PySem PySem.Spec L2
end PV
namespace PV
open PySem PySem.Spec L2
section
variable {X : Cx} {xc : XC} {W : WX} {cl : Nat → List Arg → DS → FRes} {a : Expr} {ea : E} {pos p apos cpos : Pos} {i : Nat} {x : Str}
theorem de_popAt (o : Ok X) (hN : X.N[i]? = some x) (hv : Vis X.env.scope x) (ha : DE X xc W cl a ea) (hbase : attributeBase (.Name x p) "pop" X.env (eval (.Name x p) X.env) = eval (.Name x p) X.env := by rfl)
    (hfew : ((backTo cpos (starEach [a] X.env)).all (fun x => !x.1) && (backToKw cpos (keywordEach [] X.env)).all (fun x => x.1.isSome)
      && decide (([a] : List Expr).length + ([] : List Keyword).length + (if ([] : List Keyword).isEmpty then 0 else 1) < 30)) = true := by rfl)
    (hline : (apos.endLine == cpos.line) = true := by rfl) (hs : starEach [a] X.env = (false, eval a X.env) :: starEach [] X.env := by rfl) (hplain : (backTo cpos (starEach [] X.env)).any (·.1) = false := by rfl)
    (hd : (x == ("__debug__" : Str)) = false := by decide) (hcd : (x == ("__classdict__" : Str)) = false := by decide) :
    DE X xc W cl (.Call (.Attribute (.Name x p) "pop" apos) [a] [] cpos) (.mut .popAt i (.cons ea .nil)) :=
  PEimp (pe_bm PySem.F.plainAttrs_list PySem.F.slot_list_pop PySem.F.type_list_pop mt_popAt (pe_var hN hv hd hcd) (da_cons ha da_nil hs) hbase hfew hline hs hplain) fun σ H Q h =>
    mut_ok (o := .popAt) (fun z => nomatch z) h (r := rPopAt) fun g O0 e s H1 F vs rs m p G hp rv hn hf h => by
      have hl := evs_len _ _ _ _ hf
      match rs, hl, rv, h with
      | [r], _, rv, h =>
        obtain ⟨v, rfl, q⟩ := rvs1 rv
        cases r with
        | fl ds => exact h.elim
        | fd t kvs => exact h.elim
        | pl j => exact h.elim
        | dk => exact h.elim
        | v d =>
          cases d with
          | none => exact h.elim
          | bool b => exact h.elim
          | str b => exact h.elim
          | list b => exact h.elim
          | tuple b => exact h.elim
          | dict b => exact h.elim
          | int k =>
            have h : PostE xc X.K W g O0 e σ H1 Q (match e[i]? with
              | some (.ol ds) => match L2.ixN ds.length k with
                | some j => match ds[j]? with
                  | some d => .ok (.v d) ⟨e.set i (.ol (ds.eraseIdx j)), s⟩
                  | none => .bad
                | none => .bad
              | _ => .bad) := h
            cases hi : e[i]? with
            | none => simp only [hi] at h; exact h.elim
            | some sl =>
              cases sl with
              | un => simp only [hi] at h; exact h.elim
              | ex a f => simp only [hi] at h; exact h.elim
              | sh d => simp only [hi] at h; exact h.elim
              | od t k => simp only [hi] at h; exact h.elim
              | dk => simp only [hi] at h; exact h.elim
              | ol ds =>
                simp only [hi] at h
                cases hx : L2.ixN ds.length k with
                | none => simp only [hx] at h; exact h.elim
                | some j =>
                  simp only [hx] at h
                  cases hd : ds[j]? with
                  | none => simp only [hd] at h; exact h.elim
                  | some d =>
                    simp only [hd] at h
                    obtain ⟨p', xs, h1, h2, h3, h4, h5⟩ := G.rep.at' i _ hi
                    rw [hp] at h1; cases h1
                    obtain ⟨y, hy, sy⟩ := Paired.get h5 hd
                    obtain ⟨z1, z2, z3, z4⟩ := ixN_seq hx
                    have sl : xs.length ≤ 16777216 := by rw [← show sizeLine = 16777216 from by rw [sizeLine_eq]]; exact h4
                    have dl : ds.length = xs.length := (Paired.len h5).symm
                    refine ⟨p, xs, k, j, y, rfl, by rw [sh_int.mp q.2], h3, by omega, by omega, by rw [← dl]; exact z1, hy, write_ok G hi hp h3 (Nat.le_trans (len_erase xs j) h4) (Paired.er h5 j) sy h⟩
end
end PV
namespace PV
open PySem PySem.Spec L2
section
variable {X : Cx} {xc : XC} {W : WX} {cl : Nat → List Arg → DS → FRes} {k : Nat} {a b c e : Expr} {ea eb ec : E} {as : Es} {pos p p2 p3 apos cpos : Pos} {n : Str} {j : Nat}
theorem d_popAt (d : Bd X W k) (i : Nat) (ha : DE X xc W cl a ea) (hN : X.N[i]? = some n := by rfl) (hv : Vis X.env.scope n := by first | exact Or.inl rfl | exact Or.inr (Or.inl rfl) | exact Or.inr (Or.inr rfl)) (hbase : attributeBase (.Name n p) "pop" X.env (eval (.Name n p) X.env) = eval (.Name n p) X.env := by rfl)
    (hfew : ((backTo cpos (starEach [a] X.env)).all (fun x => !x.1) && (backToKw cpos (keywordEach [] X.env)).all (fun x => x.1.isSome)
      && decide (([a] : List Expr).length + ([] : List Keyword).length + (if ([] : List Keyword).isEmpty then 0 else 1) < 30)) = true := by rfl)
    (hline : (apos.endLine == cpos.line) = true := by rfl) (hs : starEach [a] X.env = (false, eval a X.env) :: starEach [] X.env := by rfl) (hplain : (backTo cpos (starEach [] X.env)).any (·.1) = false := by rfl)
    (hd : (n == ("__debug__" : Str)) = false := by decide) (hcd : (n == ("__classdict__" : Str)) = false := by decide) : DE X xc W cl (.Call (.Attribute (.Name n p) "pop" apos) [a] [] cpos) (.mut .popAt i (.cons ea .nil)) :=
  de_popAt d.ok hN hv ha hbase hfew hline hs hplain hd hcd
end
end PV
namespace PV
open PySem PySem.Spec PyProof.Rows L2
noncomputable def rSortD (K : PySem.W.Frag) : List V → Hp → VK → Prop := fun xs H Q => ∃ (a : Addr) (bs : List (V × PyData)), xs = [.ref a] ∧ SqL K H a (bs.map Prod.fst) ∧ (∀ b ∈ bs, Dp K H b.1 b.2) ∧ PySem.W.AllAlike (bs.map Prod.snd) ∧ Srtb (bs.map Prod.snd) ∧ (∀ b ∈ bs, b.2.depth ≤ 20) ∧
  ∀ p, H p = none → Q (.ref p) (upd H p (.lst ((bs.mergeSort (PySem.W.dataLe false Prod.snd)).map Prod.fst)))
noncomputable def rSortT (K : PySem.W.Frag) : List V → Hp → VK → Prop := fun xs H Q => ∃ (a : Addr) (bs : List (V × PyData)), xs = [.ref a] ∧ SqT K H a (bs.map Prod.fst) ∧ (∀ b ∈ bs, Dp K H b.1 b.2) ∧ PySem.W.AllAlike (bs.map Prod.snd) ∧ Srtb (bs.map Prod.snd) ∧ (∀ b ∈ bs, b.2.depth ≤ 20) ∧
  ∀ p, H p = none → Q (.ref p) (upd H p (.lst ((bs.mergeSort (PySem.W.dataLe false Prod.snd)).map Prod.fst)))
noncomputable def rSortK (K : PySem.W.Frag) : List V → Hp → VK → Prop := fun xs H Q => ∃ (a : Addr) (kvs : List (Key × V)) (ks : List Int), xs = [.ref a] ∧ Rd H a (.dK kvs) ∧ kvs.map (·.1) = ks.map Sum.inl ∧ ks.length < 64 ∧
  ∀ p, H p = none → Q (.ref p) (upd H p (.lst ((ks.mergeSort fun a b => decide (a ≤ b)).map V.int)))
/-- the keys of a dict whose keys are tuples -/
noncomputable def rSortKT (K : PySem.W.Frag) : List V → Hp → VK → Prop := fun xs H Q => ∃ (a : Addr) (kvs : List (List Key × V)), xs = [.ref a] ∧ H a = some (.dT kvs) ∧ PySem.W.AllAlike (kvs.map fun p => keyT p.1) ∧ Srtb (kvs.map fun p => keyT p.1) ∧ (∀ d ∈ kvs.map (fun p => keyT p.1), d.depth ≤ 20) ∧
  ∀ bs : List (V × PyData), bs.map Prod.snd = kvs.map (fun p => keyT p.1) → (∀ b ∈ bs, ∃ (c : Addr) (ks : List Key), b.1 = .ref c ∧ b.2 = keyT ks ∧ H c = some (.tup (ks.map kV)) ∧ ks.length ≤ sizeLine) → ∀ p, H p = none → Q (.ref p) (upd H p (.lst ((bs.mergeSort (PySem.W.dataLe false Prod.snd)).map Prod.fst)))
noncomputable def rSortB (K : PySem.W.Frag) : List V → Hp → VK → Prop := fun xs H Q => ((rSortD K xs H Q ∨ rSortT K xs H Q) ∨ rSortK K xs H Q) ∨ rSortKT K xs H Q
theorem each_of {R : Value → V × PyData → Prop} : ∀ {bs : List (V × PyData)} {its : List Value}, Vals (bs.map Prod.fst) its → (∀ b ∈ bs, ∀ v, RelV b.1 v → R v b) → PySem.W.EachIs R its bs
  | [], _, .nil, _ => .nil
  | b :: bs, _, .cons r t, h => .cons (h b List.mem_cons_self _ r) (each_of t fun b hb => h b (List.mem_cons_of_mem _ hb))
theorem vals_each : ∀ {bs : List (V × PyData)} {its : List Value}, PySem.W.EachIs (fun v (b : V × PyData) => RelV b.1 v) its bs → Vals (bs.map Prod.fst) its
  | _, _, .nil => .nil
  | _, _, .cons r t => .cons r (vals_each t)
theorem sorts_one {prog : Program} {w : World} {A : Around} {s : Shared} {vs : List Value} {ds : List PyData} (e : PySem.W.EachIs (fun v d => ∃ as, Reads s.heap v d as) vs ds) (hal : PySem.W.AllAlike ds) (hk : Srtb ds) (hu : ∀ d, d ∈ ds → A.units + d.depth < cLine) : PySem.W.SortsAt prog w A s (PySem.W.dataKind s.heap ds) vs := by
  rcases hk with hk | ⟨h1, h2⟩
  · exact PySem.W.SortsAt.data e hal hk hu
  · have room : ∀ {d d' : PyData}, d ∈ ds → A.units + min d.depth d'.depth < cLine := fun {d d'} hd => Nat.lt_of_le_of_lt (Nat.add_le_add_left (Nat.min_le_left _ _) _) (hu d hd)
    refine ⟨fun v hv => ?_, general', ?_, fun z => ?_⟩
    · obtain ⟨d, hd, as, r⟩ := e.left v hv
      exact ⟨_, PySem.W.dataKind_some hal hd r⟩
    · intro E x y a b Q ha hb hq
      obtain ⟨d, as, hd, ra, rfl⟩ := PySem.W.dataKind_inv ha
      obtain ⟨d', as', hd', rb, rfl⟩ := PySem.W.dataKind_inv hb
      exact PySem.W.oneLt_alike (f := false) (fun z => nomatch z) ra rb (hal d hd d' hd') (h2 d hd) (room hd) hq
    · have := e.length
      omega
theorem sorted_one {prog : Program} {w : World} {A : Around} {s : Shared} {β : Type} {enc : β → PyData} {bs : List β} {vs : List Value} {R : Value → β → Prop} {E : Value → Shared → Prop} {l : Addr} {Q : Value → Shared → Prop} (hl : s.heap.IsList l vs.toArray) (e : PySem.W.EachIs R vs bs) (er : PySem.W.EachIs (fun v b => ∃ as, Reads s.heap v (enc b) as) vs bs) (hal : PySem.W.AllAlike (bs.map enc)) (hk : Srtb (bs.map enc)) (hL : bs.length ≤ sizeLine)
    (hu : ∀ b, b ∈ bs → A.units + 2 + (enc b).depth < cLine) (h : ∀ out, out.length = bs.length → PySem.W.EachIs R out (bs.mergeSort (PySem.W.dataLe false enc)) → Q (.ref (s.heap.objs.size + 1)) { s with heap := sortedAll s.heap vs (List.toArray out) }) :
    wpAny (model prog w) A (call (.builtin "sorted") [.ref l]) Q E s := by
  have er' : PySem.W.EachIs (fun v b => ∃ as, Reads (PySem.W.sortingHeap (PySem.W.copyHeap s.heap vs) (s.heap.objs.size + 1) vs) v (enc b) as) vs bs := er.mono fun _ _ ⟨as, r⟩ => ⟨as, PyProof.Rows.Reads.keeps (fun _ _ => PySem.W.sorting_copy_old) r⟩
  exact PySem.W.sorted_vals hl (sorts_one (s := { s with heap := PySem.W.sortingHeap (PySem.W.copyHeap s.heap vs) (s.heap.objs.size + 1) vs }) (PySem.W.each_map (R := fun v d => ∃ as, Reads (PySem.W.sortingHeap (PySem.W.copyHeap s.heap vs) (s.heap.objs.size + 1) vs) v d as) enc er') hal hk (PySem.W.bound_map hu)) (by rw [e.length]; exact hL)
    (h _ (by rw [PySem.W.sortVals_length false rfl]; exact e.length) (PySem.W.sortVals_data false e er' hal))
theorem collect_tup {prog : Program} {w : World} {A : Around} {s : Shared} {E : Value → Shared → Prop} {l : Addr} {vs : List Value} {Q : List Value → Shared → Prop} (hl : IsTup s.heap l vs.toArray)
    (h : Q vs { s with heap := (s.heap.push (seqObj "list" #[] 0)).update s.heap.objs.size (Obj.mapSeq (· ++ vs.toArray)) }) (hsz : vs.length ≤ sizeLine) :
    wpAny (model prog w) A (collect (.ref l)) Q E s := by
  obtain ⟨o, ho, hc, n, hd⟩ := id hl
  unfold collect
  refine wpAny_bind (wpAny_runValue (codeAny_builtin entry_proto_collect' ?_))
  show wpAny _ _ (do again (.builtin "list.__iadd__" ⟨[← newList [], .ref l], []⟩)) _ _ s
  refine wpAny_bind (wpAny_newList (wpAny_pure ⟨Code.quiet_builtin _ (by decide +kernel), codeAny_builtin entry_list_iadd' ?_⟩))
  show wpAny _ _ (Builtin.List.listExtendWith (.ref s.heap.objs.size) (.ref l) (.ref s.heap.objs.size)) _ _ { s with heap := s.heap.push (seqObj "list" #[] 0) }
  unfold Builtin.List.listExtendWith
  have ho' : (s.heap.push (seqObj "list" #[] 0)).get? l = some o := Heap.get?_push_of_some _ ho
  refine wpAny_bind (wpAny_typeOf (T := "tuple") ⟨o, ho', hc⟩ ?_)
  have ht : (Value.type "tuple" == Value.type "tuple") = true := by rfl
  rw [if_pos (by rw [ht]; simp)]
  refine wpAny_bind (listItems_at ho' hd ?_)
  refine wpAny_bind (listItems_at (xs := #[]) (n := 0) (Heap.get?_push_size _ rfl) rfl ?_)
  rw [if_neg (by simp)]
  refine wpAny_bind (listUpdate_at (xs := #[]) (n := 0) (Heap.get?_push_size _ rfl) rfl ?_ (Nat.zero_le _) (by show (#[] ++ vs.toArray).size ≤ sizeLine + 1; simp only [Array.size_append, List.size_toArray, List.length_nil]; omega))
  refine wpAny_pure ?_
  show wpAny (model prog w) A (do
      let o ← load s.heap.objs.size
      match o.data with
      | .seq xs _ => pure xs.toList
      | _ => unsupported "internal:collect") Q E { s with heap := (s.heap.push (seqObj "list" #[] 0)).update s.heap.objs.size (Obj.mapSeq (· ++ vs.toArray)) }
  refine wpAny_bind (wpAny_load (get?_update_seq (Heap.get?_push_size _ rfl) _) ?_)
  show wpAny _ _ (pure ((#[] : Array Value) ++ vs.toArray).toList) Q E _
  rw [show ((#[] : Array Value) ++ vs.toArray).toList = vs by simp]
  exact wpAny_pure h
theorem sorted_tup {prog : Program} {w : World} {A : Around} {s : Shared} {E : Value → Shared → Prop} {κ : PyProof.Rows.KeyKind} {l : Addr} {vs : List Value} {Q : Value → Shared → Prop} (hl : IsTup s.heap l vs.toArray) (S : PySem.W.SortsAt prog w A.in1.in1 { s with heap := PySem.W.sortingHeap (PySem.W.copyHeap s.heap vs) (s.heap.objs.size + 1) vs } κ vs) (hL : vs.length ≤ sizeLine)
    (h : Q (.ref (s.heap.objs.size + 1)) { s with heap := sortedAll s.heap vs (PySem.W.sortVals κ false vs vs).toArray }) : wpAny (model prog w) A (call (.builtin "sorted") [.ref l]) Q E s := by
  refine Calls.call_function_entry kind_sorted plain_sorted entry_sorted (args_sorted1 _) ?_
  unfold Builtin.«sorted»
  refine wpAny_bind (m := checkCount "sorted" 1 1 _) (wpAny_pure ?_)
  refine wpAny_bind (collect_tup hl ?_ hL)
  refine wpAny_bind (wpAny_newList ?_ hL)
  have hsz : ((s.heap.push (seqObj "list" #[] 0)).update s.heap.objs.size (Obj.mapSeq (· ++ vs.toArray))).objs.size = s.heap.objs.size + 1 := by
    rw [Heap.size_update, size_push']
  show wpAny _ _ _ _ _ { s with heap := PySem.W.copyHeap s.heap vs }
  rw [hsz]
  refine wpAny_bind (wpAny_holding (wpAny_call_entry slot_list_sort ⟨_, PySem.W.copyHeap_at s.heap vs, rfl⟩ entry_list_sort ?body (args_list_sort _)))
  case body =>
    show wpAny (model prog w) A.in1.in1 (Builtin.«list.sort» ⟨[.ref (s.heap.objs.size + 1)], []⟩) _ _ _
    refine PySem.W.list_sort_vals (s := { s with heap := PySem.W.copyHeap s.heap vs }) (PySem.W.copyHeap_at s.heap vs) S hL ⟨_, rfl, wpAny_pure ⟨_, rfl, h⟩⟩
theorem cr_sortT {X : Cx} (o : Ok X) : CallR X (.builtin "sorted") (rSortT X.K) := by
  intro pins s σ H vs us Q I r h
  obtain ⟨a, bs, rfl, hs, hd, hal, hk, hdp, q⟩ := h
  obtain ⟨its, rv, hl, hz⟩ := I.tuple hs
  rw [Vals.ref1 r]
  have un := o.un
  have e : PySem.W.EachIs (fun v (b : V × PyData) => RelV b.1 v) its bs := each_of (R := fun v b => RelV b.1 v) rv fun b _ v h => h
  have er : PySem.W.EachIs (fun v (b : V × PyData) => ∃ as, Reads s.heap v b.2 as) its bs := each_of (R := fun v b => ∃ as, Reads s.heap v b.2 as) rv fun b hb v h => Dp.reads I _ _ _ (hd b hb) h
  have er' : PySem.W.EachIs (fun v (b : V × PyData) => ∃ as, Reads (PySem.W.sortingHeap (PySem.W.copyHeap s.heap its) (s.heap.objs.size + 1) its) v b.2 as) its bs := er.mono fun _ _ ⟨as, r⟩ => ⟨as, PyProof.Rows.Reads.keeps (fun _ _ => PySem.W.sorting_copy_old) r⟩
  have hz' : its.length ≤ sizeLine := by rw [e.length]; simpa using hz
  refine sorted_tup hl (sorts_one (s := { s with heap := PySem.W.sortingHeap (PySem.W.copyHeap s.heap its) (s.heap.objs.size + 1) its }) (PySem.W.each_map (R := fun v d => ∃ as, Reads (PySem.W.sortingHeap (PySem.W.copyHeap s.heap its) (s.heap.objs.size + 1) its) v d as) Prod.snd er') hal hk (PySem.W.bound_map fun b hb => by have := hdp b hb; show X.A.units + 2 + b.2.depth < cLine; omega)) hz' ?_
  have ho : (PySem.W.sortVals (PySem.W.dataKind (PySem.W.sortingHeap (PySem.W.copyHeap s.heap its) (s.heap.objs.size + 1) its) (bs.map Prod.snd)) false its its).length = bs.length := by rw [PySem.W.sortVals_length false rfl]; exact e.length
  have eo := PySem.W.sortVals_data false e er' hal
  obtain ⟨ep, he'⟩ := PyProof.Rows.sortedAll_at s.heap its (PySem.W.sortVals (PySem.W.dataKind (PySem.W.sortingHeap (PySem.W.copyHeap s.heap its) (s.heap.objs.size + 1) its) (bs.map Prod.snd)) false its its).toArray
  have hv := vals_each eo
  exact ⟨.ref _, _, I.laid (t' := s.toks) (o := .lst ((bs.mergeSort (PySem.W.dataLe false Prod.snd)).map Prod.fst)) (fun _ _ => PyProof.Rows.sortedAll_old) (Nat.le_succ _) ⟨by rw [List.length_map, List.length_mergeSort]; simpa using hz, _, ep, hv, he'⟩, rfl, q _ (I.hok.fresh (Nat.le_succ _))⟩
theorem cr_sortD {X : Cx} (o : Ok X) : CallR X (.builtin "sorted") (rSortD X.K) := by
  intro pins s σ H vs us Q I r h
  obtain ⟨a, bs, rfl, hs, hd, hal, hk, hdp, q⟩ := h
  obtain ⟨its, rv, hl, hz⟩ := I.list hs
  rw [Vals.ref1 r]
  have un := o.un
  refine sorted_one (enc := Prod.snd) (R := fun v (b : V × PyData) => RelV b.1 v) hl.isList (each_of rv fun b _ v h => h) (each_of rv fun b hb v h => Dp.reads I _ _ _ (hd b hb) h) hal hk (by simpa using hz) (fun b hb => by have := hdp b hb; omega) fun out ho eo => ?_
  obtain ⟨ep, he'⟩ := PyProof.Rows.sortedAll_at s.heap its out.toArray
  have hv := vals_each eo
  exact ⟨.ref _, _, I.laid (t' := s.toks) (o := .lst ((bs.mergeSort (PySem.W.dataLe false Prod.snd)).map Prod.fst)) (fun _ _ => PyProof.Rows.sortedAll_old) (Nat.le_succ _) ⟨by rw [List.length_map, List.length_mergeSort]; simpa using hz, out, ep, hv, he'⟩, rfl, q _ (I.hok.fresh (Nat.le_succ _))⟩
theorem zip_pair {F : V → PyData → Prop} {xs : List V} {ds : List PyData} (h : Paired F xs ds) : ∃ bs : List (V × PyData), bs.map Prod.fst = xs ∧ bs.map Prod.snd = ds ∧ ∀ b ∈ bs, F b.1 b.2 := by
  induction h with
  | nil => exact ⟨[], rfl, rfl, fun _ z => nomatch z⟩
  | cons r _ ih =>
    obtain ⟨bs, h1, h2, h3⟩ := ih
    exact ⟨(_, _) :: bs, by rw [List.map_cons, h1], by rw [List.map_cons, h2], fun b hb => by
      rcases List.mem_cons.mp hb with rfl | hb
      · exact r
      · exact h3 b hb⟩
theorem pair_zip {F : V → PyData → Prop} : ∀ {bs : List (V × PyData)}, (∀ b ∈ bs, F b.1 b.2) → Paired F (bs.map Prod.fst) (bs.map Prod.snd)
  | [], _ => .nil
  | b :: bs, h => .cons (h b List.mem_cons_self) (pair_zip fun b hb => h b (List.mem_cons_of_mem _ hb))
theorem asc_perm : ∀ {xs ys : List Int}, xs.Pairwise (· ≤ ·) → ys.Pairwise (· ≤ ·) → xs.Perm ys → xs = ys
  | [], ys, _, _, h => (List.nil_perm.mp h).symm
  | x :: xs, [], _, _, h => absurd h.length_eq (by simp)
  | x :: xs, y :: ys, hx, hy, h => by
    have e : x = y := by
      have h1 : x ∈ y :: ys := h.mem_iff.mp List.mem_cons_self
      have h2 : y ∈ x :: xs := h.mem_iff.mpr List.mem_cons_self
      rcases List.mem_cons.mp h1 with r | h1
      · exact r
      rcases List.mem_cons.mp h2 with r | h2
      · exact r.symm
      have := (List.pairwise_cons.mp hx).1 _ h2
      have := (List.pairwise_cons.mp hy).1 _ h1
      omega
    subst e
    rw [asc_perm (List.pairwise_cons.mp hx).2 (List.pairwise_cons.mp hy).2 (List.Perm.cons_inv h)]
theorem sortZ_pw (ks : List Int) : (ks.mergeSort fun a b => decide (a ≤ b)).Pairwise (· ≤ ·) := by
  have := List.pairwise_mergeSort (le := fun a b : Int => decide (a ≤ b)) (fun a b c h1 h2 => by simp only [decide_eq_true_eq] at *; omega) (fun a b => by
    by_cases h : a ≤ b
    · simp [h]
    · have : b ≤ a := by omega
      simp [this]) ks
  exact this.imp fun h => by simpa using h
theorem cr_sortK {X : Cx} (o : Ok X) : CallR X (.builtin "sorted") (rSortK X.K) := by
  intro pins s σ H vs us Q I r h
  obtain ⟨a, kvs, ks, rfl, h1, h2, h3, q⟩ := h
  refine call_sortedDI o.calm pins s σ H [.ref a] us Q I r ⟨a, kvs, ks, rfl, h1, h2, h3, fun ys p hp hs np => ?_⟩
  rw [asc_perm hs (sortZ_pw ks) (hp.trans (List.mergeSort_perm _ _).symm)]
  exact q p np
theorem sh_keys {K : PySem.W.Frag} {O : AP} {H : Hp} : ∀ ks : List Key, ShA K O H (ks.map kV) (ks.map keyD)
  | [] => .nil
  | .inl i :: ks => .cons (sh_int.mpr rfl) (sh_keys ks)
  | .inr i :: ks => .cons (sh_str.mpr rfl) (sh_keys ks)
theorem nodA_keys : ∀ ks : List Key, nodA (ks.map keyD) = true
  | [] => rfl
  | .inl i :: ks => by simp [nodA, nod, keyD, nodA_keys ks]
  | .inr i :: ks => by simp [nodA, nod, keyD, nodA_keys ks]
theorem sh_keyT {K : PySem.W.Frag} {O : AP} {H : Hp} {c : Addr} {ks : List Key} (h : H c = some (.tup (ks.map kV))) (hl : ks.length ≤ sizeLine) : Sh K O H (.ref c) (keyT ks) :=
  sh_tuple.mpr ⟨c, ks.map kV, rfl, h, by rw [List.length_map]; exact hl, sh_keys ks⟩
theorem kt_all {K : PySem.W.Frag} {P : Program} {w : World} {H : Hp} {h : Heap} (ok : HOk P w H h) : ∀ {kvs : List (List Key × V)} {xs : List (List Key × Addr × Value)}, KT H kvs xs → xs.map (fun y => keyT y.1) = kvs.map (fun p => keyT p.1) ∧ ∀ y ∈ xs, H y.2.1 = some (.tup (y.1.map kV)) ∧ y.1.length ≤ sizeLine
  | _, _, .nil => ⟨rfl, fun _ z => nomatch z⟩
  | _, _, .cons r t => by
    obtain ⟨h1, h2⟩ := kt_all (K := K) ok t
    obtain ⟨r1, r2, _⟩ := r
    refine ⟨by rw [List.map_cons, List.map_cons, h1, r1], fun y hy => ?_⟩
    rcases List.mem_cons.mp hy with rfl | hy
    · rw [r1] at r2
      obtain ⟨z, _⟩ := (show ObjOk P w H h _ (.tup _) from ok _ _ r2)
      exact ⟨r2, by rw [List.length_map] at z; exact z⟩
    · exact h2 y hy
theorem cr_sortKT {X : Cx} (o : Ok X) : CallR X (.builtin "sorted") (rSortKT X.K) := by
  intro pins s σ H vs us Q I r h
  obtain ⟨a, kvs, rfl, hd, hal, hk, hdp, q⟩ := h
  obtain ⟨u, eu, rx⟩ := vals1 r
  subst eu
  cases rx
  have un := o.un
  obtain ⟨z, lo, xs, rel, dd⟩ := dt_of I.hok hd
  obtain ⟨es, ep, hr, hz, he⟩ := dd.raw
  obtain ⟨k1, k2⟩ := kt_all (K := X.K) I.hok rel
  have hxl : xs.length ≤ sizeLine := by rw [← Paired.length rel]; exact z
  refine Calls.call_function_entry PyProof.Rows.kind_sorted PyProof.Rows.plain_sorted PyProof.Rows.entry_sorted (PyProof.Rows.args_sorted1 _) ?_
  unfold Builtin.«sorted»
  refine wpAny_bind (m := checkCount "sorted" 1 1 _) (wpAny_pure ?_)
  refine wpAny_bind (PySem.W.kdu_collect (A := X.A.in1) (PySem.KdlSrc.rawDict (es := es) (ep := ep) lo) (I.ok.hd o.calm) hr (by rw [hz]; exact hxl) fun h' tk acc hk' hacc => ?_)
  have hal2 : acc.toList.length = xs.length := by rw [Array.length_toList, hacc.1, hz]
  have hbs : acc.toList = xs.map fun y => Value.ref y.2.1 := by
    refine List.ext_getElem (by rw [hal2, List.length_map]) fun j h1 h2 => ?_
    have e1 : acc[j]? = some acc.toList[j] := by rw [← Array.getElem?_toList]; exact List.getElem?_eq_getElem h1
    obtain ⟨hi, e2⟩ := hacc.2 j _ e1
    obtain ⟨y, e3, e4, _⟩ := he j hi
    rw [e2, e4, List.getElem_map]
    rw [List.getElem?_eq_getElem (by rw [← hal2]; exact h1)] at e3
    rw [Option.some.inj e3]
  have I1 : Inv X pins σ H { s with heap := h', toks := tk } := I.kept hk'
  let bs : List (V × PyData) := xs.map fun y => (V.ref y.2.1, keyT y.1)
  have hb2 : bs.map Prod.snd = kvs.map (fun p => keyT p.1) := by rw [← k1, List.map_map]; rfl
  have hb3 : ∀ b ∈ bs, ∃ (c : Addr) (ks : List Key), b.1 = .ref c ∧ b.2 = keyT ks ∧ H c = some (.tup (ks.map kV)) ∧ ks.length ≤ sizeLine := fun b hb => by
    obtain ⟨y, hy, rfl⟩ := List.mem_map.mp hb
    exact ⟨_, _, rfl, rfl, (k2 y hy).1, (k2 y hy).2⟩
  have rv : Vals (bs.map Prod.fst) acc.toList := by
    rw [hbs, List.map_map]
    have : ∀ l : List (List Key × Addr × Value), Vals (l.map (Prod.fst ∘ fun y => ((V.ref y.2.1, keyT y.1) : V × PyData))) (l.map fun y => Value.ref y.2.1) := fun l => by
      induction l with
      | nil => exact .nil
      | cons y l ih => exact .cons rfl ih
    exact this xs
  have e : PySem.W.EachIs (fun v (b : V × PyData) => RelV b.1 v) acc.toList bs := each_of (R := fun v b => RelV b.1 v) rv fun b _ v h => h
  have er : PySem.W.EachIs (fun v (b : V × PyData) => ∃ as, Reads h' v b.2 as) acc.toList bs := each_of (R := fun v b => ∃ as, Reads h' v b.2 as) rv fun b hb v h => by
    obtain ⟨c, ks, e1, e2, e3, e4⟩ := hb3 b hb
    refine Dp.reads I1 _ _ _ ?_ h
    rw [e1, e2]
    exact Sh.dp (O := fun _ => False) (by show nodA (ks.map keyD) = true; exact nodA_keys ks) (sh_keyT e3 e4)
  have hlen : bs.length = xs.length := List.length_map ..
  refine wpAny_bind (wpAny_newList ?_ (by rw [hal2]; exact hxl))
  have hoL : (h'.push (seqObj "list" acc.toList.toArray 0)).get? h'.objs.size = some (seqObj "list" acc.toList.toArray 0) := Heap.get?_push_size _ rfl
  show wpAny _ _ _ _ _ { s with heap := h'.push (seqObj "list" acc.toList.toArray 0), toks := tk }
  have old : ∀ b ob, h'.get? b = some ob → (PySem.W.sortingHeap (h'.push (seqObj "list" acc.toList.toArray 0)) h'.objs.size acc.toList).get? b = some ob := fun b ob eb =>
    PySem.W.sortingHeap_old (Nat.ne_of_lt (Heap.lt_size eb)) (Heap.get?_push_of_some _ eb)
  have er' : PySem.W.EachIs (fun v (b : V × PyData) => ∃ as, Reads (PySem.W.sortingHeap (h'.push (seqObj "list" acc.toList.toArray 0)) h'.objs.size acc.toList) v b.2 as) acc.toList bs := er.mono fun _ _ ⟨as, r⟩ => ⟨as, PyProof.Rows.Reads.keeps (fun b hb => old b _ ) r⟩
  have S := sorts_one (prog := X.prog) (w := X.w) (A := X.A.in1.in1) (s := { s with heap := PySem.W.sortingHeap (h'.push (seqObj "list" acc.toList.toArray 0)) h'.objs.size acc.toList, toks := tk }) (PySem.W.each_map (R := fun v d => ∃ as, Reads (PySem.W.sortingHeap (h'.push (seqObj "list" acc.toList.toArray 0)) h'.objs.size acc.toList) v d as) Prod.snd er') (by rw [hb2]; exact hal) (by rw [hb2]; exact hk) (fun d hd => by
    rw [hb2] at hd
    have := hdp d hd
    show X.A.units + 2 + d.depth < cLine
    omega)
  refine wpAny_bind (wpAny_holding (wpAny_call_entry PyProof.Rows.slot_list_sort ⟨_, hoL, rfl⟩ PyProof.Rows.entry_list_sort
    (PySem.W.list_sort_vals (s := { s with heap := h'.push (seqObj "list" acc.toList.toArray 0), toks := tk }) hoL S (by rw [hal2]; exact hxl) ⟨_, rfl, ?_⟩) (PyProof.Rows.args_list_sort _)))
  have ho : (PySem.W.sortVals (PySem.W.dataKind (PySem.W.sortingHeap (h'.push (seqObj "list" acc.toList.toArray 0)) h'.objs.size acc.toList) (bs.map Prod.snd)) false acc.toList acc.toList).length = bs.length := by rw [PySem.W.sortVals_length false rfl]; exact e.length
  have eo := PySem.W.sortVals_data false e er' (by rw [hb2]; exact hal)
  obtain ⟨ep', he'⟩ := PyProof.Rows.sortedHeap_at (vs := acc.toList) (out := (PySem.W.sortVals (PySem.W.dataKind (PySem.W.sortingHeap (h'.push (seqObj "list" acc.toList.toArray 0)) h'.objs.size acc.toList) (bs.map Prod.snd)) false acc.toList acc.toList).toArray) hoL
  have hv := vals_each eo
  refine wpAny_pure ⟨_, rfl, .ref h'.objs.size, _, I1.laid (t' := tk) (o := .lst ((bs.mergeSort (PySem.W.dataLe false Prod.snd)).map Prod.fst)) (fun b u eb => ?_) (Nat.le_refl _) ⟨by rw [List.length_map, List.length_mergeSort, hlen]; exact hxl, _, ep', hv, he'⟩, rfl, q bs hb2 hb3 _ (I1.hok.fresh (Nat.le_refl _))⟩
  have hb : b < h'.objs.size := Heap.lt_size eb
  rw [PyProof.Rows.sortedHeap_old (Nat.ne_of_lt hb) (by rw [size_push']; exact Nat.lt_succ_of_lt hb)]
  exact Heap.get?_push_of_some _ eb
theorem cr_sortB {X : Cx} (o : Ok X) : CallR X (.builtin "sorted") (rSortB X.K) := by
  intro pins s σ H vs us Q I r h
  rcases h with ((h | h) | h) | h
  · exact cr_sortD o pins s σ H vs us Q I r h
  · exact cr_sortT o pins s σ H vs us Q I r h
  · exact cr_sortK o pins s σ H vs us Q I r h
  · exact cr_sortKT o pins s σ H vs us Q I r h
theorem v_sorted {K : PySem.W.Frag} : OpV K (rSortB K) sortedD := by
  intro O H vs ds z Q hp hz hQ
  unfold sortedD at hz
  split at hz
  · obtain ⟨x, rfl, h1⟩ := p1 hp
    rename_i xs
    unfold srt at hz
    split at hz
    · rename_i hc
      cases hz
      obtain ⟨a, us, rfl, l, hl, q⟩ := t_list h1
      obtain ⟨bs, rfl, rfl, hb⟩ := zip_pair q
      refine .inl <| .inl <| .inl ⟨a, bs, rfl, SqL.of l, fun b h => (hb b h).dp (hc.2.2 _ (List.mem_map_of_mem h)).1, hc.1, hc.2.1, fun b h => (hc.2.2 _ (List.mem_map_of_mem h)).2, ?_⟩
      refine fin_l hQ (by rw [List.length_map, List.length_mergeSort]; simpa using hl) ?_
      have e : (bs.map Prod.snd).mergeSort (PySem.W.dataLe false id) = (bs.mergeSort (PySem.W.dataLe false Prod.snd)).map Prod.snd := (List.map_mergeSort (r := PySem.W.dataLe false Prod.snd) (s := PySem.W.dataLe false id) (f := Prod.snd) (l := bs) fun a _ b _ => rfl).symm
      rw [e]
      exact pair_zip fun b h => hb b (List.mem_mergeSort.mp h)
    · cases hz
  · obtain ⟨x, rfl, h1⟩ := p1 hp
    rename_i xs
    unfold srt at hz
    split at hz
    · rename_i hc
      cases hz
      obtain ⟨a, us, rfl, l, hl, q⟩ := t_tup h1
      obtain ⟨bs, rfl, rfl, hb⟩ := zip_pair q
      refine .inl <| .inl <| .inr ⟨a, bs, rfl, l, fun b h => (hb b h).dp (hc.2.2 _ (List.mem_map_of_mem h)).1, hc.1, hc.2.1, fun b h => (hc.2.2 _ (List.mem_map_of_mem h)).2, ?_⟩
      refine fin_l hQ (by rw [List.length_map, List.length_mergeSort]; simpa using hl) ?_
      have e : (bs.map Prod.snd).mergeSort (PySem.W.dataLe false id) = (bs.mergeSort (PySem.W.dataLe false Prod.snd)).map Prod.snd := (List.map_mergeSort (r := PySem.W.dataLe false Prod.snd) (s := PySem.W.dataLe false id) (f := Prod.snd) (l := bs) fun a _ b _ => rfl).symm
      rw [e]
      exact pair_zip fun b h => hb b (List.mem_mergeSort.mp h)
    · cases hz
  · obtain ⟨x, rfl, h1⟩ := p1 hp
    rename_i kvs
    split at hz
    · rename_i ns e
      split at hz
      · rename_i hc
        cases hz
        obtain ⟨a, ob, rfl, ho, hd⟩ := t_dict h1
        have hk : ∃ ks, ob = .dK ks ∧ ks.map (·.1) = ns.map Sum.inl := by
          rcases hd with ⟨ks, rfl, pq⟩ | ⟨ks, rfl, pq⟩
          · refine ⟨ks, rfl, ?_⟩
            clear hc hQ ho h1 hp
            induction pq generalizing ns with
            | nil => cases e; rfl
            | cons r _ ih =>
              rename_i p q ks kvs _
              rw [List.map_cons, r.1] at e
              cases hp1 : p.1 with
              | inl i =>
                rw [hp1] at e
                cases e2 : toInts (kvs.map (·.1)) with
                | none => simp [keyD, toInts, e2] at e
                | some ms =>
                  simp [keyD, toInts, e2] at e
                  subst e
                  rw [List.map_cons, hp1, ih _ e2]; rfl
              | inr i => rw [hp1] at e; simp [keyD, toInts] at e
          · cases pq with
            | nil => cases e; simp at hc
            | cons r _ =>
              rw [List.map_cons, r.1] at e
              simp [keyT, toInts] at e
        obtain ⟨ks, rfl, hk⟩ := hk
        refine .inl <| .inr ⟨a, ks, ns, rfl, .inl ho, hk, hc.2, fin_l hQ ?_ ?_⟩
        · rw [List.length_map, List.length_mergeSort, sizeLine_eq]; omega
        · have : ∀ l : List Int, ShA K O H (l.map V.int) (l.map PyData.int) := fun l => by
            induction l with
            | nil => exact .nil
            | cons y l ih => exact .cons (sh_int.mpr rfl) ih
          exact this _
      · cases hz
    · rename_i e
      split at hz
      · rename_i hkt
        unfold srt at hz
        split at hz
        · rename_i hc
          cases hz
          obtain ⟨a, ob, rfl, ho, hd⟩ := t_dict h1
          have hk : ∃ ks, ob = .dT ks ∧ kvs.map (·.1) = ks.map (fun p => keyT p.1) := by
            rcases hd with ⟨ks, rfl, pq⟩ | ⟨ks, rfl, pq⟩
            · cases pq with
              | nil => simp [toInts] at e
              | @cons p q ks kvs r _ =>
                have : keyOk true q.1 = true := by
                  have := hkt.1
                  unfold keysT at this
                  rw [List.all_cons, Bool.and_eq_true] at this
                  exact this.1
                rw [r.1] at this
                cases hp1 : p.1 <;> (rw [hp1] at this; simp [keyD, keyOk] at this)
            · refine ⟨ks, rfl, ?_⟩
              clear hc hkt e hQ ho h1 hp
              induction pq with
              | nil => rfl
              | cons r _ ih => rw [List.map_cons, List.map_cons, ih, r.1]
          obtain ⟨ks, rfl, hk⟩ := hk
          rw [hk] at hc hQ
          refine .inr ⟨a, ks, rfl, ho, hc.1, hc.2.1, fun d hd => (hc.2.2 d hd).2, fun bs b1 b2 p np => fin_l hQ ?_ ?_ p np⟩
          · have e1 := congrArg List.length b1
            have e2 := congrArg List.length hk
            simp only [List.length_map] at e1 e2
            rw [List.length_map, List.length_mergeSort, e1, ← e2, ← LIM_eq]
            exact hkt.2
          · rw [← b1]
            have e : (bs.map Prod.snd).mergeSort (PySem.W.dataLe false id) = (bs.mergeSort (PySem.W.dataLe false Prod.snd)).map Prod.snd := (List.map_mergeSort (r := PySem.W.dataLe false Prod.snd) (s := PySem.W.dataLe false id) (f := Prod.snd) (l := bs) fun a _ b _ => rfl).symm
            rw [e]
            refine pair_zip fun b h => ?_
            obtain ⟨c, kk, h1, h2, h3, h4⟩ := b2 b (List.mem_mergeSort.mp h)
            rw [h1, h2]
            exact sh_keyT h3 h4
        · cases hz
      · cases hz
  · cases hz
theorem d_sorted {X : Cx} {xc : XC} {W : WX} {cl : Nat → List Arg → DS → FRes} {k : Nat} {e : Expr} {as : Es} {p pos : Pos} (d : Bd X W k) (hm : X.mg "sorted" = none) (ha : DA X xc W cl [e] as) (hg : Gl X "sorted" := by rfl) (he : starEach [e] X.env = [(false, eval e X.env)] := by rfl) :
    DE X xc W cl (.Call (.Name "sorted" p) [e] [] pos) (.op .sorted as) := de_blt (cr_sortB d.ok) (.of v_sorted) hg hm (by rfl) ha (he := he)
end PV
namespace PV
open PySem PySem.Spec L2 RZ
end PV
namespace PV
open PySem PySem.Spec L2
section
variable {X : Cx} {xc : XC} {W : WX} {cl : Nat → List Arg → DS → FRes} {k : Nat} {a : Expr} {ea : E} {p p2 pos pos2 : Pos}
theorem d_lrng (d : Bd X W k) (hm : X.mg "list" = none) (hm2 : X.mg "range" = none) (ha : DE X xc W cl a ea) (hg : Gl X "list" := by rfl) (hg2 : Gl X "range" := by rfl) (hs : starEach [a] X.env = (false, eval a X.env) :: starEach [] X.env := by rfl)
    (na : starEach [Expr.Call (.Name "range" p2) [a] [] pos2] X.env = (false, eval (.Call (.Name "range" p2) [a] [] pos2) X.env) :: starEach [] X.env := by rfl) :
    DE X xc W cl (.Call (.Name "list" p) [.Call (.Name "range" p2) [a] [] pos2] [] pos) (.op .lrng (.cons ea .nil)) :=
  PEimp (pe_listRg d.ok.calm hg hm (prg_1 hg2 hm2 ha hs) na) fun σ H Q h => (one_ok ((OpE.of v_lrng).use h)).mono fun x H1 h => by
    obtain ⟨x', e, n, h1, h2, h3⟩ := h
    cases e
    exact ⟨n, by rw [h1], h2, h3⟩
end
end PV
namespace PV
open PySem PySem.Spec L2
theorem PSor {X : Cx} {st : Stmt} {t t' : TS} (h : PS X st t) (h' : PS X st t') : PS X st (fun D σ H => t D σ H ∨ t' D σ H) := ⟨fun pins s σ H D I z => z.elim (h.run pins s σ H D I) (h'.run pins s σ H D I)⟩
section
variable {xc : XC} {K : PySem.W.Frag} {W : WX} {cl : Nat → List Arg → DS → FRes} {g : Gd} {O0 : AP} {e : Env} {s : DS} {σ : L2.St} {H : Hp} {i : Nat}
/-- what slot i owns is written, as a statement -/
theorem writeS {A : Nat → Bool} {sl u : Slot} {p : Addr} {o o' : HO} (G : Good K g O0 e s σ H) (hi : e[i]? = some u) (hu : isOwn (some u) = true) (hs : isOwn (some sl) = true) (hp : σ[i]? = some (some (.ref p))) (ho : H p = some o) (st : still o = false)
    (new : Keep (own e σ) H (upd H p o') → SlotR K g O0 (Ow O0 e σ) σ (upd H p o') i sl) : StS K g O0 e σ H A ⟨e.set i sl, s⟩ σ (upd H p o') := by
  have op : own e σ p := ⟨i, by rw [hi]; exact hu, hp⟩
  have oe : ∀ a, own (e.set i sl) σ a ↔ own e σ a := fun a => own_eq (s := sl) hi (by rw [hs, hu])
  have kw : Keep (own e σ) H (upd H p o') := Keep.write ho st op
  exact ⟨kw.mono fun a z => .inl z, fun a z => .inl ((oe a).mp z), G.rep.write hi hu hs hp new, G.dk.keep kw fun a z q => (G.rep.owned z).1 (G.dk0 a q), fun _ _ => rfl⟩
open Classical in
theorem put_rel {κ : Type} [DecidableEq κ] {f : κ → PyData} (inj : ∀ a b, f a = f b → a = b) {F : V → PyData → Prop} {k : κ} {v : V} {d : PyData} (hv : F v d) {ks : List (κ × V)} {kvs : List (PyData × PyData)}
    (h : Paired (fun p q => q.1 = f p.1 ∧ F p.2 q.2) ks kvs) : Paired (fun (p : κ × V) (q : PyData × PyData) => q.1 = f p.1 ∧ F p.2 q.2) (putK ks k v) (putD kvs (f k) d) := by
  have ke : ∀ {a : κ} {b : PyData}, b = f a → (a = k ↔ b = f k) := fun {a b} e => ⟨fun z => by rw [e, z], fun z => inj _ _ (by rw [← e, z])⟩
  have ha : (ks.any fun kv => decide (kv.1 = k)) = kvs.any fun p => decide (p.1 = f k) := by
    induction h with
    | nil => rfl
    | cons r _ ih => rw [List.any_cons, List.any_cons, ih, decide_eq_decide.mpr (ke r.1)]
  unfold putK putD
  rw [← ha]
  by_cases z : (ks.any fun kv => decide (kv.1 = k)) = true
  · rw [if_pos z, if_pos z]
    clear ha z
    induction h with
    | nil => exact .nil
    | @cons a b as bs r _ ih =>
      refine .cons ?_ ih
      by_cases q : a.1 = k
      · show (if b.1 = f k then (f k, d) else b).1 = f (if a.1 = k then (a.1, v) else a).1 ∧ F (if a.1 = k then (a.1, v) else a).2 (if b.1 = f k then (f k, d) else b).2
        rw [if_pos q, if_pos ((ke r.1).mp q)]
        exact ⟨by rw [q], hv⟩
      · show (if b.1 = f k then (f k, d) else b).1 = f (if a.1 = k then (a.1, v) else a).1 ∧ F (if a.1 = k then (a.1, v) else a).2 (if b.1 = f k then (f k, d) else b).2
        rw [if_neg q, if_neg fun w => q ((ke r.1).mpr w)]
        exact r
  · rw [if_neg z, if_neg z]
    exact Paired.app h (.cons ⟨rfl, hv⟩ .nil)
/-- x[k] = v -/
theorem sub_ok {ik ie : E} {D : Ends} (h : tS xc K W (asgS (.sub i ik ie)) (fun m => ex cl (.sub i ik ie) m) D σ H) :
    tAsg (tE xc K W fun m => ev cl ie m) (gSub (tVar i) (tE xc K W fun m => ev cl ik m) rSetL) D σ H ∨ sDPut (tVar i) (tE xc K W fun m => ev cl ik m) (tE xc K W fun m => ev cl ie m) D σ H := by
  obtain ⟨g, O0, e, s, G, h⟩ := h
  have h : PostS xc K W g O0 e σ H (asgS (.sub i ik ie)) D (match ev cl ie ⟨e, s⟩ with
    | .ok r m1 => match esc m1.e r with
      | some (d, e1) => if isOwn e1[i]? = true then match ev cl ik ⟨e1, m1.s⟩ with
          | .ok (.v dk) m2 => match m2.e[i]?, dk with
            | some (.ol ds), .int j => match L2.ixN ds.length j with
              | some n => .ok .nx ⟨m2.e.set i (.ol (ds.set n d)), m2.s⟩
              | none => .bad
            | some (.od t kvs), k => if keyOk t k = true ∧ kvs.length < LIM then .ok .nx ⟨m2.e.set i (.od t (putD kvs k d)), m2.s⟩ else .bad
            | _, _ => .bad
          | .ok _ _ => .bad
          | .rz c f m2 => .rz c f m2
          | .bad => .bad
        else .bad
      | none => .bad
    | .rz c f m1 => .rz c f m1
    | .bad => .bad) := h
  cases hf : ev cl ie ⟨e, s⟩ with
  | bad => simp only [hf] at h; exact h.elim
  | rz c f m1 =>
    simp only [hf] at h
    refine .inl ⟨g, O0, e, s, G, ?_⟩
    show PostE xc K W g O0 e σ H _ (ev cl ie ⟨e, s⟩)
    rw [hf]
    exact fun cls dd H' t x => h cls dd σ H' (t.ss G) x
  | ok r m1 =>
    simp only [hf] at h
    cases he : esc m1.e r with
    | none => simp only [he] at h; exact h.elim
    | some q =>
      obtain ⟨d, e1⟩ := q
      simp only [he] at h
      by_cases ow : isOwn e1[i]? = true
      rotate_left
      · rw [if_neg ow] at h; exact h.elim
      rw [if_pos ow] at h
      -- the way to the store, for any end
      have way : ∀ Fin : V → V → V → Hp → Prop, (∀ m2 H1 F v, ∀ dk, ev cl ik ⟨e1, m1.s⟩ = .ok (.v dk) m2 → ∀ p y H3 F3, Good K g O0 m2.e m2.s σ H3 → StS K g O0 e σ H (asgS (.sub i ik ie)) m2 σ H3 → σ[i]? = some (some (.ref p)) → Sh K (Ow O0 m2.e σ) H3 v d → Sh K (Ow O0 m2.e σ) H3 y dk → Fin (.ref p) v y H3) →
          (∀ r m2, ev cl ik ⟨e1, m1.s⟩ = .ok r m2 → ∃ dk, r = .v dk) → (∀ c f m2, ev cl ik ⟨e1, m1.s⟩ = .rz c f m2 → PostS xc K W g O0 e σ H (asgS (.sub i ik ie)) D (.rz c f m2)) → ev cl ik ⟨e1, m1.s⟩ ≠ .bad →
          tE xc K W (fun m => ev cl ie m) σ H fun v H1 => tVar i σ H1 fun o H2 => tE xc K W (fun m => ev cl ik m) σ H2 fun y H3 => Fin o v y H3 := fun Fin hF hv hr hb => by
        refine ⟨g, O0, e, s, G, ?_⟩
        show PostE xc K W g O0 e σ H _ (ev cl ie ⟨e, s⟩)
        rw [hf]
        intro v H1 F t rv
        obtain ⟨r2, o2, s2⟩ := esc_ok t.repO rv (fun p hp => ⟨(t.new p hp).2.1, (t.new p hp).2.2.1⟩) he
        have G1 := G.step0 t
        have te := stp_esc G1 r2 o2
        have G2 := G1.step0 te
        have t2 : StS K g O0 e σ H (asgS (.sub i ik ie)) ⟨e1, m1.s⟩ σ H1 := (t.ss G).trans (te.ss G1)
        obtain ⟨p, hp⟩ : ∃ p, σ[i]? = some (some (.ref p)) := by
          rcases isOwn_cases ow with ⟨ds, z⟩ | ⟨tt, kvs, z⟩
          · obtain ⟨p, _, z1, _⟩ := r2.at' i _ z; exact ⟨p, z1⟩
          · obtain ⟨p, _, z1, _⟩ := r2.at' i _ z; exact ⟨p, z1⟩
        refine ⟨_, hp, g, O0, e1, m1.s, G2, ?_⟩
        show PostE xc K W g O0 e1 σ H1 _ (ev cl ik ⟨e1, m1.s⟩)
        cases hk : ev cl ik ⟨e1, m1.s⟩ with
        | bad => exact hb hk
        | rz c f m2 =>
          have := PostS.step t2 (hr c f m2 hk)
          exact fun cls dd H' t x => this cls dd σ H' (t.ss G2) x
        | ok rk m2 =>
          obtain ⟨dk, rfl⟩ := hv _ _ hk
          intro y H3 F3 t3 rv3
          exact hF m2 H1 F v dk hk p y H3 F3 (G2.step0 t3) (t2.trans (t3.ss G2)) hp (s2.go t3.keep G2.mu fun a z => .inl (z.imp id (t3.own a))) (rv3.2.weak fun a z => z.imp .inl id)
      cases hk : ev cl ik ⟨e1, m1.s⟩ with
      | bad => simp only [hk] at h; exact h.elim
      | rz c f m2 =>
        simp only [hk] at h
        exact .inl (way (fun o v y H3 => rSetL o y v H3 fun H4 => D.nx σ H4) (fun m2 H1 F v dk z => by rw [hk] at z; cases z) (fun r m2 z => by rw [hk] at z; cases z) (fun c f m2 z => by rw [hk] at z; cases z; exact h) (by rw [hk]; simp))
      | ok rk m2 =>
        cases rk with
        | fl ds => simp only [hk] at h; exact h.elim
        | fd t kvs => simp only [hk] at h; exact h.elim
        | pl j => simp only [hk] at h; exact h.elim
        | dk => simp only [hk] at h; exact h.elim
        | v dk =>
          simp only [hk] at h
          have hv : ∀ r m2, ev cl ik ⟨e1, m1.s⟩ = .ok r m2 → ∃ dk, r = .v dk := fun r m2 z => by rw [hk] at z; cases z; exact ⟨_, rfl⟩
          have hr : ∀ c f m2, ev cl ik ⟨e1, m1.s⟩ = .rz c f m2 → PostS xc K W g O0 e σ H (asgS (.sub i ik ie)) D (.rz c f m2) := fun c f m2 z => by rw [hk] at z; cases z
          have hb : ev cl ik ⟨e1, m1.s⟩ ≠ .bad := by rw [hk]; simp
          cases hi : m2.e[i]? with
          | none => simp only [hi] at h; exact h.elim
          | some sl =>
            cases sl with
            | un => simp only [hi] at h; exact h.elim
            | ex a f => simp only [hi] at h; exact h.elim
            | sh d' => simp only [hi] at h; exact h.elim
            | dk => simp only [hi] at h; exact h.elim
            | od tt kvs =>
              simp only [hi] at h
              by_cases hkk : keyOk tt dk = true ∧ kvs.length < LIM
              rotate_left
              · rw [if_neg hkk] at h; exact h.elim
              rw [if_pos hkk] at h
              refine .inr (way (fun o v y H3 => ∃ a H4, o = .ref a ∧ DPut H3 a y v H4 ∧ D.nx σ H4) (fun m2' H1 F v dk' z p y H3 F3 G3 t3 hp sv sy => ?_) hv hr hb)
              rw [hk] at z; cases z
              obtain ⟨p', o, z1, z2, z3, z5⟩ := G3.rep.at' i _ hi
              rw [hp] at z1; cases z1
              cases tt with
              | false =>
                obtain ⟨ks, rfl, q5⟩ := z5
                cases hK : toKey dk with
                | none => have := hkk.1; simp [keyOk, hK] at this
                | some kk =>
                  obtain ⟨rfl, rfl⟩ := toKey_sh hK sy
                  refine ⟨p, _, rfl, .inl ⟨ks, kk, z3, rfl, by rw [Paired.len q5, ← LIM_eq]; exact hkk.2, rfl⟩, ?_⟩
                  have st := writeS (A := asgS (.sub i ik ie)) (sl := .od false (putD kvs (keyD kk) d)) (o' := .dK (putK ks kk v)) G3 hi rfl rfl hp z3 rfl fun kw => ⟨p, _, hp, z2, upd_same, _, rfl, Paired.imp (put_rel (fun _ _ => keyD_inj) sv q5) fun _ _ q => ⟨q.1, q.2.go kw (fun a z => .inr z) fun a z => .inl z⟩⟩
                  exact h σ _ (t3.trans st)
              | true =>
                obtain ⟨ks, rfl, q5⟩ := z5
                cases dk with
                | tuple ds =>
                  cases hK : toKeys ds with
                  | none => have := hkk.1; simp [keyOk, hK] at this
                  | some kk =>
                    obtain ⟨b, us, rfl, ht, _, sq⟩ := sh_tuple.mp sy
                    obtain ⟨rfl, rfl⟩ := toKeys_sh hK sq
                    refine ⟨p, _, rfl, .inr ⟨ks, kk, b, z3, rfl, ht, by rw [Paired.len q5, ← LIM_eq]; exact hkk.2, rfl⟩, ?_⟩
                    have st := writeS (A := asgS (.sub i ik ie)) (sl := .od true (putD kvs (keyT kk) d)) (o' := .dT (putK ks kk v)) G3 hi rfl rfl hp z3 rfl fun kw => ⟨p, _, hp, z2, upd_same, _, rfl, Paired.imp (put_rel (fun _ _ => keyT_inj) sv q5) fun _ _ q => ⟨q.1, q.2.go kw (fun a z => .inr z) fun a z => .inl z⟩⟩
                    exact h σ _ (t3.trans st)
                | none => exact absurd hkk.1 (by simp [keyOk])
                | bool b => exact absurd hkk.1 (by simp [keyOk])
                | int b => exact absurd hkk.1 (by simp [keyOk])
                | str b => exact absurd hkk.1 (by simp [keyOk])
                | list b => exact absurd hkk.1 (by simp [keyOk])
                | dict b => exact absurd hkk.1 (by simp [keyOk])
            | ol ds =>
              cases dk with
              | none => simp only [hi] at h; exact h.elim
              | bool b => simp only [hi] at h; exact h.elim
              | str b => simp only [hi] at h; exact h.elim
              | list b => simp only [hi] at h; exact h.elim
              | tuple b => simp only [hi] at h; exact h.elim
              | dict b => simp only [hi] at h; exact h.elim
              | int j =>
                simp only [hi] at h
                cases hx : L2.ixN ds.length j with
                | none => simp only [hx] at h; exact h.elim
                | some n =>
                  simp only [hx] at h
                  refine .inl (way (fun o v y H3 => rSetL o y v H3 fun H4 => D.nx σ H4) (fun m2' H1 F v dk z p y H3 F3 G3 t3 hp sv sy => ?_) hv hr hb)
                  rw [hk] at z; cases z
                  obtain ⟨p', xs, z1, z2, z3, z4, z5⟩ := G3.rep.at' i _ hi
                  rw [hp] at z1; cases z1
                  obtain rfl := sh_int.mp sy
                  refine ⟨p, xs, j, n, rfl, rfl, z3, by rw [Paired.len z5]; exact hx, ?_⟩
                  have st := writeS (A := asgS (.sub i ik ie)) (sl := .ol (ds.set n d)) (o' := .lst (xs.set n v)) G3 hi rfl rfl hp z3 rfl fun kw => ⟨p, _, hp, z2, upd_same, by simpa using z4, Paired.imp (Paired.st z5 sv n) fun _ _ q => q.go kw (fun a z => .inr z) fun a z => .inl z⟩
                  exact h σ _ (t3.trans st)
end
end PV
namespace PV
open PySem PySem.Spec L2
section
variable {X : Cx} {xc : XC} {W : WX} {cl : Nat → List Arg → DS → FRes} {k : Nat} {a b : Expr} {ea eb : E} {p pos pos' : Pos} {n : Str}
theorem s_sub (d : Bd X W k) (i : Nat) (hk : DE X xc W cl b eb) (ha : DE X xc W cl a ea) (hN : X.N[i]? = some n := by rfl) (hv : Vis X.env.scope n := by first | exact Or.inl rfl | exact Or.inr (Or.inl rfl) | exact Or.inr (Or.inr rfl))
    (hd : (n == ("__debug__" : Str)) = false := by decide) (hcd : (n == ("__classdict__" : Str)) = false := by decide)
    (hst : ∀ v, assign (.Subscript (.Name n p) b pos') X.env v = (do
      let ov ← holding [v] (eval (.Name n p) X.env)
      let iv ← holding [v, ov] (eval b X.env)
      standAt pos'
      holding [v, ov, iv] (setItem ov iv v)
      release [v, ov, iv] []) := by intro _; rfl)
    (hs : swapsWithSole [.Subscript (.Name n p) b pos'] a pos.line X.env = pure false := by rfl) (hw : swappedStores [.Subscript (.Name n p) b pos'] a X.env = pure none := by rfl) (h1 : (assignEach [.Subscript (.Name n p) b pos'] X.env).map (·.2) = [assign (.Subscript (.Name n p) b pos') X.env] := by rfl)
    (hs2 : swapsWith a (some (.Subscript (.Name n p) b pos')) pos.line X.env = pure false := by rfl) : DS' X xc W cl (.Assign [.Subscript (.Name n p) b pos'] a pos) (.sub i eb ea) :=
  PSimp (PSor (ps_asg ha (pg_sub (pe_var hN hv hd hcd) hk set_list hst) hs hw h1) (ps_dput d.ok.un2 (pe_var hN hv hd hcd) hk ha hs2)) fun D σ H h => sub_ok h
end
end PV
namespace PV
open PySem PySem.Spec L2
end PV
namespace PV
open PySem PySem.Spec L2
end PV
namespace PV
open PySem PySem.Spec L2
end PV
namespace PV
open PySem PySem.Spec L2
noncomputable def gNs : List Nat → TGs
  | [] => gNil
  | i :: is => gCons (gName i) (gNs is)
section
variable {xc : XC} {K : PySem.W.Frag} {g : Gd} {O0 : AP} {e e' : Env} {σ σ' : L2.St} {H H' H2 : Hp} {A : Nat → Bool} {F : List Addr} {m : M} {vs : List V} {rs : List R}
theorem StX.more (t : StX K g O0 e σ H A F m σ' H') (k : Keep (fun _ => False) H' H2) : StX K g O0 e σ H A F m σ' H2 :=
  ⟨t.keep.trans (M' := fun _ => False) k fun _ z => z.elim, t.own, fun p hp => ⟨(t.new p hp).1, (t.new p hp).2.1, (t.new p hp).2.2.1, fun z => (t.new p hp).2.2.2 (k.old p z)⟩,
    t.rep.go k (fun _ z => z.elim) (fun _ z => .inl z), t.dk.keep k (fun _ z => z.elim), t.fx⟩
theorem gNs_ok {D : L2.St → Hp → Prop} : ∀ (is : List Nat) (rs : List R) (vs : List V) (F : List Addr) (m : M) (σ' : L2.St), (∀ i ∈ is, A i = true) → StX K g O0 e σ H A F m σ' H' → RVs K g (Ow (plus O0 F) m.e σ') σ' H' vs F rs → noPl rs = true → setRs is rs m.e = some e' →
    (∀ σ2, StS K g O0 e σ H A ⟨e', m.s⟩ σ2 H' → D σ2 H') → gNs is vs σ' H' D
  | [], rs, vs, F, m, σ', hA, t, rv, np, hr, h => by
    cases rs with
    | nil =>
      cases rv
      simp only [setRs] at hr
      cases hr
      exact ⟨rfl, h _ t.ss⟩
    | cons r rs => simp [setRs] at hr
  | i :: is, rs, vs, F, m, σ', hA, t, rv, np, hr, h => by
    cases rs with
    | nil => simp [setRs] at hr
    | cons r rs =>
      obtain ⟨v, vs', F1, F2, rfl, rfl, q1, q2, ap⟩ := rv.uncons
      obtain ⟨n1, n2⟩ := np1 np
      simp only [setRs] at hr
      cases he1 : setR i r m.e with
      | none => rw [he1] at hr; cases hr
      | some e1 =>
        rw [he1] at hr
        simp only at hr
        obtain ⟨t1, sb⟩ := setX t n1 q1 ap he1 (hA i List.mem_cons_self)
        refine ⟨v, vs', rfl, gNs_ok is rs vs' F2 ⟨e1, m.s⟩ _ (fun j hj => hA j (List.mem_cons_of_mem _ hj)) t1 ?_ n2 hr h⟩
        exact RVs.slot n2 (q2.go (M := fun _ => False) Keep.refl (fun _ z => z.elim) (fun _ _ z => z) fun a z => .inl (sb a z))
theorem rvs_len {O : AP} (h : RVs K g O σ H vs F rs) : vs.length = rs.length := by
  induction h with
  | nil => rfl
  | cons _ _ _ ih => simp [ih]
theorem setRs_len : ∀ {is : List Nat} {rs : List R} {e e' : Env}, setRs is rs e = some e' → rs.length = is.length
  | [], [], _, _, _ => rfl
  | [], _ :: _, _, _, h => by simp [setRs] at h
  | _ :: _, [], _, _, h => by simp [setRs] at h
  | i :: is, r :: rs, e, e', h => by
    simp only [setRs] at h
    cases h1 : setR i r e with
    | none => rw [h1] at h; cases h
    | some e1 => rw [h1] at h; simp [setRs_len h]
end
section
variable {X : Cx} {xc : XC} {W : WX} {cl : Nat → List Arg → DS → FRes} {k : Nat} {ts es : List Expr} {pos pt pt2 : Pos} {as : Es}
theorem s_parN (d : Bd X W k) (is : List Nat) {kt k2} (ha : DA X xc W cl es as) (hg : PGs X ts (gNs is)) (hl : is.length ≤ 100 := by decide) (hn : (assignEach ts X.env).length = is.length := by rfl) (hst : (assignEach ts X.env).findIdx? (·.1) = none := by rfl)
    (hs : swapsWithSole [.Tuple ts kt pt] (.Tuple es k2 pt2) pos.line X.env = pure false := by rfl) (hw : swappedStores [.Tuple ts kt pt] (.Tuple es k2 pt2) X.env = pure none := by rfl) (h1 : (assignEach [.Tuple ts kt pt] X.env).map (·.2) = [assign (.Tuple ts kt pt) X.env] := by rfl) :
    DS' X xc W cl (.Assign [.Tuple ts kt pt] (.Tuple es k2 pt2) pos) (.par is as) :=
  PSimp (ps_asg (pe_tup ha) (pg_tup d.ok.calm hg hn hst) hs hw h1) fun D σ H h => par_ok h _ fun g O0 e s vs F rs m1 H1 G hf t rv np e' hr h => by
    have l := (rvs_len rv).trans (setRs_len hr)
    refine ⟨by rw [l, sizeLine_eq]; omega, fun p npp => ⟨p, vs, rfl, SqT.of upd_same, l, ?_⟩⟩
    have k := Keep.new (M := fun _ => False) (o := .tup vs) npp
    refine gNs_ok is rs vs F m1 σ (fun i hi => by simpa [asgS] using hi) (t.more k) (rv.go k (fun _ z => z.elim) (fun _ _ z => z) fun a z => .inl z) np hr fun σ2 t2 => h σ2 _ t2
theorem gs_nil : PGs X [] (gNs []) := pgs_nil
theorem gs_cons {n : Str} {is : List Nat} (d : Bd X W k) (i : Nat) (h2 : PGs X ts (gNs is)) (hi : X.N[i]? = some n := by rfl) (hx : Loc X.env.scope n := by first | exact Or.inl rfl | exact Or.inr rfl) (hf : X.fn n = true ∨ X.env.scope.names.lookup n = some .local := by first | exact .inl rfl | exact .inr rfl)
    (hs : (assignEach (.Name n pos :: ts) X.env).map (·.2) = assign (.Name n pos) X.env :: (assignEach ts X.env).map (·.2) := by rfl) : PGs X (.Name n pos :: ts) (gNs (i :: is)) := pgs_cons (pg_name d.ok.nd hi hx hf) h2 hs
end
end PV
namespace PV
open PySem PySem.Spec L2
end PV
namespace PV
open PySem PySem.Spec L2
/-- a comprehension over a list of whole numbers -/
theorem lc_at {K : PySem.W.Frag} {j : Nat} {f : Int → Int} {te : TE} {σ : L2.St} {H1 : Hp} {Q : VK} {p : Addr} {ns : List Int} (hj : j < σ.length) (hte : ∀ (σ : L2.St) H (Q : VK) n, n ∈ ns → σ[j]? = some (some (.int n)) → Q (.int (f n)) H → te σ H Q)
    (hp1 : H1 p = some (.lst (ns.map V.int))) (hl : ns.length ≤ 1000) (q : ∀ D H2, Keep (fun _ => False) H1 H2 → H1 D = none → H2 D = some (.lst ((ns.map f).map V.int)) → Q (.ref D) H2) :
    ∃ a, V.ref p = .ref a ∧ (∃ xs, SqL K H1 a xs) ∧ ∀ D, H1 D = none → ∃ W : Nat → Nat → Hp → Prop, (∃ m, W 0 m (upd H1 D (.lst []))) ∧ ∀ i m H, W i m H →
      (((Itl K a).stop i H ∧ Q (.ref D) H) ∨ ((Itl K a).go i H ∧ ∃ Nx : Hp → Prop, (∀ H', Nx H' → ∃ m', m' < m ∧ W (i + 1) m' H') ∧ ∀ x H', (Itl K a).yld i H x H' → gName j x (wipe σ [j]) H' fun σ2 H2 => wipe σ2 [j] = wipe σ [j] ∧ tYes σ2 H2 fun b H3 =>
        if b = true then te σ2 H3 fun y H4 => ∃ acc, H4 D = some (.lst acc) ∧ acc.length < sizeLine ∧ Nx (upd H4 D (.lst (acc ++ [y]))) else Nx H3)) := by
  refine ⟨p, rfl, ⟨_, .inl (.inl hp1)⟩, fun D nD => ?_⟩
  have nDp : p ≠ D := fun z => by rw [z, nD] at hp1; cases hp1
  refine ⟨fun i m H2 => i + m = ns.length ∧ Keep (fun b => b = D) H1 H2 ∧ H2 D = some (.lst (((ns.map f).map V.int).take i)), ⟨ns.length, by omega, Keep.new nD, by rw [upd_same]; rfl⟩, ?_⟩
  rintro i m H2 ⟨hi, k2, hD⟩
  have hp2 : H2 p = some (.lst (ns.map V.int)) := k2.stay p _ hp1 (.inl fun z => nDp z)
  by_cases z : i < ns.length
  rotate_left
  · refine .inl ⟨⟨_, .inl (.inl hp2), by simp; omega⟩, ?_⟩
    rw [List.take_of_length_le (by simp; omega)] at hD
    exact q D H2 ⟨fun b o e _ => k2.stay b o e (.inl fun z => by rw [z, nD] at e; cases e), k2.old⟩ nD hD
  · have g1 : (ns.map V.int)[i]? = some (.int ns[i]) := by rw [List.getElem?_map, List.getElem?_eq_getElem z]; rfl
    refine .inr ⟨⟨_, _, .inl (.inl hp2), g1⟩, fun H3 => (i + 1) + (m - 1) = ns.length ∧ Keep (fun b => b = D) H1 H3 ∧ H3 D = some (.lst (((ns.map f).map V.int).take (i + 1))), fun H3 h3 => ⟨m - 1, by omega, h3⟩, fun x H3 hy => ?_⟩
    obtain ⟨rfl, hy⟩ := hy
    have := hy _ (.inl (.inl hp2))
    rw [g1] at this; cases this
    refine ⟨?_, ?_⟩
    · show (((σ.set j none).set j _).set j none) = σ.set j none
      rw [List.set_set, List.set_set]
    · show te _ H3 _
      refine hte _ _ _ ns[i] (List.getElem_mem z) ?_ ?_
      · rw [List.getElem?_set_self (by show j < (σ.set j none).length; rw [List.length_set]; exact hj)]
      · refine ⟨_, hD, ?_, by omega, ?_, ?_⟩
        · rw [List.length_take]; simp [sizeLine_eq]; omega
        · exact ⟨fun b o e c => by
            have hb : b ≠ D := fun z => by rw [z, nD] at e; cases e
            rw [upd_ne hb]
            exact k2.stay b o e c, fun b z => by
            by_cases hb : b = D
            · rw [hb, upd_same] at z; cases z
            · rw [upd_ne hb] at z; exact k2.old b z⟩
        · rw [upd_same, List.take_add_one, List.getElem?_map, List.getElem?_map, List.getElem?_eq_getElem z]
          rfl
theorem lc_run {K : PySem.W.Frag} {j : Nat} {te : TE} {tl : TE} {σ : L2.St} {H : Hp} {Q : VK} (f : Int → Int) (ns : List Int) (hj : j < σ.length) (hl : ns.length ≤ 1000) (hte : ∀ (σ : L2.St) H (Q : VK) n, n ∈ ns → σ[j]? = some (some (.int n)) → Q (.int (f n)) H → te σ H Q)
    (hm : ∀ R R' : VK, (∀ x H, R x H → R' x H) → tl σ H R → tl σ H R')
    (h : tl σ H fun x H1 => ∃ p, x = .ref p ∧ H1 p = some (.lst (ns.map V.int)) ∧ ∀ D H2, Keep (fun _ => False) H1 H2 → H1 D = none → H2 D = some (.lst ((ns.map f).map V.int)) → Q (.ref D) H2) : tLc (iList K tl) (gName j) tYes te [j] σ H Q := by
  refine hm _ _ (fun x H1 h => ?_) h
  obtain ⟨p, rfl, h1, h2⟩ := h
  exact lc_at hj hte h1 hl h2
noncomputable def cellsD (ns : List Int) : List Int := ns.map absI ++ (List.replicate (if decide (ns.length = 0) = true then 1 else 0) [0]).flatten
noncomputable def bigD (c : Int) : Int := c * (if decide ((1000000000000000000 : Int) ≤ c) = true then 1 else 0)
noncomputable def spDraws (K : PySem.W.Frag) (cs : List Int → List Int) : Sp := fun vs H Q _ => ∃ (a : Addr) (ns : List Int), vs = [.ref a] ∧ SqL K H a (ns.map V.int) ∧ ns.length ≤ 63 ∧ ∀ H' d c r, Keep (fun _ => False) H H' → H d = none → H c = none → H r = none → d ≠ c → r ≠ d → r ≠ c → H' d = some (.lst [.ref c, .int 0, .ref r]) → H' c = some (.lst ((cs ns).map V.int)) → H' r = some (.lst (((cs ns).map bigD).map V.int)) → Q (.ref d) H'
noncomputable def tIntB : List V → Hp → VK → Prop := fun xs H Q => (∃ i, xs = [.int i] ∧ Q (.int i) H) ∨ ∃ k, xs = [.bl k] ∧ Q (.int (if k then 1 else 0)) H
/-- [0] * int(len(script) == 0) -/
noncomputable def tPad (K : PySem.W.Frag) : TE := tOp rRep (tLst (tCons (tC (.int 0)) tNil)) (tCB tIntB (tCons (tOp (rI0 fun i j => .bl (decide (i = j))) (tCB (lenR K) (tCons (tVar 0) tNil)) (tC (.int 0))) tNil))
noncomputable def teBig : TE := tOp (rI CMul fun i j => .int (i * j)) (tVar 2) (tCB tIntB (tCons (tOp (rI0 fun i j => .bl (decide (j ≤ i))) (tVar 2) (tOp (rI CPow fun i j => .int (i ^ j.toNat)) (tC (.int 10)) (tC (.int 18)))) tNil))
/-- return [cells, 0, [c * int(c >= 10 ** 18) for c in cells]] -/
noncomputable def tDrRet (K : PySem.W.Frag) : TS := tRet (tLst (tCons (tVar 1) (tCons (tC (.int 0)) (tCons (tLc (iList K (tVar 1)) (gName 2) tYes teBig [2]) tNil))))
noncomputable def tDrawsD (K : PySem.W.Frag) : TS :=
  tSeq (tAsg (tOp rCat (tLc (iList K (tSl (rSlL K) (tVar 0) tNoPart (tPart (tC (.int 63))))) (gName 2) tYes (tCB absR (tCons (tVar 2) tNil)) [2]) (tPad K)) (gName 1)) (tDrRet K)
theorem drRet_body {K : PySem.W.Frag} {H H1 : Hp} {Q : VK} {c a : Addr} {cells : List Int} (hl : cells.length ≤ 100) (k : Keep (fun _ => False) H H1) (hc : H c = none) (hc1 : H1 c = some (.lst (cells.map V.int)))
    (q : ∀ H' d c r, Keep (fun _ => False) H H' → H d = none → H c = none → H r = none → d ≠ c → r ≠ d → r ≠ c → H' d = some (.lst [.ref c, .int 0, .ref r]) → H' c = some (.lst (cells.map V.int)) → H' r = some (.lst ((cells.map bigD).map V.int)) → Q (.ref d) H') :
    tDrRet K { nx := fun _ H' => Q .non H', rt := Q } [some (.ref a), some (.ref c), none] H1 := by
  refine ⟨_, rfl, ?_⟩
  show tLc (iList K (tVar 1)) (gName 2) tYes teBig [2] [some (.ref a), some (.ref c), none] H1 fun x H2 => ([V.ref c, .int 0, x] : List V).length ≤ sizeLine ∧ ∀ p, H2 p = none → Q (.ref p) (upd H2 p (.lst [V.ref c, .int 0, x]))
  refine lc_run bigD cells (by simp) (by omega) ?_ (fun R R' i ⟨v, e, h⟩ => ⟨v, e, i _ _ h⟩) ⟨_, rfl, _, rfl, hc1, ?_⟩
  · intro σ H Q n _ hσ hq
    refine ⟨_, hσ, _, hσ, 10, 18, rfl, rfl, ⟨by decide, by decide, by decide⟩, n, _, rfl, rfl, .inr ⟨_, rfl, n, _, rfl, rfl, .inr ?_, hq⟩⟩
    split <;> decide
  · intro D H2 k2 hD hD2
    refine ⟨by simp [sizeLine_eq], fun d nd => ?_⟩
    have nDd : D ≠ d := fun z => by rw [z, nd] at hD2; cases hD2
    have hc2 := k2.stay c _ hc1 (.inl fun z => z)
    have ncd : c ≠ d := fun z => by rw [z, nd] at hc2; cases hc2
    have ncD : c ≠ D := fun z => by rw [z, hD] at hc1; cases hc1
    have k3 : Keep (fun _ => False) H2 (upd H2 d (.lst [.ref c, .int 0, .ref D])) := Keep.new nd
    refine q _ d c D ((k.trans k2 fun _ z => z.elim).trans k3 fun _ z => z.elim) (k.old d (k2.old d nd)) hc (k.old D hD) ncd.symm nDd ncD.symm upd_same ?_ ?_
    · rw [upd_ne ncd]; exact hc2
    · rw [upd_ne nDd]; exact hD2
theorem pad_ok {K : PySem.W.Frag} {H : Hp} {Q : VK} {a : Addr} {ns : List Int} {σ : L2.St} (hσ : σ[0]? = some (some (.ref a))) (hs : SqL K H a (ns.map V.int))
    (q : ∀ p H', Keep (fun _ => False) H H' → H p = none → H' p = some (.lst ((List.replicate (if decide (ns.length = 0) = true then 1 else 0) ([0] : List Int)).flatten.map V.int)) → Q (.ref p) H') : tPad K σ H Q := by
  refine ⟨by simp [sizeLine_eq], fun p np => ?_⟩
  have k1 : Keep (fun _ => False) H (upd H p (.lst [V.int 0])) := Keep.new np
  refine ⟨_, hσ, _, _, rfl, .inl ⟨_, sq_keep k1 hs, rfl⟩, _, 0, rfl, rfl, .inr ⟨_, rfl, p, _, _, rfl, rfl, upd_same, ?_, ?_, ?_, fun p2 np2 => ?_⟩⟩
  · split <;> decide
  · split <;> decide
  · split <;> simp [sizeLine_eq]
  · rw [List.length_map]
    have k2 : Keep (fun _ => False) (upd H p (.lst [V.int 0])) (upd (upd H p (.lst [V.int 0])) p2 (.lst (List.replicate (if decide ((ns.length : Int) = 0) = true then (1 : Int) else 0).toNat [V.int 0]).flatten)) := Keep.new np2
    refine q p2 _ (k1.trans k2 fun _ z => z.elim) (k1.old p2 np2) ?_
    rw [upd_same]
    by_cases z : ns.length = 0
    · have : ((ns.length : Int) = 0) := by omega
      simp [z]
    · have : ¬ ((ns.length : Int) = 0) := by omega
      simp [z]
theorem drawsD_body {K : PySem.W.Frag} {H : Hp} {Q : VK} {E : XK} {vs : List V} {N : List Str} (hN : N.length = 3) (h : spDraws K cellsD vs H Q E) : tDrawsD K { nx := fun _ H' => Q .non H', rt := Q } (L2.start N vs) H := by
  obtain ⟨a, ns, rfl, hs, hl, q⟩ := h
  have e0 : L2.start N [.ref a] = [some (.ref a), none, none] := by
    unfold L2.start; rw [hN]; rfl
  rw [e0]
  have k1 : ∀ p, H p = none → Keep (fun _ => False) H (upd H p (.lst (ns.map V.int))) := fun p np => Keep.new np
  show tLc (iList K (tSl (rSlL K) (tVar 0) tNoPart (tPart (tC (.int 63))))) (gName 2) tYes (tCB absR (tCons (tVar 2) tNil)) [2] [some (.ref a), none, none] H fun x H1 => tPad K [some (.ref a), none, none] H1 fun y H2 => rCat x y H2 fun z H3 => tDrRet K { nx := fun _ H' => Q .non H', rt := Q } [some (.ref a), some z, none] H3
  refine lc_run absI ns (by simp) (by omega) ?_ (fun R R' i ⟨v, e, w, e2, a, xs, e3, h1, h⟩ => ⟨v, e, w, e2, a, xs, e3, h1, fun p np => i _ _ (h p np)⟩) ⟨_, rfl, 63, rfl, a, _, rfl, hs, fun p np => ⟨p, rfl, by rw [upd_same, show cutV (ns.map V.int) none (some 63) = ns.map V.int from cutV_all (n := 63) (by simpa using hl)], ?_⟩⟩
  · intro σ H Q n _ hσ hq
    exact ⟨_, hσ, n, rfl, hq⟩
  · intro D H2 k2 hD hD2
    rw [show cutV (ns.map V.int) none (some 63) = ns.map V.int from cutV_all (n := 63) (by simpa using hl)] at k2 hD
    have k12 := (k1 p np).trans k2 fun _ z => z.elim
    refine pad_ok (a := a) (ns := ns) rfl (sq_keep k12 hs) fun p3 H3 k3 np3 hp3 => ?_
    have hD3 := k3.stay D _ hD2 (.inl fun z => z)
    refine ⟨D, p3, _, _, rfl, rfl, hD3, hp3, ?_, fun c nc => ?_⟩
    · rw [List.length_map, List.length_map]
      by_cases z : ns.length = 0
      · simp [z, sizeLine_eq]
      · simp [z, sizeLine_eq]; omega
    · have k13 := k12.trans k3 fun _ z => z.elim
      have k14 : Keep (fun _ => False) H (upd H3 c (.lst ((ns.map absI).map V.int ++ (List.replicate (if decide (ns.length = 0) = true then 1 else 0) ([0] : List Int)).flatten.map V.int))) := k13.trans (M' := fun _ => False) (Keep.new nc) fun _ z => z.elim
      refine drRet_body (cells := cellsD ns) ?_ k14 (k13.old c nc) ?_ q
      · unfold cellsD
        rw [List.length_append, List.length_map]
        by_cases z : ns.length = 0
        · simp [z]
        · simp [z]; omega
      · rw [upd_same, ← List.map_append]; rfl
end PV
namespace PV
open PySem PySem.Spec L2
noncomputable def ixD (s : DS) : Nat := (s.cnt % s.cells.length).toNat
noncomputable def restD (s : DS) : Int := s.rests.getD (ixD s) 0
noncomputable def cellD (s : DS) : Int := s.cells.getD (ixD s) 0
noncomputable def okD (n : Int) (s : DS) : Prop := (0 < n ∧ n < 1073741824) ∧ (0 ≤ s.cnt ∧ s.cnt < 1048576) ∧ 0 < s.cells.length ∧ s.rests.length = s.cells.length
noncomputable instance (n : Int) (s : DS) : Decidable (okD n s) := by unfold okD; infer_instance
noncomputable def mixD1 (s : DS) : Int := (cellD s % 2147483629 + 40031 * s.cnt + 8011) ^ 3 % 2147483587
noncomputable def mixD2 (s : DS) : Int := (mixD1 s + 5021 * s.cnt * s.cnt + 41) ^ 3 % 2147483563
/-- a draw of this form, by what it makes where no digit is left -/
noncomputable def drawR (fin : Int → DS → Int) : List Arg → DS → FRes
  | [.dk 0, .sh (.int n)], s => if okD n s then
      if 0 < restD s then .ok (.v (.int (restD s % n))) ⟨s.cells, s.cnt + 1, s.rests.set (ixD s) (restD s / n), s.obs⟩
      else .ok (.v (.int (fin n s % n))) ⟨s.cells, s.cnt + 1, s.rests, s.obs⟩
    else .bad
  | _, _ => .bad
noncomputable def drawD : List Arg → DS → FRes := drawR fun _ s => mixD2 s * 65537 % 2305843009213693951 / 8
theorem drawR_len {fin : Int → DS → Int} {as : List Arg} {s : DS} (h : drawR fin as s ≠ .bad) : as.length = 2 := by
  unfold drawR at h
  split at h
  · rfl
  · exact absurd rfl h
theorem drawR_inv {fin : Int → DS → Int} {as : List Arg} {s : DS} (h : drawR fin as s ≠ .bad) : ∃ n, as = [.dk 0, .sh (.int n)] ∧ okD n s := by
  unfold drawR at h
  split at h
  · split at h
    · rename_i z
      exact ⟨_, rfl, z⟩
    · exact absurd rfl h
  · exact absurd rfl h
theorem drawR_ok {fin : Int → DS → Int} {n : Int} {s : DS} (h : okD n s) : ∃ r s', drawR fin [.dk 0, .sh (.int n)] s = .ok (.v (.int r)) s' ∧ (0 ≤ r ∧ r < n) ∧ s'.cnt = s.cnt + 1 ∧ s'.cells.length = s.cells.length ∧ s'.rests.length = s.rests.length := by
  have h1 := h.1.1
  unfold drawR
  simp only [h, if_true]
  split
  · exact ⟨_, _, rfl, ⟨Int.emod_nonneg _ (by omega), Int.emod_lt_of_pos _ h1⟩, rfl, rfl, by simp⟩
  · exact ⟨_, _, rfl, ⟨Int.emod_nonneg _ (by omega), Int.emod_lt_of_pos _ h1⟩, rfl, rfl, rfl⟩
theorem dk_rests {g : Gd} {s : DS} {H : Hp} (d : DkRep g s H) (e1 : g.2.2 ≠ g.1) (e2 : g.2.2 ≠ g.2.1) (t : H g.1 = some (.lst [.ref g.2.1, .int s.cnt, .ref g.2.2])) (i : Nat) (c : Int) : DkRep g ⟨s.cells, s.cnt, s.rests.set i c, s.obs⟩ (upd H g.2.2 (.lst ((s.rests.map V.int).set i (.int c)))) := by
  have tr : H g.2.2 = some (.lst (s.rests.map V.int)) := by
    rcases d.top with ⟨⟨e, _⟩, _⟩ | ⟨_, _, _, q⟩
    · exact absurd e e1
    · exact q
  exact ⟨by rw [upd_ne e2.symm]; exact d.cells, d.ne, .inr ⟨e1, e2, by rw [upd_ne e1.symm]; exact t, by rw [upd_same, List.map_set]⟩, d.obsD tr rfl (.inr (.inr rfl)), d.st, d.tabsD tr⟩
noncomputable abbrev tMod : TE → TE → TE := tOp (rI (fun _ j => 0 < j) fun i j => .int (i % j))
noncomputable abbrev tDiv : TE → TE → TE := tOp (rI CDiv fun i j => .int (i / j))
noncomputable abbrev tMul : TE → TE → TE := tOp (rI CMul fun i j => .int (i * j))
noncomputable abbrev tAdd : TE → TE → TE := tOp (rI0 fun i j => .int (i + j))
noncomputable abbrev tPow : TE → TE → TE := tOp (rI CPow fun i j => .int (i ^ j.toNat))
/-- state, many, index at 2, cells, count, rests at a, b, c, the digit at d; then what follows -/
noncomputable def tDrawR (K : PySem.W.Frag) (a b c d : Nat) (rest : TS) : TS :=
  tSeq (tAsg (tVar 0) (gLst K 3 (gCons (gName a) (gCons (gName b) (gCons (gName c) gNil)))))
  (tSeq (tAsg (tMod (tVar b) (tCB (lenR K) (tCons (tVar a) tNil))) (gName 2))
  (tSeq (tAsg (tAdd (tVar b) (tC (.int 1))) (gSub (tVar 0) (tC (.int 1)) rSetL))
  (tSeq (tIfS (tTest (tOp (rI0 fun i j => .bl (decide (j < i))) (ix K (tVar c) (tVar 2)) (tC (.int 0))))
      (tSeq (tAsg (tMod (ix K (tVar c) (tVar 2)) (tVar 1)) (gName d))
      (tSeq (tAsg (tDiv (ix K (tVar c) (tVar 2)) (tVar 1)) (gSub (tVar c) (tVar 2) rSetL))
      (tRet (tVar d)))) tNext)
  rest)))
noncomputable def tDrawD (K : PySem.W.Frag) : TS := tDrawR K 4 5 6 7
  (tSeq (tAsg (tMod (tPow (tAdd (tAdd (tMod (ix K (tVar 4) (tVar 2)) (tC (.int 2147483629))) (tMul (tC (.int 40031)) (tVar 5))) (tC (.int 8011))) (tC (.int 3))) (tC (.int 2147483587))) (gName 3))
  (tSeq (tAsg (tMod (tPow (tAdd (tAdd (tVar 3) (tMul (tMul (tC (.int 5021)) (tVar 5)) (tVar 5))) (tC (.int 41))) (tC (.int 3))) (tC (.int 2147483563))) (gName 3))
  (tRet (tMod (tDiv (tMod (tMul (tVar 3) (tC (.int 65537))) (tC (.int 2305843009213693951))) (tC (.int 8))) (tVar 1)))))
theorem drawD_body {K : PySem.W.Frag} {xc : XC} {H : Hp} {Q : VK} {E : XK} {vs : List V} {N : List Str} (hN : N.length = 8) (h : spF xc K 2 drawD vs H Q E) : tDrawD K { nx := fun _ H' => Q .non H', rt := Q } (L2.start N vs) H := by
  obtain ⟨hl, g, O, as, s, h0, h1, h2, dk, hp, h⟩ := h
  obtain ⟨n, rfl, ok⟩ := drawR_inv (as := as) (s := s) fun z => by
    have z : drawD as s = .bad := z
    rw [z] at h; exact h
  unfold drawD drawR at h
  simp only [ok, if_true] at h
  obtain ⟨⟨c1, c2⟩, ⟨c3, c4⟩, c5, c6⟩ := ok
  obtain ⟨x, y, rfl, r1, r2⟩ := pair2 hp
  cases r1
  cases r2 with
  | sh r2 =>
  obtain rfl := sh_int.mp r2
  have e0 : L2.start N [.ref (g.ad 0), .int n] = [some (.ref g.1), some (.int n), none, none, none, none, none, none] := by
    unfold L2.start; rw [hN]; rfl
  rw [e0]
  obtain ⟨ne1, ne2, t0, tr⟩ : g.2.2 ≠ g.1 ∧ g.2.2 ≠ g.2.1 ∧ H g.1 = some (.lst [.ref g.2.1, .int s.cnt, .ref g.2.2]) ∧ H g.2.2 = some (.lst (s.rests.map V.int)) := by
    rcases dk.top with ⟨⟨_, z⟩, _⟩ | z
    · rw [z] at c6; simp at c6; omega
    · exact z
  have tc := dk.cells
  have lp : (0 : Int) < s.cells.length := by omega
  have q0 : 0 ≤ s.cnt % s.cells.length := Int.emod_nonneg _ (by omega)
  have q1 : s.cnt % s.cells.length < s.cells.length := Int.emod_lt_of_pos _ lp
  have hlt : ixD s < s.cells.length := by unfold ixD; omega
  have hltr : ixD s < s.rests.length := by omega
  have eI : s.cnt % (s.cells.length : Int) = ((ixD s : Nat) : Int) := by unfold ixD; omega
  have cA : cellD s = s.cells[ixD s] := by
    unfold cellD
    simp [List.getD_eq_getElem?_getD, List.getElem?_eq_getElem hlt]
  have rA : restD s = s.rests[ixD s] := by
    unfold restD
    simp [List.getD_eq_getElem?_getD, List.getElem?_eq_getElem hltr]
  refine ⟨_, rfl, g.1, _, rfl, SqL.of t0, rfl, _, _, rfl, _, _, rfl, _, _, rfl, rfl, ?_⟩
  refine ⟨_, rfl, _, rfl, _, _, rfl, .inl ⟨_, SqL.of tc, rfl⟩, s.cnt, _, rfl, rfl, by rw [List.length_map]; exact lp, ?_⟩
  rw [List.length_map]
  change (tSeq _ _) _ [some (.ref g.1), some (.int n), some (.int (s.cnt % (s.cells.length : Int))), none, some (.ref g.2.1), some (.int s.cnt), some (.ref g.2.2), none] H
  rw [eI]
  refine ⟨_, rfl, s.cnt, 1, rfl, rfl, _, rfl, g.1, _, 1, 1, rfl, rfl, t0, ixN_nat (j := 1) (by simp), ?_⟩
  have dk1 := dk_cnt dk t0 (s.cnt + 1)
  have k1 : Keep (DkS g) H (upd H g.1 (.lst ([V.ref g.2.1, .int s.cnt, .ref g.2.2].set 1 (.int (s.cnt + 1))))) := dk_keep t0 (.inl rfl)
  have t1 : upd H g.1 (.lst ([V.ref g.2.1, .int s.cnt, .ref g.2.2].set 1 (.int (s.cnt + 1)))) g.1 = some (.lst [.ref g.2.1, .int (s.cnt + 1), .ref g.2.2]) := by rw [upd_same]; rfl
  have tr1 : upd H g.1 (.lst ([V.ref g.2.1, .int s.cnt, .ref g.2.2].set 1 (.int (s.cnt + 1)))) g.2.2 = some (.lst (s.rests.map V.int)) := by rw [upd_ne ne1]; exact tr
  have tc1 : upd H g.1 (.lst ([V.ref g.2.1, .int s.cnt, .ref g.2.2].set 1 (.int (s.cnt + 1)))) g.2.1 = some (.lst (s.cells.map V.int)) := dk1.cells
  generalize upd H g.1 (.lst ([V.ref g.2.1, .int s.cnt, .ref g.2.2].set 1 (.int (s.cnt + 1)))) = Ha at dk1 k1 t1 tr1 tc1
  have atr : atI (s.rests.map V.int) ((ixD s : Nat) : Int) = some (.int (restD s)) := atI_nat (by rw [List.getElem?_map, List.getElem?_eq_getElem hltr, rA]; rfl)
  have atc : atI (s.cells.map V.int) ((ixD s : Nat) : Int) = some (.int (cellD s)) := atI_nat (by rw [List.getElem?_map, List.getElem?_eq_getElem hlt, cA]; rfl)
  refine ⟨_, rfl, _, rfl, _, _, _, _, rfl, rfl, SqL.of tr1, atr, restD s, 0, rfl, rfl, _, rfl, ?_⟩
  by_cases hb : 0 < restD s
  · rw [decide_eq_true hb]
    refine iteT ?_
    rw [if_pos hb] at h
    refine ⟨_, rfl, _, rfl, _, _, _, _, rfl, rfl, SqL.of tr1, atr, _, rfl, restD s, n, rfl, rfl, c1, ?_⟩
    refine ⟨_, rfl, _, rfl, _, _, _, _, rfl, rfl, SqL.of tr1, atr, _, rfl, restD s, n, rfl, rfl, ⟨c1, c2⟩, ?_⟩
    refine ⟨_, rfl, _, rfl, _, _, _, _, rfl, rfl, tr1, ixN_nat (by simpa using hltr), ?_⟩
    refine ⟨_, rfl, ?_⟩
    exact h _ _ [] (k1.trans (dk_keep tr1 (.inr (.inr (.inl rfl)))) fun a z => .inl z) nilF (RO.sh (sh_int.mpr rfl)) (dk_rests dk1 ne1 ne2 t1 (ixD s) (restD s / n))
  · rw [decide_eq_false hb]
    refine iteF ?_
    rw [if_neg hb] at h
    have m0 : 0 ≤ cellD s % 2147483629 := Int.emod_nonneg _ (by decide)
    have m1 : cellD s % 2147483629 < 2147483629 := Int.emod_lt_of_pos _ (by decide)
    refine ⟨_, rfl, _, rfl, _, _, _, _, rfl, rfl, SqL.of tc1, atc, cellD s, 2147483629, rfl, rfl, (show (0 : Int) < 2147483629 by decide), _, rfl, 40031, s.cnt, rfl, rfl, .inl ⟨by decide, by decide⟩, _, _, rfl, rfl, _, 8011, rfl, rfl, _, 3, rfl, rfl, ⟨by decide, by decide, by omega⟩, _, 2147483587, rfl, rfl, (show (0 : Int) < 2147483587 by decide), ?_⟩
    have p0 : 0 ≤ mixD1 s := Int.emod_nonneg _ (by decide)
    have p1 : mixD1 s < 2147483587 := Int.emod_lt_of_pos _ (by decide)
    change (tSeq _ _) _ [some (.ref g.1), some (.int n), some (.int (ixD s : Nat)), some (.int (mixD1 s)), some (.ref g.2.1), some (.int s.cnt), some (.ref g.2.2), none] Ha
    have b1 : 5021 * s.cnt ≤ 5021 * 1048576 := by omega
    have b2 : 0 ≤ 5021 * s.cnt * s.cnt := Int.mul_nonneg (by omega) c3
    have b3 : 5021 * s.cnt * s.cnt ≤ 5021 * 1048576 * 1048576 := Int.mul_le_mul b1 (by omega) c3 (by decide)
    refine ⟨_, rfl, _, rfl, 5021, s.cnt, rfl, rfl, .inl ⟨by decide, by decide⟩, _, rfl, 5021 * s.cnt, s.cnt, rfl, rfl, .inr ⟨by omega, by omega⟩, mixD1 s, _, rfl, rfl, _, 41, rfl, rfl, _, 3, rfl, rfl, ⟨by decide, by decide, by omega⟩, _, 2147483563, rfl, rfl, (show (0 : Int) < 2147483563 by decide), ?_⟩
    change tRet (tMod (tDiv (tMod (tMul (tVar 3) (tC (.int 65537))) (tC (.int 2305843009213693951))) (tC (.int 8))) (tVar 1)) { nx := fun _ H' => Q .non H', rt := Q } [some (.ref g.1), some (.int n), some (.int (ixD s : Nat)), some (.int (mixD2 s)), some (.ref g.2.1), some (.int s.cnt), some (.ref g.2.2), none] Ha
    refine ⟨_, rfl, mixD2 s, 65537, rfl, rfl, .inr ⟨by decide, by decide⟩, _, 2305843009213693951, rfl, rfl, (show (0 : Int) < 2305843009213693951 by decide), _, 8, rfl, rfl, ⟨by decide, by decide⟩, _, rfl, _, n, rfl, rfl, c1, ?_⟩
    exact h _ _ [] k1 nilF (RO.sh (sh_int.mpr rfl)) dk1
end PV
namespace PV
open PySem PySem.Spec L2
theorem op_eqI {X : Cx} : OpR X (compareOp .Eq) (rI0 fun i j => .bl (decide (i = j))) := by
  intro pins s σ H x y v u Q I rx ry h
  obtain ⟨i, j, rfl, rfl, q⟩ := h
  refine op_eq pins s σ H (.int i) (.int j) v u Q I rx ry ⟨rfl, ?_⟩
  have e : decide (V.int i = V.int j) = decide (i = j) := decide_eq_decide.mpr ⟨fun h => by cases h; rfl, fun h => by rw [h]⟩
  rw [e]; exact q
noncomputable def stR (cs : List Int → List Int) (ns : List Int) : DS := ⟨cs ns, 0, (cs ns).map bigD, []⟩
theorem law_bodyR {xc : XC} {K : PySem.W.Frag} {cl : Nat → List Arg → DS → FRes} {W : WX} {N : List Str} {i : Nat} {ib : Ss} {H : Hp} {Q : VK} {E : XK} {E' : L2.St → XK} {vs : List V} {cs : List Int → List Int} (hi : i < N.length) (h0 : 0 < N.length)
    (h : spLaw K (fun ns => ∃ m, exs cl ib ⟨(List.replicate N.length Slot.un).set i (.dk 0), stR cs ns⟩ = .ok (.rt (.v (.bool true))) m) vs H Q E) :
    tSeq (tAsg (tCallG (spDraws K cs) E' (tCons (tVar 0) tNil)) (gName i)) (tS xc K W (asgSs ib) fun m => exs cl ib m) { nx := fun _ H' => Q .non H', rt := Q } (L2.start N vs) H := by
  obtain ⟨a, ns, rfl, hs, hT, hl, ⟨m, hm⟩, q⟩ := h
  have s0 : (L2.start N [.ref a])[0]? = some (some (.ref a)) := rfl
  refine ⟨_, s0, a, ns, rfl, hs, hl, fun H1 d c r k nd nc nr ne ner nec hd hc hr => ?_⟩
  have tT : LamX.Tabs (TBL K) H1 := fun p hp => TabS.keep (hT p hp) k id
  let g : Gd := ⟨d, (c, r), [], TBL K⟩
  have dk : DkRep g (stR cs ns) H1 := ⟨hc, ne, .inr ⟨ner, nec, hd, hr⟩, .nil, OSt.nil, tT⟩
  have no : ∀ {j : Nat}, isOwn ((List.replicate N.length Slot.un).set i (.dk 0))[j]? = false := fun {j} => by
    cases q : ((List.replicate N.length Slot.un).set i (.dk 0))[j]? with
    | none => rfl
    | some sl => rcases e_un q with ⟨_, rfl, _⟩ | rfl <;> rfl
  have sl : (L2.start N [.ref a]).length = N.length := by unfold L2.start; simp; omega
  refine ⟨g, DkS g, (List.replicate N.length Slot.un).set i (.dk 0), _, ⟨fun _ z => z, fun b z => ?_, ⟨by simp [sl], fun j s h => ?_, fun j k b z _ _ _ => by rw [no] at z; cases z⟩, dk, GOb.nil⟩, ?_⟩
  · rcases z with z | z | z | ⟨o, z, _⟩ | ⟨p, hp, z⟩
    rotate_right
    · obtain ⟨ps, e, _⟩ := tT p hp
      rw [z, e]; exact fun q => nomatch q
    rotate_right
    · exact nomatch (show o ∈ ([] : List OA) from z)
    · rw [z]; show H1 d ≠ none; rw [hd]; simp
    · rw [z]; show H1 c ≠ none; rw [hc]; simp
    · rw [z]; show H1 r ≠ none; rw [hr]; simp
  · rcases e_un h with ⟨rfl, rfl, l⟩ | rfl
    · show ((L2.start N [.ref a]).set j (some (.ref d)))[j]? = _
      rw [List.getElem?_set_self (by rw [sl]; exact l)]; rfl
    · trivial
  · show PostS xc K W g _ _ _ H1 _ _ (exs cl ib ⟨(List.replicate N.length Slot.un).set i (.dk 0), stR cs ns⟩)
    rw [hm]
    intro v σ' H' F t
    have hv := t.rv.2
    rw [sh_bool.mp hv]
    exact q H'
end PV
namespace PV
open PySem PySem.Spec L2
end PV
namespace PV
open PySem PySem.Spec L2
end PV
namespace PV
open PySem PySem.Spec L2
end PV
namespace PV
open PySem PySem.Spec PyProof.Rows L2
end PV
namespace PV
open PySem PySem.Spec L2
end PV
namespace PV
open PySem PySem.Spec L2
end PV
namespace PV
open PySem PySem.Spec PyProof.Rows L2
/-- {k: v}, k a tuple of numbers and texts; the new dict stands empty meanwhile -/
noncomputable def tDispT (tk tv : TE) : TE := fun σ H Q => ∀ p, H p = none → tk σ (upd H p (.dT [])) fun x H1 => tv σ H1 fun y H2 => H2 p = some (.dT []) ∧ ∃ (b : Addr) (k : List Key), x = .ref b ∧ H2 b = some (.tup (k.map kV)) ∧ Q (.ref p) (upd H2 p (.dT [(k, y)]))
noncomputable def dispQ (p : Addr) (Q : VK) : List (V × V) → Hp → Prop
  | [(x, y)], H2 => H2 p = some (.dT []) ∧ ∃ (b : Addr) (k : List Key), x = .ref b ∧ H2 b = some (.tup (k.map kV)) ∧ Q (.ref p) (upd H2 p (.dT [(k, y)]))
  | _, _ => False
theorem pe_dispT {X : Cx} {pos : Pos} {k v : Expr} {tk tv : TE} (hu : X.A.units < cLine) (hk : PE X k tk) (hv : PE X v tv) : PE X (.Dict [some k] [v] pos) (tDispT tk tv) := by
  refine ⟨fun pins s σ H Q I q => ?_⟩
  have hn := I.hok.fresh (Nat.le_refl s.heap.objs.size)
  have I1 := I.laid (a := s.heap.objs.size) (o := .dT []) (h' := s.heap.push { cls := .type "dict", data := .dict #[] }) (t' := s.toks) (fun _ _ q => Heap.get?_push_of_some _ q) (Nat.le_refl _) (dt_empty s.heap I.big)
  refine wpAny_Dict_any rfl rfl (by simp) (by simp) ?_
  refine thn ((pps_cons hk hv pps_nil).run pins _ σ _ (dispQ s.heap.objs.size Q) I1 (q _ hn)) fun ws s2 ⟨ps, H2, I2, rel, q2⟩ => ?_
  cases rel with
  | nil => exact q2.elim
  | @cons a0 b0 l1 l2 h hn =>
    cases hn with
    | cons _ _ => exact q2.elim
    | nil =>
      obtain ⟨x, y⟩ := a0
      obtain ⟨e, b, kk, rfl, eb, q3⟩ := q2
      obtain ⟨h1, h2⟩ := h
      obtain ⟨u, r⟩ := b0
      cases (show u = Value.ref b from h1)
      obtain ⟨z, hd, xs, rl, dd⟩ := dt_of I2.hok e
      cases rl
      refine wpAny_storeAllH (knd := tupleKind (mixKind X.prog X.w)) hu [(.ref b, r)] [(kk, b, r)] [] s2 _ ⟨rfl, rfl, key_of I2.hok eb, trivial⟩ dd (by rw [sizeLine_eq]; simp) fun h' tk' dd' hs => ?_
      refine ⟨.ref s.heap.objs.size, _, ?_, rfl, q3⟩
      obtain ⟨q, es, ep, hq, g2, g3, g4, _, g5⟩ := dd'
      refine d_write I2 (by rw [e]; exact True.intro) hs ⟨q, hq⟩ ⟨by rw [sizeLine_eq]; simp, hd, [(kk, b, r)], ?_, q, es, ep, hq, g2, g3, g4, g5⟩
      refine .cons ⟨rfl, ?_, h2⟩ .nil
      show upd H2 s.heap.objs.size _ b = _
      rw [upd_ne (ne_of eb e (fun z => nomatch z))]
      exact eb
section
variable {xc : XC} {K : PySem.W.Frag} {W : WX} {cl : Nat → List Arg → DS → FRes} {σ : L2.St} {H : Hp} {Q : VK} {k v : E}
theorem key_vT {O : AP} {H : Hp} {x : V} {dk : PyData} (h : keyOk true dk = true) (r : Sh K O H x dk) : ∃ (b : Addr) (kk : List Key), x = .ref b ∧ H b = some (.tup (kk.map kV)) ∧ dk = keyT kk := by
  cases dk with
  | tuple ds =>
    cases hk : toKeys ds with
    | none => simp [keyOk, hk] at h
    | some kk =>
      obtain ⟨b, xs, rfl, ht, _, sx⟩ := sh_tuple.mp r
      obtain ⟨e1, e2⟩ := toKeys_sh hk sx
      subst e1 e2
      exact ⟨b, kk, rfl, ht, rfl⟩
  | _ => simp [keyOk] at h
theorem dspT_ok (h : tE xc K W (fun m => ev cl (.dsp true k v) m) σ H Q) : tDispT (tE xc K W fun m => ev cl k m) (tE xc K W fun m => ev cl v m) σ H Q := by
  obtain ⟨g, O0, e, s, G, h⟩ := h
  intro p np
  have t0 : Stp K g O0 e σ H [p] ⟨e, s⟩ (upd H p (.dT [])) := G.pure (Keep.new np) (newF np)
  have G1 := G.step t0
  have h : PostE xc K W g O0 e σ H Q (match ev cl k ⟨e, s⟩ with
    | .ok (.v dk) m1 => match ev cl v m1 with
      | .ok (.v dv) m2 => if keyOk true dk = true then .ok (.fd true [(dk, dv)]) m2 else .bad
      | _ => .bad
    | _ => .bad) := h
  refine ⟨g, plus O0 [p], e, s, G1, ?_⟩
  show PostE xc K W g (plus O0 [p]) e σ (upd H p (.dT [])) _ (ev cl k ⟨e, s⟩)
  cases hk : ev cl k ⟨e, s⟩ with
  | bad => rw [hk] at h; exact h
  | rz c f m1 => rw [hk] at h; exact h.elim
  | ok r m1 =>
    rw [hk] at h
    cases r with
    | v dk =>
      intro x H1 F t1 rx
      obtain ⟨rfl, rx⟩ := rx
      have G2 := G1.step t1
      refine ⟨g, plus (plus O0 [p]) [], m1.e, m1.s, G2, ?_⟩
      show PostE xc K W g (plus (plus O0 [p]) []) m1.e σ H1 _ (ev cl v m1)
      simp only at h
      cases hv : ev cl v m1 with
      | bad => rw [hv] at h; exact h
      | rz c f m2 => rw [hv] at h; exact h.elim
      | ok r2 m2 =>
        rw [hv] at h
        cases r2 with
        | v dv =>
          intro y H2 F2 t2 ry
          obtain ⟨rfl, ry⟩ := ry
          simp only at h
          by_cases hko : keyOk true dk = true
          · rw [if_pos hko] at h
            obtain ⟨bk, kk, rfl, hbk, rfl⟩ := key_vT hko rx
            have no : ∀ a, own m2.e σ a → own e σ a := fun a z => t1.own a (t2.own a z)
            have nop : ¬ own e σ p := fun z => by
              obtain ⟨_, o, ho, _⟩ := G.rep.owned z
              rw [np] at ho; cases ho
            have ndk : ¬ DkS g p := fun z => G.oe p (G.dk0 p z) np
            have hp1 : H1 p = some (.dT []) := t1.keep.stay p _ upd_same (.inl fun z => z.elim nop ndk)
            have hp2 : H2 p = some (.dT []) := t2.keep.stay p _ hp1 (.inl fun z => z.elim (fun z => nop (t1.own p z)) ndk)
            have hbk2 : H2 bk = some (.tup (kk.map kV)) := t2.keep.stay bk _ hbk (.inr rfl)
            refine ⟨hp2, bk, kk, rfl, hbk2, ?_⟩
            have kw : Keep (fun a => a = p) H2 (upd H2 p (.dT [(kk, y)])) := Keep.write hp2 rfl rfl
            have inP : ∀ {O : AP} (a : Addr), a = p → plus (plus (plus O [p]) []) [] a := fun {O} a z => .inl (.inl (.inr (by rw [z]; exact List.mem_singleton_self p)))
            have wk : ∀ {O : AP} (a : Addr), plus O [p] a → plus (plus (plus O [p]) []) [] a := fun {O} a z => .inl (.inl z)
            refine h (.ref p) _ [p] ⟨⟨fun a o ho c => ?_, fun a z => ?_⟩, no, fun q hq => ?_, ?_, ?_⟩ ⟨p, .dT [(kk, y)], rfl, rfl, upd_same, [(kk, y)], rfl, .cons ⟨rfl, ?_⟩ .nil⟩
            · have ne : a ≠ p := fun z => by rw [z, np] at ho; cases ho
              rw [upd_ne ne]
              have h0 : (upd H p (.dT [])) a = some o := by rw [upd_ne ne]; exact ho
              have h1 := t1.keep.stay a o h0 c
              exact t2.keep.stay a o h1 (c.imp (fun n z => n (z.imp (fun z => t1.own a z) id)) id)
            · by_cases q : a = p
              · rw [q, upd_same] at z; cases z
              · rw [upd_ne q] at z
                have := t1.keep.old a (t2.keep.old a z)
                rwa [upd_ne q] at this
            · have : q = p := by simpa using hq
              subst this
              exact ⟨np, fun z => G.oe q z np, fun z => nop (no q z), by rw [upd_same]; simp⟩
            · exact t2.rep.go kw (fun a z => inP a z) fun a z => .inl (wk a z)
            · exact t2.dk.keep kw fun a z q => ndk (by rw [← z]; exact q)
            · exact ry.go kw (fun a z => .inl (inP a z)) fun a z => .inl (z.imp (wk a) id)
          · rw [if_neg hko] at h; exact h.elim
        | _ => exact h.elim
    | _ => exact h.elim
end
section
variable {X : Cx} {xc : XC} {W : WX} {cl : Nat → List Arg → DS → FRes} {a b : Expr} {ea eb : E} {pos : Pos}
theorem d_dspT {k : Nat} (d : Bd X W k) (ha : DE X xc W cl a ea) (hb : DE X xc W cl b eb) : DE X xc W cl (.Dict [some a] [b] pos) (.dsp true ea eb) :=
  PEimp (pe_dispT d.ok.un1 ha hb) fun σ H Q h => dspT_ok h
end
end PV
namespace PV
open PySem PySem.Spec L2
noncomputable abbrev PrD (K : PySem.W.Frag) (O : AP) (H : Hp) : List (Key × V) → List (PyData × PyData) → Prop := Paired fun p q => q.1 = keyD p.1 ∧ Sh K O H p.2 q.2
theorem PrD.go {K : PySem.W.Frag} {O O' M : AP} {H H' : Hp} {ks : List (Key × V)} {acc : List (PyData × PyData)} (h : PrD K O H ks acc) (k : Keep M H H') (m : ∀ a, M a → O a) (n : ∀ a, O' a → O a ∨ H a = none) : PrD K O' H' ks acc :=
  Paired.imp h fun _ _ q => ⟨q.1, q.2.go k m n⟩
theorem PrD.weak {K : PySem.W.Frag} {O O' : AP} {H : Hp} {ks : List (Key × V)} {acc : List (PyData × PyData)} (n : ∀ a, O' a → O a) (h : PrD K O H ks acc) : PrD K O' H ks acc :=
  h.go (M := fun _ => False) Keep.refl (fun _ z => z.elim) fun a z => .inl (n a z)
end PV
namespace PV
open PySem PySem.Spec L2 RZ
end PV
namespace PV
open PySem PySem.Spec PyProof.Rows L2
end PV
namespace PV
open PySem PySem.Spec PyProof.Rows L2
/-- what a suite's walk may use -/
structure Bs (X : Cx) : Prop where
  nd : X.N.Nodup
  un : X.A.units + 65 < cLine
  gd : X.A.guards = some []
theorem Bd.s {X : Cx} {W : WX} {k : Nat} (d : Bd X W k) {a : Addr} {pn : List (Addr × Obj)} : Bs (X.suite a pn) := ⟨d.ok.nd, d.ok.un, d.ok.gd⟩
theorem Bd.t {X : Cx} {W W' : WX} {k : Nat} (d : Bd X W k) {pn : List (Addr × Obj)} {xe : Value → Shared → Prop} (tk : Takes (X.tr pn xe) W') (ps : PassesOwn (model X.prog X.w) X.A X.env xe) : Bd (X.tr pn xe) W' k := ⟨⟨d.ok.calm, d.ok.nd, d.ok.un, d.ok.gd⟩, d.room, ps, tk⟩
end PV
namespace PV
open PySem PySem.Spec PyProof.Rows L2
section
variable {X : Cx} {xc : XC} {W : WX} {cl : Nat → List Arg → DS → FRes} {k : Nat} {a b e : Expr} {ea eb : E} {as : Es} {n : Str} {p pos : Pos}
variable (d : Bs X)
include d
theorem z_repr (hm : X.mg "repr" = none) (ha : DA X xc W cl [e] as) (hg : Gl X "repr" := by rfl) (he : starEach [e] X.env = [(false, eval e X.env)] := by rfl) : DE X xc W cl (.Call (.Name "repr" p) [e] [] pos) (.op .repr as) := de_blt (call_repr d.un d.gd) (.of v_repr) hg hm (by rfl) ha (he := he)
end
theorem FnT.walkJ {P : Program} {w : World} {K : PySem.W.Frag} {mg : Str → Option Value} {base : Heap} {xc : XC} {tb : Nat → Option FSem} {k j : Nat} {n n0 qual : Str} {f : Nat} {st : Stmt} {fa : Addr} {fd : FuncData} {N ps : List Str} {ib : Ss}
    (F : Fun K n0 qual st fa fd) (hm : mg n = some (.ref fa)) (hb : Binds K fd ps []) (S : FnScope N ps (defScope st)) (ht : tb f = some (.df ⟨N.length, ps.length, ib⟩)) (w' : WalkB P w K mg base N qual st xc (run tb k) j ib) : FnT P w K mg base xc (run tb (k + 1)) (j + 1) n f ps.length := by
  have e : run tb (k + 1) f = runB (run tb k) ⟨N.length, ps.length, ib⟩ := by
    funext as s
    show (match tb f with
      | some (.prim g) => g as s
      | some (.df fd) => runB (run tb k) fd as s
      | none => .bad) = _
    rw [ht]
  refine ⟨⟨fa, fd, ps, ?_, hm, F.kp, hb⟩, fun as s h => ?_⟩
  · rw [e]; exact def_ok F S fun cdv A outer s H E b => w' fa cdv A outer s H E b
  · rw [e] at h; exact runB_len h
theorem FnT.zeroJ {P : Program} {w : World} {K : PySem.W.Frag} {mg : Str → Option Value} {base : Heap} {xc : XC} {tb : Nat → Option FSem} {n n0 qual : Str} {f j : Nat} {st : Stmt} {fa : Addr} {fd : FuncData} {ps : List Str}
    (F : Fun K n0 qual st fa fd) (hm : mg n = some (.ref fa)) (hb : Binds K fd ps []) : FnT P w K mg base xc (run tb 0) j n f ps.length :=
  ⟨⟨fa, fd, ps, ⟨fun vs H Q E h => h.1, fun A outer s H args us vs Q E _ _ _ _ _ h => by
    obtain ⟨_, g, O, as, s, _, _, _, _, _, h⟩ := h
    exact h.elim⟩, hm, F.kp, hb⟩, fun as s h => absurd rfl h⟩
theorem FnT.more {P : Program} {w : World} {K : PySem.W.Frag} {mg : Str → Option Value} {base : Heap} {xc : XC} {cl : Nat → List Arg → DS → FRes} {j k : Nat} {n : Str} {f np : Nat} (h : FnT P w K mg base xc cl k n f np) (l : k ≤ j) : FnT P w K mg base xc cl j n f np := by
  obtain ⟨⟨fa, fd, ps, F, h1, h2, h3⟩, h4⟩ := h
  exact ⟨⟨fa, fd, ps, F.mono l, h1, h2, h3⟩, h4⟩
end PV
namespace PV
open PySem PySem.Spec PyProof.Rows L2
end PV
namespace PV
open PySem PySem.Spec PyProof.Rows L2
/-- two cells apart from a list that grows -/
structure ZSt (h : Heap) (Y TI TO i1 i2 l1 l2 S : Addr) (xs ys : Array Value) (k : Nat) : Prop where
  own : (k = 0 ∧ IsZip h Y TI TO .none ∧ ∃ a b, IsPair h TO a b) ∨ ∃ T f oT, IsZipHeld h Y TI TO T f ∧ h.get? T = some oT ∧ T ≠ Y ∧ T ≠ i1 ∧ T ≠ i2 ∧ T ≠ TO ∧ T ≠ S
  pr : IsPair h TI (.ref i1) (.ref i2)
  j1 : h.IsTupleIter i1 l1 k
  j2 : h.IsTupleIter i2 l2 k
  t1 : h.IsTuple l1 xs
  t2 : h.IsTuple l2 ys
section
variable {prog : Program} {w : World} {A : Around} {E : Value → Shared → Prop} {s : Shared} {Y TI TO i1 i2 l1 l2 S : Addr} {xs ys : Array Value} {k : Nat}
theorem ZSt.keep {h h' : Heap} (z : ZSt h Y TI TO i1 i2 l1 l2 S xs ys k) (hk : ∀ b o, b ≠ S → h.get? b = some o → h'.get? b = some o) (n1 : Y ≠ S) (n2 : TI ≠ S) (n3 : TO ≠ S) (n4 : i1 ≠ S) (n5 : i2 ≠ S) (n6 : l1 ≠ S) (n7 : l2 ≠ S) : ZSt h' Y TI TO i1 i2 l1 l2 S xs ys k := by
  obtain ⟨w1, w2, w3, w4, w5, w6⟩ := z
  refine ⟨?_, hk _ _ n2 w2, w3.at fun o q => hk _ _ n4 q, w4.at fun o q => hk _ _ n5 q, ?_, ?_⟩
  · rcases w1 with ⟨e, a, b, c, d⟩ | ⟨T, f, oT, a, b, c, d, e, g, i⟩
    · exact .inl ⟨e, hk _ _ n1 a, b, c, hk _ _ n3 d⟩
    · exact .inr ⟨T, f, oT, hk _ _ n1 a, hk _ _ i b, c, d, e, g, i⟩
  · obtain ⟨o, a, b⟩ := w5; exact ⟨o, hk _ _ n6 a, b⟩
  · obtain ⟨o, a, b⟩ := w6; exact ⟨o, hk _ _ n7 a, b⟩
end
theorem vals_len {xs : List V} {us : List Value} (h : Vals xs us) : xs.length = us.length := Paired.length h
theorem paired_at {α β : Type} {F : α → β → Prop} : ∀ {xs : List α} {ys : List β}, Paired F xs ys → ∀ {j : Nat} {x : α} {y : β}, xs[j]? = some x → ys[j]? = some y → F x y
  | _, _, .cons h _, 0, _, _, e1, e2 => by cases e1; cases e2; exact h
  | _, _, .cons _ t, j + 1, _, _, e1, e2 => paired_at t e1 e2
  | _, _, .nil, _, _, _, e1, _ => by simp at e1
end PV
namespace PV
open PySem PySem.Spec PyProof.Rows L2
noncomputable def rMinA (K : PySem.W.Frag) : List V → Hp → VK → Prop := fun vs H Q => ∃ (a : Addr) (zs : List V) (d : PyData) (ds : List PyData), vs = [.ref a] ∧ SqL K H a zs ∧ DpAll K H zs (d :: ds) ∧ PySem.W.AlikeAll (d :: ds) ∧ PyData.depthAll (d :: ds) ≤ 60 ∧
  ∀ (i : Nat) (z : V), zs[i]? = some z → (d :: ds)[i]? = some (PySem.W.minD d ds) → Q z H
theorem cr_minA {X : Cx} (hc : X.calm = true) (hu : X.A.units + 65 < cLine) : CallR X (.builtin "min") (rMinA X.K) := by
  intro pins s σ H vs us Q I r h
  obtain ⟨a, zs, d, ds, rfl, hs, hd, hal, hdp, q⟩ := h
  obtain ⟨its, rv, hl, _⟩ := I.list hs
  rw [Vals.ref1 r]
  obtain ⟨as, hr⟩ := Dp.readsAll I _ _ _ hd rv
  refine PySem.W.min_list_data (vs := its.toArray) (I.ok.hd hc) hl.isList (by simpa using hr) hal (by omega) fun i v h' tk bs hv hm hk => ?_
  have hv : its[i]? = some v := by simpa using hv
  have len := vals_len rv
  have hi : i < its.length := (List.getElem?_eq_some_iff.mp hv).1
  obtain ⟨z, hz⟩ : ∃ z, zs[i]? = some z := ⟨zs[i]'(by omega), List.getElem?_eq_getElem _⟩
  have hrel : RelV z v := paired_at rv hz hv
  obtain ⟨bs', hrd, hlt, _, _⟩ := PySem.W.readsAll_at hr i v hv
  have he := (reads_det (fun b o e _ => hk b o e) hrd hm).1
  refine ⟨z, H, I.kept hk, hrel, q i z hz ?_⟩
  rw [he, List.getD_eq_getElem?_getD, List.getElem?_eq_getElem hlt]; rfl
section
variable {K : PySem.W.Frag}
theorem dpAll_sh {O : AP} {H : Hp} : ∀ {zs : List V} {ds : List PyData}, (∀ x ∈ ds, nod x = true) → ShA K O H zs ds → DpAll K H zs ds
  | _, _, _, .nil => .nil
  | _, _, hn, .cons h t => .cons (h.dp (hn _ List.mem_cons_self)) (dpAll_sh (fun x hx => hn x (List.mem_cons_of_mem _ hx)) t)
theorem depthAll_le {n : Nat} : ∀ {ds : List PyData}, (∀ x ∈ ds, x.depth ≤ n) → PyData.depthAll ds ≤ n
  | [], _ => Nat.zero_le _
  | d :: ds, h => by
    show max d.depth (PyData.depthAll ds) ≤ n
    exact Nat.max_le.mpr ⟨h d List.mem_cons_self, depthAll_le fun x hx => h x (List.mem_cons_of_mem _ hx)⟩
theorem v_minA : OpV K (rMinA K) minTD := by
  intro O H vs ds z Q hp hz hQ
  unfold minTD at hz
  split at hz
  · rename_i d ds
    obtain ⟨x, rfl, h1⟩ := p1 hp
    split at hz
    · rename_i hc
      cases hz
      obtain ⟨a, us, rfl, l, hl, q⟩ := t_list h1
      refine ⟨a, us, d, ds, rfl, SqL.of l, dpAll_sh (fun x hx => (hc.2 x hx).1) q, hc.1, by have := depthAll_le (n := 20) fun x hx => (hc.2 x hx).2; omega, fun i y hy hm => ?_⟩
      exact fin_v hQ (paired_at q hy hm)
    · cases hz
  · cases hz
end
section
variable {X : Cx} {xc : XC} {W : WX} {cl : Nat → List Arg → DS → FRes} {k : Nat} {e : Expr} {as : Es} {p pos : Pos}
theorem d_minA (d : Bd X W k) (hm : X.mg "min" = none) (ha : DA X xc W cl [e] as) (hg : Gl X "min" := by rfl) (he : starEach [e] X.env = [(false, eval e X.env)] := by rfl) : DE X xc W cl (.Call (.Name "min" p) [e] [] pos) (.op (.g 11) as) := de_blt (cr_minA d.ok.calm d.ok.un) (.of (o := .g 11) v_minA) hg hm (by rfl) ha (he := he)
end
end PV
namespace PV
open PySem PySem.Spec PyProof.Rows L2 RZ
end PV
namespace PV
open PySem PySem.Spec L2
end PV
namespace PV
open PySem PySem.Spec PyProof.Rows L2
/-- two cells apart from a list that grows -/
structure ZSq (h : Heap) (Y TI TO i1 i2 l1 l2 S : Addr) (xs ys : Array Value) (k : Nat) : Prop where
  own : (k = 0 ∧ IsZip h Y TI TO .none ∧ ∃ a b, IsPair h TO a b) ∨ ∃ T f oT, IsZipHeld h Y TI TO T f ∧ h.get? T = some oT ∧ T ≠ Y ∧ T ≠ i1 ∧ T ≠ i2 ∧ T ≠ TO ∧ T ≠ S
  pr : IsPair h TI (.ref i1) (.ref i2)
  j1 : h.IsListIter i1 l1 k
  j2 : h.IsListIter i2 l2 k
  t1 : h.IsList l1 xs
  t2 : h.IsList l2 ys
section
variable {prog : Program} {w : World} {A : Around} {E : Value → Shared → Prop} {s : Shared} {Y TI TO i1 i2 l1 l2 S : Addr} {xs ys : Array Value} {k : Nat}
theorem ZSq.keep {h h' : Heap} (z : ZSq h Y TI TO i1 i2 l1 l2 S xs ys k) (hk : ∀ b o, b ≠ S → h.get? b = some o → h'.get? b = some o) (n1 : Y ≠ S) (n2 : TI ≠ S) (n3 : TO ≠ S) (n4 : i1 ≠ S) (n5 : i2 ≠ S) (n6 : l1 ≠ S) (n7 : l2 ≠ S) : ZSq h' Y TI TO i1 i2 l1 l2 S xs ys k := by
  obtain ⟨w1, w2, w3, w4, w5, w6⟩ := z
  refine ⟨?_, hk _ _ n2 w2, w3.at fun o q => hk _ _ n4 q, w4.at fun o q => hk _ _ n5 q, ?_, ?_⟩
  · rcases w1 with ⟨e, a, b, c, d⟩ | ⟨T, f, oT, a, b, c, d, e, g, i⟩
    · exact .inl ⟨e, hk _ _ n1 a, b, c, hk _ _ n3 d⟩
    · exact .inr ⟨T, f, oT, hk _ _ n1 a, hk _ _ i b, c, d, e, g, i⟩
  · obtain ⟨o, a, b⟩ := w5; exact ⟨o, hk _ _ n6 a, b⟩
  · obtain ⟨o, a, b⟩ := w6; exact ⟨o, hk _ _ n7 a, b⟩
end
end PV
namespace PV
open PySem PySem.Spec PyProof.Rows L2
noncomputable def rCat : List V → Hp → VK → Prop := fun vs H Q => ∃ ys : List Str, vs = ys.map V.str ∧ Q (.str (catS ys)) H
end PV
namespace PV
open PySem PySem.Spec PyProof.Rows L2
end PV
namespace PV
open PySem PySem.Spec PyProof.Rows L2
section
variable {prog : Program} {w : World} {A : Around} {s : Shared} {f c' a cc b : Addr} {q dn x : Str} {params : Arguments} {scope : Scope} {clo : List (Str × Addr)} {pm ctv : Value} {p1 p2 p3 : Pos}
theorem lamkey_call {k : List Key} {xs : List (List Key × Addr × Value)} {p0 : Addr} {n : Int} {u : Value} (hr : Room 2 A) (hnl : s.heap.NoLimit)
    (ho : s.heap.get? f = some (PySem.W.kla_obj "<lambda>" q params (.Subscript (.Name dn p1) (.Name x p2) p3) scope clo pm c' ctv)) (hcd : s.heap.CodeRec (.ref c') q)
    (hbind : bindArgs (PySem.W.kla_fn "<lambda>" q params (.Subscript (.Name dn p1) (.Name x p2) p3) scope clo pm (.ref c') ctv) ⟨[.ref b], []⟩ = pure [(x, .ref b)])
    (hk : scope.kind = .function) (hco : scope.isCoroutine = false) (hgen : scope.isGenerator = false) (hcell : ∀ y ∈ scope.names, y.2 ≠ .cell) (hx : scope.names.lookup x = some .local) (hd : scope.names.lookup dn = some .free)
    (hcl : clo.lookup dn = some cc) (hv : s.heap.IsCell cc (some (.ref a))) (hkey : (tupleKind (mixKind prog w)).is s.heap k b) (hm : s.heap.DictOfH (tupleKind (mixKind prog w)) a xs) (hp : atKey xs k = some (p0, u)) (hu : ∃ t, u = .int n t)
    (h1 : (dn == ("__debug__" : Str)) = false) (h2 : (x == ("__debug__" : Str)) = false) (h3 : (dn == ("__classdict__" : Str)) = false) :
    wpAny (model prog w) A (call (.ref f) [.ref b]) (PySem.W.KeyPure (.int n) s) (fun _ _ => False) s := by
  obtain ⟨c2, oc, vs, t, e2, hoc, hdc, hvc⟩ := hcd
  refine wpAny_call (codeAny_mono (R := fun r s' => ∃ v, r = .ok (.ret v) ∧ PySem.W.KeyPure (.int n) s v s') ?_ fun r s' hq => ?_)
  rotate_left
  · obtain ⟨v, rfl, hq⟩ := hq
    exact hq
  refine PySem.W.kla_callFunE (by have := hr.dp; omega) ho rfl hco hgen rfl ⟨c2, oc, vs, t, e2, hoc, hdc, hvc⟩ ?_
  rw [hbind]
  refine wpAny_pure (wpAny_newFunctionEnv hcell (fun y hy => by rw [List.mem_singleton.mp hy]; exact hx) (fun h₁ hns hsb => ⟨hnl.fresh _ hsb, ?_⟩) hk)
  have kp : ∀ b o, s.heap.get? b = some o → h₁.get? b = some o := fun b o e => hsb.extBut b o (Nat.ne_of_lt (Heap.lt_size e)) (Heap.get?_push_of_some _ e)
  refine PySem.W.kla_codeExpr ?_
  have hns' : h₁.Ns s.heap.objs.size (fun y => [(x, Value.ref b)].reverse.lookup y) := hns
  refine subD_of PySem.F.slot_dict_getitem.lookup (fun _ _ => rfl) ?_
  obtain ⟨oc2, hc1, hc2⟩ := hv
  refine wpAny_Name (wpAny_loadName_free hk hd hcl ⟨oc2, kp _ _ hc1, hc2⟩ ?_ h3) h1
  refine wpAny_Name (wpAny_loadName_local hk hx hns' (v := .ref b) (by simp) ?_) h2
  have is1 : ∀ {k : List Key} {b : Addr}, (tupleKind (mixKind prog w)).is s.heap k b → (tupleKind (mixKind prog w)).is h₁ k b := fun ⟨o, its, n, e1, e2⟩ => ⟨o, its, n, kp _ _ e1, e2⟩
  have hm' : h₁.DictOfH (tupleKind (mixKind prog w)) a xs := by
    obtain ⟨o, es, ep, e1, e2, e3, e4, e5, e6⟩ := hm
    exact ⟨o, es, ep, kp _ _ e1, e2, e3, e4, fun y hy => is1 (e5 y hy), e6⟩
  have hkey' := is1 hkey
  refine ⟨hm'.typeIs, ?_⟩
  refine wpAny_getItem_heap (tupleKind_room_in1 (by have := hr.un; show A.units + 3 + 1 < cLine; omega)) hkey' hm' hp ?_
  obtain ⟨t, rfl⟩ := hu
  exact ⟨_, rfl, h₁, _, rfl, kp, .int _ _⟩
end
end PV
namespace PV
open PySem PySem.Spec PyProof.Rows L2
section
variable {X : Cx} {pins : List (Addr × Obj)} {σ : L2.St} {H : Hp} {s : Shared}
theorem lam_mk {c P : Addr} {params : Arguments} {body : Expr} {scope : Scope} {pos : Pos} {E Q : Value → Shared → Prop} (I : Inv X pins σ H s) (TB : LamX.TabB X.base X.mg c P) (hcode : X.env.code = .ref c)
    (hT : LamX.TabS H P (X.env.qual ++ "<lambda>")) (hdef : defaultsOf params X.env = ([], [])) (hfree : ∀ y ∈ scope.names, y.2 = .free → ∃ c, X.env.cells.lookup y.1 = some c)
    (h : ∀ (f c' : Addr) (pm ctv : Value) (H1 : Hp) (s1 : Shared), Inv X pins σ H1 s1 → Keep (fun b => b = P) H H1 → LamX.TabS H1 P (X.env.qual ++ "<lambda>") →
      s1.heap.get? f = some (PySem.W.kla_obj "<lambda>" (X.env.qual ++ "<lambda>") params body scope (cloFrom X.env.cells scope.names []) pm c' ctv) → H1 f = none → s1.heap.CodeRec (.ref c') (X.env.qual ++ "<lambda>") → Q (.ref f) s1) :
    wpAny (model X.prog X.w) X.A (eval (.Lambda params body scope pos) X.env) Q E s := by
  obtain ⟨ps, hP, ht, ha⟩ := hT
  have hB := TB.bm.keeps I.bk
  have hP' : s.heap.get? P = some { cls := .none, data := .fields ps } := I.hok P _ hP
  refine PySem.W.kla_eval hdef ?_
  cases hc : codeAmong pos ps.toList with
  | some cv =>
    obtain ⟨c', e, hco⟩ := ha pos cv hc
    subst e
    refine PySem.W.kla_makeFunctionHit (mg := X.mg) (c := c) (P := P) (ps := ps) (closure_ok hfree) I.ok.glob (I.mod.glob.keeps I.bk) hcode (TB.code.keeps I.bk) hP' ht hc hB fun ctv h' tk hx hsz => ?_
    have I1 : Inv X pins σ H { s with heap := h'.push (PySem.W.kla_obj "<lambda>" (X.env.qual ++ "<lambda>") params body scope (cloFrom X.env.cells scope.names []) ((X.mg "__name__").getD .none) c' ctv), toks := tk } := I.kept fun b o e => Heap.get?_push_of_some _ (hx b o e)
    obtain ⟨⟨oc, vs, t, e1, e2, e3⟩, _, _⟩ := I1.hok c' _ hco
    exact h h'.objs.size c' _ ctv H _ I1 Keep.refl ⟨ps, hP, ht, ha⟩ (Heap.get?_push_size _ rfl) (I.hok.fresh hsz) ⟨c', oc, vs, t, rfl, e1, e2, e3⟩
  | none =>
    refine PySem.W.kla_makeFunction (mg := X.mg) (c := c) (P := P) (ps := ps) (closure_ok hfree) I.ok.glob (I.mod.glob.keeps I.bk) hcode (TB.code.keeps I.bk) hP' ht hc TB.gP hB fun c' ctv h' tk hx hge hlt hrec htb => ?_
    obtain ⟨c2, oc, vs, t, e2, hoc, hd, hv⟩ := hrec
    cases e2
    have hsz : s.heap.objs.size ≤ h'.objs.size := Nat.le_trans hge (Nat.le_of_lt hlt)
    have nC : H c' = none := I.hok.fresh hge
    have nPc : P ≠ c' := ne_of_none hP nC
    have I1 := LamX.inv_table (q := X.env.qual ++ "<lambda>") (t' := tk) (more := #[rawInt pos.line, rawInt pos.col, .ref c']) (h' := h'.push (PySem.W.kla_obj "<lambda>" (X.env.qual ++ "<lambda>") params body scope (cloFrom X.env.cells scope.names []) ((X.mg "__name__").getD .none) c' ctv)) I hP
      (fun b o hb e => Heap.get?_push_of_some _ (hx b o hb e)) (Heap.get?_push_of_some _ htb) hge ⟨oc, vs, t, Heap.get?_push_of_some _ hoc, hd, hv⟩
    have kE : Keep (fun b => b = P) H (upd (upd H P (.tbl (ps ++ #[rawInt pos.line, rawInt pos.col, .ref c']))) c' (LamX.CodeO c' (X.env.qual ++ "<lambda>"))) := by
      refine ⟨fun a o e m => ?_, fun a e => ?_⟩
      · have hne : a ≠ P := fun z => by
          rcases m with m | m
          · exact m z
          · rw [z, hP] at e; cases e; cases m
        rw [upd_ne (ne_of_none e nC), upd_ne hne]; exact e
      · by_cases h1 : a = c'
        · rw [h1, upd_same] at e; cases e
        · rw [upd_ne h1] at e
          by_cases h2 : a = P
          · rw [h2, upd_same] at e; cases e
          · rw [upd_ne h2] at e; exact e
    have eL : (ps ++ #[rawInt pos.line, rawInt pos.col, .ref c']).toList = ps.toList ++ [rawInt pos.line, rawInt pos.col, .ref c'] := by simp
    refine h h'.objs.size c' _ ctv _ _ I1 kE ⟨_, by rw [upd_ne nPc, upd_same], by rw [eL]; exact PySem.TriplesOk_snoc _ _ _ _ ht, fun p' cv hcv => ?_⟩ (Heap.get?_push_size _ rfl) ?_ ⟨c', oc, vs, t, rfl, Heap.get?_push_of_some _ hoc, hd, hv⟩
    · rw [eL] at hcv
      rcases LamX.among_app _ ht hcv with z | z
      · obtain ⟨c0, e1, e2⟩ := ha p' cv z
        refine ⟨c0, e1, kE.stay _ _ e2 (.inr rfl)⟩
      · exact ⟨c', z, upd_same⟩
    · have n1 : h'.objs.size ≠ c' := Nat.ne_of_gt hlt
      have n2 : h'.objs.size ≠ P := Nat.ne_of_gt (Nat.lt_of_lt_of_le (Heap.lt_size hP') hsz)
      rw [upd_ne n1, upd_ne n2]
      exact I.hok.fresh hsz
end
end PV
namespace PV
open PySem PySem.Spec PyProof.Rows L2
noncomputable def ivV : Value → Int
  | .int n _ => n
  | _ => 0
noncomputable def keyI (y : List Key × Addr × Value) : PyData := .int (ivV y.2.2)
theorem alike_i (bs : List (List Key × Addr × Value)) : PySem.W.AllAlike (bs.map keyI) := .of fun _ _ => by simp [PySem.W.alike, keyI]
theorem sortable_i (bs : List (List Key × Addr × Value)) : PySem.W.Sortable (bs.map keyI) := .others fun _ => ⟨(fun z => by
  unfold keyI at z
  cases z), (fun _ z => by
  unfold keyI at z
  cases z)⟩
section
variable {X : Cx} {pins : List (Addr × Obj)} {σ : L2.St} {H : Hp} {s : Shared}
theorem sortK_run {a f : Addr} {kvs : List (List Key × V)} {Q : VK} {E : Value → Shared → Prop} (o : Ok X) (un : X.A.units + 30 < cLine) (I : Inv X pins σ H s) (hd : H a = some (.dT kvs))
    (turn : ∀ xs : List (List Key × Addr × Value), KT H kvs xs → s.heap.DictOfH (tupleKind (mixKind X.prog X.w)) a xs → ∀ y ∈ xs, ∀ (h : Heap) (tk : Nat), (∀ b o, s.heap.get? b = some o → h.get? b = some o) →
      wpAny (model X.prog X.w) X.A.in1.in1 (call (.ref f) [.ref y.2.1]) (PySem.W.KeyPure (keyI y) { s with heap := h, toks := tk }) (fun _ _ => False) { s with heap := h, toks := tk })
    (q : ∀ xs : List (List Key × Addr × Value), KT H kvs xs → ∀ p, H p = none → Q (.ref p) (upd H p (.lst ((xs.mergeSort (PySem.W.dataLe false keyI)).map fun y => V.ref y.2.1)))) :
    wpAny (model X.prog X.w) X.A (call (.builtin "sorted") [.ref a] [(Str.ofString "key", .ref f)]) (EP X pins σ Q) E s := by
  obtain ⟨z, lo, xs, rel, dd⟩ := dt_of I.hok hd
  obtain ⟨es, ep, hr, hz, he⟩ := dd.raw
  have hxl : xs.length ≤ sizeLine := by rw [← Paired.length rel]; exact z
  refine call_function_entry_kw PyProof.Rows.kind_sorted PyProof.Rows.plain_sorted PyProof.Rows.entry_sorted (PyProof.Rows.ksk_s1 _ _) ?_
  unfold Builtin.«sorted»
  refine wpAny_bind (m := checkCount "sorted" 1 1 _) (wpAny_pure ?_)
  refine wpAny_bind (PySem.W.kdu_collect (A := X.A.in1) (PySem.KdlSrc.rawDict (es := es) (ep := ep) lo) (I.ok.hd o.calm) hr (by rw [hz]; exact hxl) fun h' tk acc hk' hacc => ?_)
  have hal2 : acc.toList.length = xs.length := by rw [Array.length_toList, hacc.1, hz]
  have hbs : acc.toList = xs.map fun y => Value.ref y.2.1 := by
    refine List.ext_getElem (by rw [hal2, List.length_map]) fun j h1 h2 => ?_
    have e1 : acc[j]? = some acc.toList[j] := by rw [← Array.getElem?_toList]; exact List.getElem?_eq_getElem h1
    obtain ⟨hi, e2⟩ := hacc.2 j _ e1
    obtain ⟨y, e3, e4, _⟩ := he j hi
    rw [e2, e4, List.getElem_map]
    rw [List.getElem?_eq_getElem (by rw [← hal2]; exact h1)] at e3
    rw [Option.some.inj e3]
  have I1 : Inv X pins σ H { s with heap := h', toks := tk } := I.kept hk'
  have e : PySem.W.EachIs (fun v (y : List Key × Addr × Value) => v = Value.ref y.2.1) acc.toList xs := by
    rw [hbs]
    clear hbs hal2 hacc dd he hz rel hxl
    induction xs with
    | nil => exact .nil
    | cons y xs ih => exact .cons rfl ih
  refine wpAny_bind (wpAny_newList ?_ (by rw [hal2]; exact hxl))
  have hoL : (h'.push (seqObj "list" acc.toList.toArray 0)).get? h'.objs.size = some (seqObj "list" acc.toList.toArray 0) := Heap.get?_push_size _ rfl
  show wpAny _ _ _ _ _ { s with heap := h'.push (seqObj "list" acc.toList.toArray 0), toks := tk }
  refine wpAny_bind (wpAny_holding (wpAny_call_entry_kw PyProof.Rows.slot_list_sort ⟨_, hoL, rfl⟩ PyProof.Rows.entry_list_sort ?_ (PyProof.Rows.ksk_l1 _ _)))
  rw [PyProof.Rows.ksk_t1]
  refine PySem.W.keyH_tree (s := { s with heap := h'.push (seqObj "list" acc.toList.toArray 0), toks := tk }) (kz := xs.map keyI) hoL (by rw [List.length_map]; exact hal2.symm) (by rw [hal2]; exact hxl) (alike_i xs) (sortable_i xs) (fun d hd => ?_)
    (PySem.W.keyH_turns (s := { s with heap := h'.push (seqObj "list" acc.toList.toArray 0), toks := tk }) e fun v y hR hy h tk2 kp => ?_) fun h2 tk2 out c kp hD ko => ?_
  · obtain ⟨y, _, rfl⟩ := List.mem_map.mp hd
    show X.A.units + 2 + 0 < cLine
    omega
  · subst hR
    refine turn xs rel dd y hy h tk2 fun b ob eb => kp b ob (Nat.ne_of_lt (Heap.lt_size (hk' _ _ eb))) (Heap.get?_push_of_some _ (hk' _ _ eb))
  · have eo := PySem.W.keyedOut_each keyI ko e
    have hol : out.length = xs.length := (ko.length (by rw [List.length_map]; exact hal2.symm)).trans hal2
    have hv : Vals ((xs.mergeSort (PySem.W.dataLe false keyI)).map fun y => V.ref y.2.1) out := by
      generalize xs.mergeSort (PySem.W.dataLe false keyI) = ys at eo
      clear ko hD kp hol
      induction eo with
      | nil => exact .nil
      | cons r _ ih => exact .cons r ih
    refine ⟨_, rfl, wpAny_pure ⟨_, rfl, .ref h'.objs.size, _, I1.laid (t' := tk2) (o := .lst ((xs.mergeSort (PySem.W.dataLe false keyI)).map fun y => V.ref y.2.1)) (fun b u eb => ?_) (Nat.le_refl _) ⟨by rw [List.length_map, List.length_mergeSort]; exact hxl, out, c, hv, hD⟩, rfl, q xs rel _ (I1.hok.fresh (Nat.le_refl _))⟩⟩
    exact kp b u (Nat.ne_of_lt (Heap.lt_size eb)) (Heap.get?_push_of_some _ eb)
end
end PV
namespace PV
open PySem PySem.Spec PyProof.Rows L2
section
variable {xc : XC} {K : PySem.W.Frag} {W : WX} {cl : Nat → List Arg → DS → FRes} {σ : L2.St} {H : Hp} {Q : VK} {i : Nat}
theorem sortKD_some {d : PyData} {r : R} (h : sortKD [d] = some r) : ∃ ds ns, d = .dict ds ∧ toInts (ds.map (·.2)) = some ns ∧ keysT ds = true ∧ ds ≠ [] ∧ ds.length ≤ LIM ∧ r = .fl ((ds.mergeSort (PySem.W.dataLe false fun p => p.2)).map fun p => p.1) := by
  cases d with
  | dict ds =>
    have h : (match toInts (ds.map (·.2)) with
      | some _ => if keysT ds = true ∧ ds ≠ [] ∧ ds.length ≤ LIM then some (R.fl ((ds.mergeSort (PySem.W.dataLe false fun p => p.2)).map fun p => p.1)) else none
      | none => none) = some r := h
    cases e : toInts (ds.map (·.2)) with
    | none => rw [e] at h; cases h
    | some ns =>
      rw [e] at h
      simp only at h
      split at h
      · rename_i z
        cases h
        exact ⟨ds, ns, rfl, e, z.1, z.2.1, z.2.2, rfl⟩
      · cases h
  | _ => cases h
theorem sortL_post {g : Gd} {O0 : AP} {e : Env} {s : DS} {r0 : R} {d : PyData} (hd : deref e r0 = some d) (hP : PostE xc K W g O0 e σ H Q (match (match dictOp e (.g 32) [r0] with
      | some r => some r
      | none => match derefs e [r0] with
        | some ds => opD (.g 32) ds
        | none => none) with
    | some r => Res.ok r ⟨e, s⟩
    | none => .bad)) : ∃ ds ns, d = .dict ds ∧ toInts (ds.map (·.2)) = some ns ∧ keysT ds = true ∧ ds ≠ [] ∧ PostE xc K W g O0 e σ H Q (.ok (.fl ((ds.mergeSort (PySem.W.dataLe false fun p => p.2)).map fun p => p.1)) ⟨e, s⟩) := by
  have e1 : dictOp e (.g 32) [r0] = none := rfl
  have e2 : derefs e [r0] = some [d] := by simp [derefs, hd]
  rw [e1, e2] at hP
  have hP : PostE xc K W g O0 e σ H Q (match sortKD [d] with
    | some r => Res.ok r ⟨e, s⟩
    | none => .bad) := hP
  cases hz : sortKD [d] with
  | none => rw [hz] at hP; exact hP.elim
  | some r =>
    rw [hz] at hP
    obtain ⟨ds, ns, h1, h2, h3, h4, h5, rfl⟩ := sortKD_some hz
    exact ⟨ds, ns, h1, h2, h3, h4, hP⟩
theorem sortL_ev (h : tE xc K W (fun m => ev cl (.op (.g 32) (.cons (.x i) .nil)) m) σ H Q) : ∃ g O0 e s a o ds ns, Good K g O0 e s σ H ∧ σ[i]? = some (some (.ref a)) ∧ H a = some o ∧ DcIs K (Ow O0 e σ) H o ds ∧ toInts (ds.map (·.2)) = some ns ∧ keysT ds = true ∧ ds ≠ [] ∧
    PostE xc K W g O0 e σ H Q (.ok (.fl ((ds.mergeSort (PySem.W.dataLe false fun p => p.2)).map fun p => p.1)) ⟨e, s⟩) := by
  obtain ⟨g, O0, e, s, G, hP⟩ := h
  cases hs : e[i]? with
  | none =>
    simp only [ev, evs, hs] at hP
    exact hP.elim
  | some sl =>
    have q := G.rep.at' i sl hs
    cases sl with
    | od t kvs =>
      simp only [ev, evs, hs, opE] at hP
      obtain ⟨ds, ns, h1, h2, h3, h4, h5⟩ := sortL_post (d := .dict kvs) (by simp [deref, hs]) hP
      cases h1
      obtain ⟨p, o, q1, _, q2, q3⟩ := q
      exact ⟨g, O0, e, s, p, o, _, ns, G, q1, q2, q3.is, h2, h3, h4, h5⟩
    | sh d =>
      simp only [ev, evs, hs, opE] at hP
      obtain ⟨ds, ns, h1, h2, h3, h4, h5⟩ := sortL_post (r0 := .v d) (d := d) rfl hP
      subst h1
      obtain ⟨v, q1, q2⟩ := q
      obtain ⟨p, o, rfl, _, q3, q4⟩ := sh_dict.mp q2
      exact ⟨g, O0, e, s, p, o, _, ns, G, q1, q3, q4, h2, h3, h4, h5⟩
    | ol ds =>
      simp only [ev, evs, hs, opE] at hP
      obtain ⟨ds, ns, h1, _⟩ := sortL_post (d := .list ds) (by simp [deref, hs]) hP
      cases h1
    | un =>
      simp only [ev, evs, hs] at hP
      exact hP.elim
    | ex a f =>
      simp only [ev, evs, hs] at hP
      exact hP.elim
    | dk k =>
      simp only [ev, evs, hs, opE, derefs, deref] at hP
      exact hP.elim
theorem keysT_dT {O : AP} {o : HO} {ds : List (PyData × PyData)} (h : DcIs K O H o ds) (hk : keysT ds = true) (hn : ds ≠ []) : ∃ ks, o = .dT ks ∧ Paired (fun p q => q.1 = keyT p.1 ∧ Sh K O H p.2 q.2) ks ds := by
  rcases h with ⟨ks, rfl, hp⟩ | h
  · exfalso
    cases hp with
    | nil => exact hn rfl
    | @cons p q ps qs r _ =>
      obtain ⟨q1, q2⟩ := q
      have r1 : q1 = keyD p.1 := r.1
      subst r1
      rcases p with ⟨k | k, v⟩
      · have : keyOk true (PyData.int k) = true := by
          have := List.all_eq_true.mp hk _ List.mem_cons_self
          exact this
        cases this
      · have : keyOk true (PyData.str k) = true := by
          have := List.all_eq_true.mp hk _ List.mem_cons_self
          exact this
        cases this
  · exact h
theorem sh_iv {O : AP} {H : Hp} {v : V} {n : Int} {u : Value} (h : Sh K O H v (.int n)) (r : RelV v u) : ∃ t, u = .int n t := by
  rw [sh_int.mp h] at r
  obtain ⟨t, rfl⟩ := r
  exact ⟨t, rfl⟩
theorem ds_xs {O : AP} {H0 : Hp} : ∀ {ks : List (List Key × V)} {ds : List (PyData × PyData)} {xs : List (List Key × Addr × Value)} {ns : List Int}, Paired (fun p q => q.1 = keyT p.1 ∧ Sh K O H0 p.2 q.2) ks ds → KT H ks xs → toInts (ds.map (·.2)) = some ns →
    ds = xs.map (fun y => (keyT y.1, keyI y)) ∧ ∀ y ∈ xs, (∃ n t, y.2.2 = Value.int n t) ∧ H y.2.1 = some (.tup (y.1.map kV))
  | _, _, _, _, .nil, .nil, _ => ⟨rfl, fun _ z => nomatch z⟩
  | p :: ks, q :: ds, y :: xs, _, .cons r t, .cons r2 t2, hn => by
    obtain ⟨q1, q2⟩ := q
    obtain ⟨r1, r3⟩ := r
    simp only at r1 r3
    subst r1
    cases q2 with
    | int n =>
      cases e : toInts (ds.map (·.2)) with
      | none => simp [toInts, e] at hn
      | some ns' =>
        obtain ⟨h1, h2⟩ := ds_xs t t2 e
        obtain ⟨z1, z2, z3⟩ := r2
        obtain ⟨tk, hu⟩ := sh_iv r3 z3
        refine ⟨by rw [List.map_cons, ← h1, ← z1]; simp [keyI, hu, ivV], fun y' hy => ?_⟩
        rcases List.mem_cons.mp hy with rfl | hy
        · exact ⟨⟨n, tk, hu⟩, by rw [← z1]; exact z2⟩
        · exact h2 y' hy
    | _ => simp [toInts] at hn
/-- the table is written, all else stays -/
theorem DkRep.tbl {g : Gd} {s : DS} {H1 : Hp} {P : Addr} {q : Str} (d : DkRep g s H) (k : Keep (fun b => b = P) H H1) (hg : g.tbs = [(P, q)]) (T1 : LamX.TabS H1 P q) : DkRep g s H1 := by
  obtain ⟨ps, hP, _⟩ := d.tabs (P, q) (by rw [hg]; exact List.mem_singleton_self _)
  have hP : H P = some (.tbl ps) := hP
  have ne : ∀ {a : Addr} {u : HO}, H a = some u → (∀ ps, u ≠ .tbl ps) → ¬ a = P := fun e n z => by
    rw [z, hP] at e; cases e; exact n _ rfl
  have st : ∀ {a : Addr} {u : HO}, H a = some u → (∀ ps, u ≠ .tbl ps) → H1 a = some u := fun e n => k.stay _ _ e (.inl (ne e n))
  refine ⟨st d.cells (fun _ z => nomatch z), d.ne, ?_, ?_, d.st, fun p hp => ?_⟩
  · rcases d.top with ⟨e, t⟩ | ⟨e1, e2, t1, t2⟩
    · exact .inl ⟨e, st t (fun _ z => nomatch z)⟩
    · exact .inr ⟨e1, e2, st t1 (fun _ z => nomatch z), st t2 (fun _ z => nomatch z)⟩
  · refine Paired.memL d.obs fun oa b _ r => r.keep k fun a ha => ?_
    cases b with
    | board sts eds ask =>
      obtain ⟨h0, h1, ⟨xs, h2, _⟩, ⟨ys, h3, _⟩⟩ := r
      have e : oa.all = [oa.p, oa.l1, oa.l2] := by unfold OA.all; rw [h0]; rfl
      rw [e] at ha
      simp only [List.mem_cons, List.not_mem_nil, or_false] at ha
      rcases ha with rfl | rfl | rfl
      · exact ne h1 (fun _ z => nomatch z)
      · exact ne h2 (fun _ z => nomatch z)
      · exact ne h3 (fun _ z => nomatch z)
    | shell j =>
      obtain ⟨h0, h1, _⟩ := r
      have e : oa.all = [oa.p] := by unfold OA.all; rw [h0]; rfl
      rw [e] at ha
      rw [List.mem_singleton.mp ha]
      exact ne h1 (fun _ z => nomatch z)
  · rw [hg] at hp
    rw [List.mem_singleton.mp hp]; exact T1
end
/-- the lambda: its parameter x, the captured name dn -/
structure LamK (sc scope : Scope) (x dn : Str) : Prop where
  kind : scope.kind = .function
  co : scope.isCoroutine = false
  gen : scope.isGenerator = false
  cell : ∀ y ∈ scope.names, y.2 ≠ .cell
  par : scope.names.lookup x = some .local
  cap : scope.names.lookup dn = some .free
  free : ∀ y ∈ scope.names, y.2 = .free → sc.names.lookup y.1 = some .cell
  own : sc.names.lookup dn = some .cell
section
variable {X : Cx} {xc : XC} {W : WX} {cl : Nat → List Arg → DS → FRes} {k i : Nat} {dn x : Str} {params : Arguments} {scope : Scope} {c P : Addr} {p p1 p2 p3 p4 lpos kpos pos : Pos}
theorem d_sortL (d : Bd X W k) (hk : 4 ≤ k) (hm : X.mg "sorted" = none) (TB : LamX.TabB X.base X.mg c P) (hcode : X.env.code = .ref c) (hTB : TBL X.K = [(P, X.env.qual ++ "<lambda>")]) (i : Nat) (L : LamK X.env.scope scope x dn)
    (hdef : defaultsOf params X.env = ([], []) := by rfl)
    (hbind : ∀ (q : Str) (cl : List (Str × Addr)) (pm cv ctv u : Value), bindArgs (PySem.W.kla_fn "<lambda>" q params (.Subscript (.Name dn p2) (.Name x p3) p4) scope cl pm cv ctv) ⟨[u], []⟩ = pure [(x, u)] := by intros; rfl)
    (hN : X.N[i]? = some dn := by rfl) (hg : Gl X "sorted" := by rfl)
    (h1 : (dn == ("__debug__" : Str)) = false := by decide) (h2 : (x == ("__debug__" : Str)) = false := by decide) (h3 : (dn == ("__classdict__" : Str)) = false := by decide)
    (he : backTo pos (starEach [.Name dn p1] X.env) = (false, eval (.Name dn p1) X.env) :: backTo pos (starEach [] X.env) := by rfl) (hpl : (backTo pos (starEach [.Name dn p1] X.env)).any (·.1) = false := by rfl) :
    DE X xc W cl (.Call (.Name "sorted" p) [.Name dn p1] [⟨some "key", .Lambda params (.Subscript (.Name dn p2) (.Name x p3) p4) scope lpos, kpos⟩] pos) (.op (.g 32) (.cons (.x i) .nil)) := by
  refine ⟨fun pins s σ H Q I h => ?_⟩
  obtain ⟨g, O0, e, s0, a, o, ds, ns, G, hσ, hHa, hdc, hns, hkt, hne, hP⟩ := sortL_ev h
  obtain ⟨ks, rfl, hpair⟩ := keysT_dT hdc hkt hne
  have hgt : g.tbs = [(P, X.env.qual ++ "<lambda>")] := G.ob.tb.trans hTB
  have hT : LamX.TabS H P (X.env.qual ++ "<lambda>") := G.dk.tabs (P, _) (by rw [hgt]; exact List.mem_singleton_self _)
  have hvis : Vis X.env.scope dn := .inr (.inl L.own)
  have hfree : ∀ y ∈ scope.names, y.2 = .free → ∃ c, X.env.cells.lookup y.1 = some c := fun y hy e => I.ok.has _ (.inl (L.free y hy e))
  refine wpAny_Call_Name_kw (ld_blt I hg hm (by rfl) ?_)
  refine PyProof.Rows.callWith_kw (thn ((pa_cons (pe_var (pos := p1) hN hvis h1 h3) pa_nil he).run pos pins s σ H (fun vs H1 => vs = [.ref a] ∧ H1 = H) I ⟨.ref a, hσ, rfl, rfl⟩) fun us s1 ⟨vs, H1, I1, r1, q1⟩ => ?_) he hpl (by rfl) (by rfl)
  obtain ⟨rfl, rfl⟩ := q1
  obtain rfl := Vals.ref1 r1
  refine wpAny_evalAll_cons (wpAny_bind (lam_mk I1 TB hcode hT hdef hfree fun f c' pm ctv H2 s2 I2 kE T1 hf hfn hcd => wpAny_bind (wpAny_standAt (wpAny_pure ?_))))
  refine wpAny_evalAll_nil ?_
  have hPn : ∀ {b : Addr} {u : HO}, H1 b = some u → (∀ ps, u ≠ .tbl ps) → H2 b = some u := fun {b u} e n => kE.stay _ _ e (.inl fun z => by
    obtain ⟨ps, hP', _⟩ := hT
    rw [z, hP'] at e; cases e; exact n _ rfl)
  have hd2 : H2 a = some (.dT ks) := hPn hHa (fun _ z => nomatch z)
  have dk2 : DkRep g s0 H2 := G.dk.tbl kE hgt T1
  have un := d.ok.un
  refine sortK_run (f := f) d.ok (by have := d.room.un; omega) I2 hd2 (fun xs rel dd y hy h tk ext => ?_) (fun xs rel p np => ?_)
  · obtain ⟨_, hall⟩ := ds_xs hpair rel hns
    obtain ⟨⟨n, t, hn⟩, hty⟩ := hall y hy
    have hki : keyI y = .int n := by unfold keyI; rw [hn]; rfl
    rw [hki]
    obtain ⟨m, hm1, hl⟩ := I2.loc
    obtain ⟨u, ru, l⟩ := hl i dn (.ref a) hN hσ hvis
    obtain rfl : u = Value.ref a := ru
    have hown : X.env.scope.names.lookup dn = some .cell := L.own
    obtain ⟨cc, hcc, hcell⟩ : ∃ cc, X.env.cells.lookup dn = some cc ∧ s2.heap.IsCell cc (some (.ref a)) := by
      rcases l with ⟨hk', _⟩ | ⟨_, cc, hcc, hcell⟩
      · have hk' : X.env.scope.names.lookup dn = some .local := hk'
        rw [hown] at hk'; cases hk'
      · exact ⟨cc, hcc, hcell⟩
    obtain ⟨c3, h3c⟩ : ∃ c, (cloFrom X.env.cells scope.names []).lookup dn = some c := by
      have hy' : (dn, NameKind.free) ∈ scope.names := PySem.mem_of_lookup L.cap
      exact mem_lookup (cloFrom_has (cells := X.env.cells) (acc := []) hy')
    have hc3 : c3 = cc := by
      rcases cloFrom_mem (PySem.mem_of_lookup h3c) with hm' | ⟨e1, e2⟩
      · cases hm'
      · have hcc : X.env.cells.lookup dn = some cc := hcc
        rw [e2, hcc] <;> rfl
    subst hc3
    obtain ⟨oc, hc1, hc2⟩ := hcell
    have is1 : ∀ {k : List Key} {b : Addr}, (tupleKind (mixKind X.prog X.w)).is s2.heap k b → (tupleKind (mixKind X.prog X.w)).is h k b := fun ⟨o, its, n, e1, e2⟩ => ⟨o, its, n, ext _ _ e1, e2⟩
    have dd2 : h.DictOfH (tupleKind (mixKind X.prog X.w)) a xs := by
      obtain ⟨o, es, ep, e1, e2, e3, e4, e5, e6⟩ := dd
      exact ⟨o, es, ep, ext _ _ e1, e2, e3, e4, fun y hy => is1 (e5 y hy), e6⟩
    obtain ⟨j, hj⟩ := List.getElem?_of_mem hy
    have hat : atKey xs y.1 = some y.2 := atKey_of_get dd.nodup hj
    refine lamkey_call (s := { s2 with heap := h, toks := tk }) (n := n) (p0 := y.2.1) (u := y.2.2) (xs := xs) ((d.room.mono hk).in1.in1) (I2.nolimit.keeps ext) (ext _ _ hf) (hcd.keeps ext) (hbind _ _ _ _ _ _) L.kind L.co L.gen L.cell L.par L.cap h3c ⟨oc, ext _ _ hc1, hc2⟩ (is1 (key_of I2.hok hty)) dd2 hat ⟨t, hn⟩ h1 h2 h3
  · obtain ⟨hds, hall⟩ := ds_xs hpair rel hns
    have kN : Keep (fun _ => False) H2 (upd H2 p (.lst ((xs.mergeSort (PySem.W.dataLe false keyI)).map fun y => V.ref y.2.1))) := Keep.new np
    have np1 : H1 p = none := kE.old p np
    have pD : DkS g P := .inr (.inr (.inr (.inr ⟨(P, _), by rw [hgt]; exact List.mem_singleton_self _, rfl⟩)))
    have kM : Keep (DkS g) H1 (upd H2 p (.lst ((xs.mergeSort (PySem.W.dataLe false keyI)).map fun y => V.ref y.2.1))) := (kE.mono fun b z => by rw [z]; exact pD).trans kN fun _ z => z.elim
    have dk3 : DkRep g s0 (upd H2 p (.lst ((xs.mergeSort (PySem.W.dataLe false keyI)).map fun y => V.ref y.2.1))) := dk2.keep kN fun _ z => z.elim
    have hxl : xs.length ≤ sizeLine := by
      obtain ⟨z, _⟩ := dt_of I2.hok hd2
      rw [← Paired.length rel]; exact z
    refine hP (.ref p) _ [p] (G.called kM (fun b hb => ?_) dk3) ⟨p, _, rfl, rfl, upd_same, by rw [List.length_map, List.length_mergeSort]; exact hxl, ?_⟩
    · rw [List.mem_singleton.mp hb]
      exact ⟨np1, by rw [upd_same]; exact fun z => nomatch z⟩
    · have e1 : (ds.mergeSort (PySem.W.dataLe false fun p => p.2)).map (fun p => p.1) = (xs.mergeSort (PySem.W.dataLe false keyI)).map fun y => keyT y.1 := by
        have em : (xs.mergeSort (PySem.W.dataLe false keyI)).map (fun y => (keyT y.1, keyI y)) = (xs.map fun y => (keyT y.1, keyI y)).mergeSort (PySem.W.dataLe false fun p => p.2) := List.map_mergeSort fun _ _ _ _ => rfl
        rw [hds, ← em, List.map_map]; rfl
      rw [e1]
      have hmem : ∀ y ∈ xs.mergeSort (PySem.W.dataLe false keyI), y ∈ xs := fun y hy => List.mem_mergeSort.mp hy
      have hlen : ∀ y ∈ xs, y.1.length ≤ sizeLine := fun y hy => by
        obtain ⟨z, _⟩ := (show ObjOk X.prog X.w H2 s2.heap _ (.tup _) from I2.hok _ _ (hall y hy).2)
        rw [List.length_map] at z; exact z
      have key : ∀ l : List (List Key × Addr × Value), (∀ y ∈ l, y ∈ xs) → ShA X.K (Ow (plus O0 [p]) e σ) (upd H2 p (.lst ((xs.mergeSort (PySem.W.dataLe false keyI)).map fun y => V.ref y.2.1))) (l.map fun y => V.ref y.2.1) (l.map fun y => keyT y.1) := fun l => by
        induction l with
        | nil => intro _; exact .nil
        | cons y l ih =>
          intro hl
          refine .cons (sh_keyT ?_ (hlen y (hl y List.mem_cons_self))) (ih fun z hz => hl z (List.mem_cons_of_mem _ hz))
          have hy := (hall y (hl y List.mem_cons_self)).2
          rw [upd_ne (ne_of_none hy np)]; exact hy
      exact key _ hmem
end
end PV
namespace PV
open PySem PySem.Spec PyProof.Rows L2
/-- the script, and the table at t -/
noncomputable def HsT (t : Addr) (c : Bool) (a : Addr) (o : Obj) (xs : List V) : Hp := fun b => if b = t then some (.tbl #[]) else Hs c a o xs b
theorem law_goalT {P : Program} {w : World} {K : PySem.W.Frag} {mg mb : Str → Option Value} {CX : CXT} {k : Nat} {fa a cd t : Addr} {fd : FuncData} {x : Str} {sp : Sp} {s : Shared} {vs : List Value} {ns : List Int}
    (KX : K.In s.heap) (hns : s.heap.Ns mainGlobals mg) (hb : s.heap.Ns builtinsNs mb) (hbb : ∀ x : Str, x ≠ "__name__" → mb x = bootBuiltins x) (hlim : s.heap.NoLimit) (hg : s.gens = #[])
    (ht : s.heap.get? t = some (PySem.W.tabObj #[])) (hKt : K.lookup t = none) (hcd : PySem.W.CodeHd s.heap cd t)
    (hbm : ∃ (bm : Addr) (ob : Obj), mg "__builtins__" = some (.ref bm) ∧ bm ≠ builtinsNs ∧ s.heap.get? bm = some ob ∧ ob.cls = .type "module" ∧ ob.dict = some builtinsNs ∧ ob.data = .plain)
    (ha : s.heap.get? a = some { cls := .type "list", data := .seq vs.toArray }) (hi : IntsAre vs ns) (hl : ns.length ≤ sizeLine) (hr : Room k callerA)
    (F : ∀ base : Heap, K.In base → base.Ns mainGlobals mg → LamX.TabB base mg cd t → FnG P w K mg base CX k fa fd [x] sp) (hbind : ∀ (s : Shared) (u : Value), BindsTo s fd ⟨[u], []⟩ [(x, u)])
    (hsp : ∀ H : Hp, H t = some (.tbl #[]) → SqL K H a (ns.map V.int) → sp [.ref a] H (fun v _ => v = .bl true) fun _ _ _ => False)
    (hCX : ∀ H e s', CX [] H s (fun _ _ _ => False) e s' → False) :
    codeAny (model P w) callerA (.call (.ref fa) ⟨[.ref a], []⟩) (fun r s' => r = .ok (.ret (.bool true)) ∧ OldK s.heap s'.heap ∧ s'.os = s.os ∧ AllBare s'.gens) s := by
  generalize hob : ({ cls := .type "list", data := .seq vs.toArray } : Obj) = ob at ha
  obtain ⟨c, hc⟩ : ∃ c : Bool, c = (K.lookup a).isNone := ⟨_, rfl⟩
  have nat' : a ≠ t := fun z => by
    rw [z, ht] at ha
    rw [← hob] at ha; cases ha
  let H : Hp := HsT t c a ob (ns.map V.int)
  have atT : H t = some (.tbl #[]) := if_pos rfl
  have inv : ∀ {b u}, H b = some u → (b = t ∧ u = .tbl #[]) ∨ (c = true ∧ b = a ∧ u = .frz ob (.lst (ns.map V.int))) := fun {b u} h => by
    by_cases z : b = t
    · have h : (if b = t then some (HO.tbl #[]) else Hs c a ob (ns.map V.int) b) = some u := h
      rw [if_pos z] at h; exact .inl ⟨z, (Option.some.inj h).symm⟩
    · have h : (if b = t then some (HO.tbl #[]) else Hs c a ob (ns.map V.int) b) = some u := h
      rw [if_neg z] at h; exact .inr (Hs_inv h)
  have rv := vals_ints hi
  have isL : ∀ h : Heap, h.get? a = some ob → ObjOk P w H h a (.lst (ns.map V.int)) := fun h e => ⟨by rw [List.length_map]; exact hl, vs, _, rv, by rw [e, ← hob]⟩
  have ok : HOk P w H s.heap := fun b u z => by
    rcases inv z with ⟨rfl, rfl⟩ | ⟨_, rfl, rfl⟩
    · exact ht
    · exact ⟨ha, isL _ ha⟩
  have read : SqL K H a (ns.map V.int) := by
    cases q : K.lookup a with
    | none => exact .inl (.inr ⟨ob, (if_neg nat').trans (if_pos ⟨by rw [hc, q]; rfl, rfl⟩)⟩)
    | some o =>
      have e := KX a o q
      rw [ha] at e; cases e
      exact .inr ⟨_, vs.toArray, _, q, by rw [← hob], by rw [← hob], by rw [← hob], by rw [List.size_toArray, hi.length]; exact hl, by simpa using rv⟩
  -- what is neither a list nor the table is not known
  have free : ∀ {b : Addr} {o : Obj}, s.heap.get? b = some o → o ≠ PySem.W.tabObj #[] → (b = a → c = true → False) → H b = none := fun {b o} e n1 n => by
    cases q : H b with
    | none => rfl
    | some u =>
      rcases inv q with ⟨h1, _⟩ | ⟨h1, h2, _⟩
      · rw [h1, ht] at e; exact (n1 (Option.some.inj e).symm).elim
      · exact (n h2 h1).elim
  have freeD : ∀ {b : Addr} {o : Obj}, s.heap.get? b = some o → o ≠ PySem.W.tabObj #[] → (∀ vs n, o.data ≠ .seq vs n) → H b = none := fun {b o} e n1 n2 => free e n1 fun z _ => by
    rw [z, ha] at e; cases e
    rw [← hob] at n2
    exact n2 _ _ rfl
  have nsK : ∀ {b : Addr} {m : Str → Option Value}, s.heap.Ns b m → (hidT s.heap H).Ns b m := fun {b m} ⟨o, es, ep, e, d, r⟩ => ⟨o, es, ep, hidT_get e (freeD e (fun z => by rw [z] at d; cases d) fun vs n z => by rw [d] at z; cases z), d, r⟩
  have hK : K.In (hidT s.heap H) := fun b o e => hidT_get (KX b o e) (by
    cases q : H b with
    | none => rfl
    | some u =>
      rcases inv q with ⟨h1, _⟩ | ⟨h1, h2, _⟩
      · rw [h1, hKt] at e; cases e
      · rw [h2] at e; rw [hc, e] at h1; cases h1)
  have TB : LamX.TabB (hidT s.heap H) mg cd t := by
    refine ⟨?_, ?_, fun z => ?_⟩
    · obtain ⟨o, us, file, tf, flags, tg, inF, text, tt, e1, r1, r2, r3, r4⟩ := hcd
      refine ⟨o, us, file, tf, flags, tg, inF, text, tt, hidT_get e1 (freeD e1 (fun z => ?_) fun vs n z => ?_), r1, r2, r3, r4⟩
      · rw [z] at r1; cases r1
      · rw [r2] at z; cases z
    · obtain ⟨bm, ob, b1, b2, b3, b4, b5, b6⟩ := hbm
      refine ⟨bm, ob, b1, b2, fun q => ?_, fun q => ?_, hidT_get b3 (freeD b3 (fun z => ?_) fun vs n z => ?_), b4, b5, b6⟩
      · obtain ⟨o, es, ep, e, hd, _⟩ := hns
        rw [q, e] at b3; cases b3
        rw [hd] at b6; cases b6
      · rw [q, ht] at b3; cases b3; cases b6
      · rw [z] at b6; cases b6
      · rw [b6] at z; cases z
    · obtain ⟨o, es, ep, e, hd, _⟩ := hns
      rw [z, ht] at e; cases e; cases hd
  have env0 : Env0 P w K mg (hidT s.heap H) callerA [] s H :=
    ⟨rfl, ⟨hK, nsK hns, ⟨mb, nsK hb, hbb⟩, let ⟨mc, h1, h2⟩ := hlim; ⟨mc, nsK h1, h2⟩⟩, fun b o e => of_hidT e, Nat.le_of_eq (hidT_size _ _), trivial, fun b z => (nomatch z), ok, .of_eq hg⟩
  refine codeAny_mono ((F _ hK (nsK hns) TB).run callerA [] s H ⟨[.ref a], []⟩ [.ref a] [.ref a] _ _ rfl hr env0 (hbind s _) (.cons rfl .nil) (hsp H atT read)) fun r s' h => ?_
  rcases r with e | fl
  · exact (hCX H e s' h).elim
  · cases fl with
    | next => exact False.elim h
    | brk => exact False.elim h
    | cont => exact False.elim h
    | ret u =>
      obtain ⟨v, H', os, bare, un, ok', rel, q⟩ := h
      cases (show v = .bl true from q)
      obtain rfl : u = Value.bool true := rel
      have stay : ∀ b o, b ≠ t → s.heap.get? b = some o → s'.heap.get? b = some o := fun b o nb e => by
        cases q : H b with
        | none => exact un.keep b o e q (fun z => nomatch z) (fun z => nomatch z)
        | some u =>
          rcases inv q with ⟨h1, _⟩ | ⟨_, rfl, rfl⟩
          · exact (nb h1).elim
          · rw [ha] at e; cases e
            exact (ok' _ _ (un.frzs _ _ _ q)).1
      obtain ⟨more, hm⟩ := un.tbls t #[] atT
      have hm' : s'.heap.get? t = some (PySem.W.tabObj (#[] ++ more)) := ok' t _ hm
      refine ⟨rfl, ⟨fun b o e => ?_, fun b o e => ?_⟩, os, bare⟩
      · by_cases z : b = t
        · subst z
          rw [ht] at e; cases e
          exact .inr (.inl ⟨(hcd.tab ht).isCodeTable, rfl, #[], more, rfl, hm'⟩)
        · exact .inl (stay b o z e)
      · by_cases z : b = t
        · rw [z]; exact ⟨_, hm'⟩
        · exact ⟨o, stay b o z e⟩
/-- the def dn of the text: its code object cd and the table t -/
structure DefTb (K : PySem.W.Frag) (mg : Str → Option Value) (dn : Str) (cd t : Addr) : Prop where
  fn : ∃ (f : Addr) (o : Obj) (fd : FuncData), mg dn = some (.ref f) ∧ K.lookup f = some o ∧ o.data = .func fd ∧ fd.code = .ref cd
  code : ∃ (e : Value) (dd : Option Addr) (vs : Array Value) (sl : Array (Option Value)), K.lookup cd = some ⟨e, dd, .fields vs, sl⟩ ∧ vs[11]? = some (.ref t)
  hd : ∀ h : Heap, K.In h → PySem.W.CodeHd h cd t
  no : K.lookup t = none
theorem law_walkT {l : PySem.W.OpenLaw} {n k : Nat} {q : Program} {loose : List Str} {XP : (Str → Option Value) → Heap → Prop} {YP : World → Heap → Prop} {d : DefRec} {K : Params → PySem.W.Frag} {CX : World → CXT} {ok : List Int → Prop} {x dn : Str}
    (hn : l.most = some n) (hn2 : n ≤ sizeLine) (hdf : d.params.defaults = []) (hr : Room k callerA) (hrec : ((recsOf q).any fun e => e.name == dn) = true) (hY : ∀ (w : World) (h : Heap), YP w h → (K w.params).In h)
    (F : ∀ (w : World) (mg : Str → Option Value) (fa : Addr) (h : Heap), (K w.params).In h → h.Ns mainGlobals mg → mg d.name = some (.ref fa) →
      ∃ (fd : FuncData) (cd t : Addr), (∀ (s : Shared) (u : Value), BindsTo s fd ⟨[u], []⟩ [(x, u)]) ∧ DefTb (K w.params) mg dn cd t ∧ (∀ (H : Hp) (a : Addr) (ns : List Int), ns.length ≤ n → H t = some (.tbl #[]) → SqL (K w.params) H a (ns.map V.int) → spLaw (K w.params) ok [.ref a] H (fun v _ => v = .bl true) fun _ _ _ => False) ∧
        ∀ base : Heap, (K w.params).In base → base.Ns mainGlobals mg → LamX.TabB base mg cd t → FnG l.prog w (K w.params) mg base (CX w) k fa fd [x] (spLaw (K w.params) ok))
    (hCX : ∀ (w : World) (H : Hp) (s : Shared) (e : Value) (s' : Shared), CX w [] H s (fun _ _ _ => False) e s' → False) :
    PySem.W.WalkO q loose XP YP l.row.toRowW d [] (fun f vs => PySem.call f vs) :=
  Att.attach_call hn hdf fun w s₀ s₁ mg mb fa o pm cd0 doc a vs ns G Y ho hd hcd hmg hobj hints hlen hg => by
    have KX := hY w _ Y
    obtain ⟨fd, cd, t, h1, DT, hsp, h2⟩ := F w mg fa _ KX G.T.g hmg
    obtain ⟨f, of, ff, f1, f2, f3, f4⟩ := DT.fn
    obtain ⟨e, dd, us, sl, c1, c2⟩ := DT.code
    have ht : s₁.heap.get? t = some (PySem.W.tabObj #[]) := by
      obtain ⟨dL, hm, hn1⟩ := List.any_eq_true.mp hrec
      have hn2 : dL.name = dn := beq_iff_eq.mp hn1
      obtain ⟨a', o', fd', c', P', k1, k2, k3, k4, k5, k6⟩ := G.T.tab dL hm
      rw [hn2, f1] at k1
      cases k1
      have g1 := KX _ _ f2
      rw [g1] at k2
      cases k2
      rw [f3] at k3
      cases k3
      rw [f4] at k4
      cases k4
      obtain ⟨⟨oc, vc, e1, _, e3, e4⟩, hP⟩ := k6
      have g2 := KX _ _ c1
      rw [g2] at e1
      cases e1
      cases e3
      rw [c2] at e4
      cases e4
      exact hP
    exact law_goalT KX G.T.g G.T.b G.T.builtins G.T.nolimit hg ht DT.no (DT.hd _ KX) G.T.bmain hobj hints (Nat.le_trans hlen hn2) hr h2 h1 (fun H hH hS => hsp H a ns hlen hH hS) fun H e s' => hCX w H s₁ e s'
end PV
namespace PV
open PySem PySem.Spec PyProof.Rows L2
/-- the def dn makes a lambda named q -/
structure LamT (K : PySem.W.Frag) (mg : Str → Option Value) (base : Heap) (dn q : Str) : Prop where
  ex : ∃ cd t, DefTb K mg dn cd t ∧ LamX.TabB base mg cd t ∧ TBL K = [(t, q)]
theorem DefTb.eq {K : PySem.W.Frag} {mg : Str → Option Value} {dn : Str} {cd t f : Addr} {cdv : Value} (D : DefTb K mg dn cd t) (hm : mg dn = some (.ref f)) (h : ∃ o fd, K.lookup f = some o ∧ o.data = .func fd ∧ fd.code = cdv) : cdv = .ref cd := by
  obtain ⟨f', o, fd, h1, h2, h3, h4⟩ := D.fn
  obtain ⟨o', fd', k2, k3, k4⟩ := h
  rw [hm] at h1; cases h1
  rw [h2] at k2; cases k2
  rw [h3] at k3; cases k3
  rw [← k4, h4]
noncomputable def WalkC (P : Program) (w : World) (K : PySem.W.Frag) (mg : Str → Option Value) (base : Heap) (n : Str) (N : List Str) (qual : Str) (st : Stmt) (xc : XC) (cl : Nat → List Arg → DS → FRes) (k : Nat) (ib : Ss) : Prop :=
  ∀ (f : Addr) (cdv : Value) (A : Around) (outer : List PySem.Env) (s : Shared) (H : Hp) (E : XK), mg n = some (.ref f) → (∃ o fd, K.lookup f = some o ∧ o.data = .func fd ∧ fd.code = cdv) →
    Bd (CxD P w K mg base N qual st f cdv A outer s H E) (fun c d _ H => E c d H) k → DSs (CxD P w K mg base N qual st f cdv A outer s H E) xc (fun c d _ H => E c d H) cl (defBody st) ib
theorem def_okC {P : Program} {w : World} {K : PySem.W.Frag} {mg : Str → Option Value} {base : Heap} {xc : XC} {cl : Nat → List Arg → DS → FRes} {x qual : Str} {st : Stmt} {f : Addr} {fd : FuncData} {N ps : List Str} {k : Nat} {ib : Ss} (F : Fun K x qual st f fd) (hm : mg x = some (.ref f)) (S : FnScope N ps (defScope st)) (w' : WalkC P w K mg base x N qual st xc cl k ib) :
    FnG P w K mg base (L2.CX P w) (k + 1) f fd ps (spF xc K ps.length (runB cl ⟨N.length, ps.length, ib⟩)) := by
  have F0 := F
  obtain ⟨oc, od, kV, doc, pm, an, cdv, ct, osl, rfl, lk, hcd⟩ := F.ex
  refine FnG.body lk hcd S (fun vs H Q E h => h.1) fun A outer s H vs Q E hg hr hf hsp => ?_
  have un := hr.un
  refine ⟨_, w' f cdv A outer s H E hm ⟨_, _, lk, rfl, rfl⟩ ⟨⟨rfl, S.nd, ?_, deeper_gd hg⟩, hr, L2.passes_of rfl, L2.takes_of rfl rfl rfl rfl⟩, body_ok ?_ hsp⟩
  · show (A.deeper _).units + 65 < cLine
    omega
  · have := congrArg List.length S.pre
    rw [List.length_take] at this
    omega
theorem FnT.walkC {P : Program} {w : World} {K : PySem.W.Frag} {mg : Str → Option Value} {base : Heap} {xc : XC} {tb : Nat → Option FSem} {k j : Nat} {n qual : Str} {f : Nat} {st : Stmt} {fa : Addr} {fd : FuncData} {N ps : List Str} {ib : Ss}
    (F : Fun K n qual st fa fd) (hm : mg n = some (.ref fa)) (hb : Binds K fd ps []) (S : FnScope N ps (defScope st)) (ht : tb f = some (.df ⟨N.length, ps.length, ib⟩)) (w' : WalkC P w K mg base n N qual st xc (run tb k) j ib) : FnT P w K mg base xc (run tb (k + 1)) (j + 1) n f ps.length := by
  have e : run tb (k + 1) f = runB (run tb k) ⟨N.length, ps.length, ib⟩ := by
    funext as s
    show (match tb f with
      | some (.prim g) => g as s
      | some (.df fd) => runB (run tb k) fd as s
      | none => .bad) = _
    rw [ht]
  refine ⟨⟨fa, fd, ps, ?_, hm, F.kp, hb⟩, fun as s h => ?_⟩
  · rw [e]; exact def_okC F hm S w'
  · rw [e] at h; exact runB_len h
end PV
namespace PV
open PySem PySem.Spec L2
end PV
namespace PV
open PySem PySem.Spec PyProof.Rows L2
end PV
namespace PV
open PySem PySem.Spec PyProof.Rows L2
noncomputable abbrev PrT (K : PySem.W.Frag) (O : AP) (H : Hp) : List (List Key × V) → List (PyData × PyData) → Prop := Paired fun p q => q.1 = keyT p.1 ∧ Sh K O H p.2 q.2
theorem PrT.go {K : PySem.W.Frag} {O O' M : AP} {H H' : Hp} {ks : List (List Key × V)} {acc : List (PyData × PyData)} (h : PrT K O H ks acc) (k : Keep M H H') (m : ∀ a, M a → O a) (n : ∀ a, O' a → O a ∨ H a = none) : PrT K O' H' ks acc :=
  Paired.imp h fun _ _ q => ⟨q.1, q.2.go k m n⟩
theorem PrT.weak {K : PySem.W.Frag} {O O' : AP} {H : Hp} {ks : List (List Key × V)} {acc : List (PyData × PyData)} (n : ∀ a, O' a → O a) (h : PrT K O H ks acc) : PrT K O' H ks acc :=
  h.go (M := fun _ => False) Keep.refl (fun _ z => z.elim) fun a z => .inl (n a z)
end PV
namespace PV
open PySem PySem.Spec L2
end PV
namespace PV
open PySem PySem.Spec PyProof.Rows L2
end PV
namespace PV
open PySem PySem.Spec L2
end PV
namespace PV
open PySem PySem.Spec L2
end PV
namespace PV
open PySem PySem.Spec PyProof.Rows L2 Builtin.ObjectAttr
end PV
namespace PV
open PySem PySem.Spec PyProof.Rows L2
end PV
namespace PV
open PySem PySem.Spec PyProof.Rows L2
end PV
namespace PV
open PySem PySem.Spec PyProof.Rows L2
section
variable {X : Cx} {xc : XC} {W : WX} {cl : Nat → List Arg → DS → FRes} {e : Expr} {as : Es} {p pos : Pos}
theorem z_int (d : Bs X) (hm : X.mg "int" = none) (ha : DA X xc W cl [e] as) (hg : Gl X "int" := by rfl) (he : starEach [e] X.env = [(false, eval e X.env)] := by rfl) : DE X xc W cl (.Call (.Name "int" p) [e] [] pos) (.op .int as) := de_ty call_int1 (.of v_int) hg hm (by rfl) ha (he := he)
end
end PV
namespace PV
open PySem PySem.Spec PyProof.Rows L2 PySem.SeqAt
open AutoSeq1 (wpAny_loadPart')
open MeetsSeq
end PV
namespace PV
open PySem PySem.Spec PyProof.Rows L2
theorem us1 {α : Type} {P : List α → Prop} (h : ∀ a, P [a]) : ∀ us : List α, us.length = 1 → P us
  | [_], _ => h _
theorem us2 {α : Type} {P : List α → Prop} (h : ∀ a b, P [a, b]) : ∀ us : List α, us.length = 2 → P us
  | [_, _], _ => h _ _
theorem us3 {α : Type} {P : List α → Prop} (h : ∀ a b c, P [a, b, c]) : ∀ us : List α, us.length = 3 → P us
  | [_, _, _], _ => h _ _ _
theorem bn1 {F : FuncData} {ps : List Str} (us : List Value) (hl : us.length = 1) (h : ∀ a, bindArgs F ⟨[a], []⟩ = pure (ps.zip [a])) : bindArgs F ⟨us, []⟩ = pure (ps.zip us) := us1 (P := fun us => bindArgs F ⟨us, []⟩ = pure (ps.zip us)) h us hl
theorem bn2 {F : FuncData} {ps : List Str} (us : List Value) (hl : us.length = 2) (h : ∀ a b, bindArgs F ⟨[a, b], []⟩ = pure (ps.zip [a, b])) : bindArgs F ⟨us, []⟩ = pure (ps.zip us) := us2 (P := fun us => bindArgs F ⟨us, []⟩ = pure (ps.zip us)) h us hl
theorem bn3 {F : FuncData} {ps : List Str} (us : List Value) (hl : us.length = 3) (h : ∀ a b c, bindArgs F ⟨[a, b, c], []⟩ = pure (ps.zip [a, b, c])) : bindArgs F ⟨us, []⟩ = pure (ps.zip us) := us3 (P := fun us => bindArgs F ⟨us, []⟩ = pure (ps.zip us)) h us hl
end PV
namespace PV
open PySem PySem.Spec L2
noncomputable def pr (p : Int × Int) : PyData := .tuple [.int p.1, .int p.2]
end PV
namespace PV
open PySem PySem.Spec L2
structure Rp (w k : Nat) (d : PyData) : Prop where
  short : d.leavesShort 13 = true
  sh : d.showable = true
  nd : nod d = true
  wt : d.weight ≤ w
  dp : d.depth ≤ k
theorem Rp.mono {w k w' k' : Nat} {d : PyData} (h : Rp w k d) (hw : w ≤ w') (hk : k ≤ k') : Rp w' k' d := ⟨h.short, h.sh, h.nd, Nat.le_trans h.wt hw, Nat.le_trans h.dp hk⟩
theorem Rp.int {i : Int} (h1 : -999999999999 ≤ i) (h2 : i ≤ 999999999999) : Rp 40 0 (.int i) := by
  have h : i.natAbs < 2 ^ 40 := by omega
  have hl : i.natAbs ≠ 0 → i.natAbs.log2 < 40 := fun z => (Nat.log2_lt z).mpr h
  refine ⟨decide_eq_true (PySem.PyData.shown_int_le (by omega)), decide_eq_true ?_, rfl, ?_, Nat.le_refl _⟩
  · by_cases z : i.natAbs = 0
    · rw [z]; decide
    · have := hl z; omega
  · show (if i == 0 then 0 else i.natAbs.log2 + 1) ≤ 40
    split
    · omega
    · rename_i z
      have : i.natAbs ≠ 0 := fun q => z (by simpa using q)
      have := hl this; omega
theorem Rp.none : Rp 0 0 .none := ⟨rfl, rfl, rfl, Nat.le_refl _, Nat.le_refl _⟩
theorem Rp.bool {b : Bool} : Rp 0 0 (.bool b) := ⟨rfl, rfl, rfl, Nat.le_refl _, Nat.le_refl _⟩
theorem rp_all {w k : Nat} : ∀ {xs : List PyData}, (∀ x ∈ xs, Rp w k x) → PyData.leavesShortAll 13 xs = true ∧ PyData.showableAll xs = true ∧ nodA xs = true ∧ PyData.weightAll xs ≤ xs.length * (w + 1) ∧ PyData.depthAll xs ≤ k
  | [], _ => ⟨rfl, rfl, rfl, Nat.zero_le _, Nat.zero_le _⟩
  | x :: xs, h => by
    obtain ⟨a1, a2, a3, a4, a5⟩ := h x List.mem_cons_self
    obtain ⟨b1, b2, b3, b4, b5⟩ := rp_all fun x hx => h x (List.mem_cons_of_mem _ hx)
    refine ⟨by simp [PyData.leavesShortAll, a1, b1], by simp [PyData.showableAll, a2, b2], by simp [nodA, a3, b3], ?_, ?_⟩
    · show PyData.weight x + 1 + PyData.weightAll xs ≤ (xs.length + 1) * (w + 1)
      rw [Nat.succ_mul]; omega
    · show max (PyData.depth x) (PyData.depthAll xs) ≤ k
      omega
theorem Rp.tuple {w k n : Nat} {xs : List PyData} (h : ∀ x ∈ xs, Rp w k x) (hl : xs.length ≤ n) : Rp (n * (w + 1)) (k + 1) (.tuple xs) := by
  obtain ⟨b1, b2, b3, b4, b5⟩ := rp_all h
  exact ⟨b1, b2, by simpa [nod] using b3, Nat.le_trans b4 (Nat.mul_le_mul_right _ hl), Nat.succ_le_succ b5⟩
theorem Rp.list {w k n : Nat} {xs : List PyData} (h : ∀ x ∈ xs, Rp w k x) (hl : xs.length ≤ n) : Rp (n * (w + 1)) (k + 1) (.list xs) := by
  obtain ⟨b1, b2, b3, b4, b5⟩ := rp_all h
  exact ⟨b1, b2, by simpa [nod] using b3, Nat.le_trans b4 (Nat.mul_le_mul_right _ hl), Nat.succ_le_succ b5⟩
theorem Rp.repr {w k : Nat} {d : PyData} (h : Rp w k d) (hw : w ≤ 1000000) (hk : k ≤ 60) : reprD [d] = some (.v (.str d.shown)) := by
  have := PyData.shown_le 13 (by decide) d h.short
  have hl : d.shown.length ≤ LIM := by have := h.wt; unfold LIM; omega
  show (if d.showable = true ∧ rok d = true ∧ d.shown.length ≤ LIM ∧ d.depth ≤ 60 then some (R.v (.str d.shown)) else Option.none) = _
  rw [if_pos ⟨h.sh, rok_nod d h.nd, hl, Nat.le_trans h.dp hk⟩]
theorem eq_str {a b : Str} : eqD [.str a, .str b] = some (.v (.bool (decide (a = b)))) := rfl
theorem ne_str {a b : Str} : neD [.str a, .str b] = some (.v (.bool (!decide (a = b)))) := rfl
theorem pick_nat {ds : List PyData} {j : Nat} {d : PyData} (h : ds[j]? = some d) : pick ds (j : Int) = some d := by
  unfold pick atI
  rw [ixN_nat (List.getElem?_eq_some_iff.mp h).1]
  exact h
/-- the deck, drawn at most b times -/
noncomputable def CB (b : Nat) (s : DS) : Prop := 0 ≤ s.cnt ∧ s.cnt ≤ b
theorem CB.mono {a b : Nat} {s : DS} (h : CB a s) (l : a ≤ b) : CB b s := ⟨h.1, by have := h.2; omega⟩
end PV
namespace PV
open PySem
theorem nr {α : Sort _} {a b : α} (h : a = b) : a = b := h
/-- what hangs on it is not looked into ahead of time -/
structure Tag {α : Sort 1} (Q : α) : Type where mk ::
noncomputable def RS {α : Type} (x : Res α) (Q : α → M → Prop) (E : Nat → Option PyData → M → Prop) (_ : Tag Q := ⟨⟩) : Prop := match x with
  | .ok a m => Q a m
  | .rz c f m => E c f m
  | .bad => False
noncomputable def FS (x : FRes) (Q : R → DS → Prop) (E : Nat → Option PyData → DS → Prop) (_ : Tag Q := ⟨⟩) : Prop := match x with
  | .ok a m => Q a m
  | .rz c f m => E c f m
  | .bad => False
noncomputable def OS {α : Type} (x : Option α) (Q : α → Prop) (_ : Tag Q := ⟨⟩) : Prop := match x with
  | some a => Q a
  | none => False
section
variable {α : Type} {Q Q' : α → M → Prop} {E E' : Nat → Option PyData → M → Prop} {a : α} {m : M} {c : Nat} {f : Option PyData}
theorem RS_ok : RS (.ok a m) Q E = Q a m := nr rfl
theorem RS_rz : RS (.rz c f m) Q E = E c f m := nr rfl
theorem RS_bad : RS .bad Q E = False := nr rfl
theorem RS.mono {x : Res α} (h : RS x Q E) (i : ∀ a m, Q a m → Q' a m) (j : ∀ c f m, E c f m → E' c f m) : RS x Q' E' := by
  cases x with
  | ok a m => exact i _ _ h
  | rz c f m => exact j _ _ _ h
  | bad => exact h
theorem RS.imp {x : Res α} (h : RS x Q E) (i : ∀ a m, Q a m → Q' a m) : RS x Q' E := h.mono i fun _ _ _ z => z
theorem RS.of {x : Res α} (h : x = .ok a m) (q : Q a m) : RS x Q E := by rw [h]; exact q
theorem RS.ex {x : Res α} (h : RS x Q fun _ _ _ => False) : ∃ a m, x = .ok a m ∧ Q a m := by
  cases x with
  | ok a m => exact ⟨a, m, rfl, h⟩
  | rz c f m => exact h.elim
  | bad => exact h.elim
end
section
variable {Q Q' : R → DS → Prop} {E E' : Nat → Option PyData → DS → Prop} {a : R} {m : DS} {c : Nat} {f : Option PyData}
theorem FS_ok : FS (.ok a m) Q E = Q a m := nr rfl
theorem FS_rz : FS (.rz c f m) Q E = E c f m := nr rfl
theorem FS_bad : FS .bad Q E = False := nr rfl
theorem FS.mono {x : FRes} (h : FS x Q E) (i : ∀ a m, Q a m → Q' a m) (j : ∀ c f m, E c f m → E' c f m) : FS x Q' E' := by
  cases x with
  | ok a m => exact i _ _ h
  | rz c f m => exact j _ _ _ h
  | bad => exact h
theorem FS.imp {x : FRes} (h : FS x Q E) (i : ∀ a m, Q a m → Q' a m) : FS x Q' E := h.mono i fun _ _ _ z => z
theorem FS.of {x : FRes} (h : x = .ok a m) (q : Q a m) : FS x Q E := by rw [h]; exact q
theorem FS.ex {x : FRes} (h : FS x Q fun _ _ _ => False) : ∃ a m, x = .ok a m ∧ Q a m := by
  cases x with
  | ok a m => exact ⟨a, m, rfl, h⟩
  | rz c f m => exact h.elim
  | bad => exact h.elim
/-- exactly this -/
theorem FS.eq {x : FRes} (h : FS x (fun r s => r = a ∧ s = m) fun _ _ _ => False) : x = .ok a m := by
  obtain ⟨r, s, e, rfl, rfl⟩ := h.ex; exact e
theorem FS.never {x : FRes} (h : FS x Q fun _ _ _ => False) : FS x Q E := h.mono (fun _ _ z => z) fun _ _ _ z => z.elim
end
section
variable {α β : Type} {Q : α → Prop} {a : α} {c : Prop}
theorem OS_some : OS (some a) Q = Q a := nr rfl
theorem OS_none : OS none Q = False := nr rfl
theorem OS_ite [Decidable c] : OS (if c then some a else none) Q = (c ∧ Q a) := by
  by_cases h : c <;> simp [h, OS]
theorem OS_map {f : β → α} {x : Option β} : OS (x.map f) Q = OS x fun b => Q (f b) := by cases x <;> rfl
theorem OS.of {x : Option α} (h : x = some a) (q : Q a) : OS x Q := by rw [h]; exact q
end
noncomputable def slR : Nat → Option Slot → Option R
  | _, some (.sh d) => some (.v d)
  | i, some (.ol _) => some (.pl i)
  | i, some (.od _ _) => some (.pl i)
  | _, some (.dk k) => some (.dk k)
  | _, _ => none
noncomputable def vOf : R → Option PyData
  | .v d => some d
  | _ => none
noncomputable def bOf : R → Option Bool
  | .v (.bool b) => some b
  | _ => none
noncomputable def noPD : R → Bool
  | .pl _ => false
  | .dk _ => false
  | _ => true
noncomputable def callOk (rs : List R) (r : R) : Bool := (!hasPl rs || flatR r) && noPD r
noncomputable def rzOk (rs : List R) (f : Option PyData) : Bool := !hasPl rs || flatO f
noncomputable def nxt (fl : Flow) (A B : Prop) : Prop := match fl with
  | .nx => A
  | _ => B
theorem nxt_nx {A B : Prop} : nxt .nx A B = A := nr rfl
theorem nxt_brk {A B : Prop} : nxt .brk A B = B := nr rfl
theorem nxt_ct {A B : Prop} : nxt .ct A B = B := nr rfl
theorem nxt_rt {A B : Prop} {r : R} : nxt (.rt r) A B = B := nr rfl
section
variable {cl : Nat → List Arg → DS → FRes} {m : M} {Q : R → M → Prop} {E : Nat → Option PyData → M → Prop}
theorem V_c {d : PyData} : RS (ev cl (.c d) m) Q E = Q (.v d) m := nr rfl
theorem V_x {i : Nat} : RS (ev cl (.x i) m) Q E = OS (slR i m.e[i]?) fun r => Q r m := by
  show RS (match m.e[i]? with
    | some (.sh d) => Res.ok (.v d) m
    | some (.ol _) => .ok (.pl i) m
    | some (.od _ _) => .ok (.pl i) m
    | some (.dk k) => .ok (.dk k) m
    | _ => .bad) Q E = _
  cases m.e[i]? with
  | none => rfl
  | some sl => cases sl <;> rfl
theorem V_op {o : Op} {es : Es} : RS (ev cl (.op o es) m) Q E = RS (evs cl es m) (fun rs m1 => OS (opE m1.e o rs) fun r => Q r m1) E := by
  show RS (match evs cl es m with
    | .ok rs m1 => match opE m1.e o rs with
      | some r => Res.ok r m1
      | none => .bad
    | .rz c f m1 => .rz c f m1
    | .bad => .bad) Q E = _
  cases evs cl es m with
  | ok rs m1 =>
    show RS (match opE m1.e o rs with
      | some r => Res.ok r m1
      | none => .bad) Q E = OS (opE m1.e o rs) fun r => Q r m1
    cases opE m1.e o rs <;> rfl
  | rz c f m1 => rfl
  | bad => rfl
theorem V_call {f : Nat} {es : Es} : RS (ev cl (.call f es) m) Q E = RS (evs cl es m) (fun rs m1 => OS (toArgs m1.e rs) fun as => FS (cl f as m1.s) (fun r s => callOk rs r = true ∧ Q r ⟨m1.e, s⟩) fun c x s => rzOk rs x = true ∧ E c x ⟨m1.e, s⟩) E := by
  rw [show ev cl (.call f es) m = match evs cl es m with
    | .ok rs m1 => match toArgs m1.e rs with
      | some as => match cl f as m1.s with
        | .ok r s => if hasPl rs = true ∧ flatR r = false then .bad else match r with
          | .pl _ => .bad
          | .dk _ => .bad
          | r => .ok r ⟨m1.e, s⟩
        | .rz c f s => if hasPl rs = true ∧ flatO f = false then .bad else .rz c f ⟨m1.e, s⟩
        | .bad => .bad
      | none => .bad
    | .rz c f m1 => .rz c f m1
    | .bad => .bad from rfl]
  cases evs cl es m with
  | ok rs m1 =>
    simp only [RS_ok]
    cases toArgs m1.e rs with
    | none => rfl
    | some as =>
      simp only [OS_some]
      cases cl f as m1.s with
      | ok r s =>
        simp only [FS_ok]
        by_cases h : hasPl rs = true ∧ flatR r = false
        · simp [h, RS, callOk]
        · simp only [h, if_false]
          have : (!hasPl rs || flatR r) = true := by
            cases h1 : hasPl rs <;> cases h2 : flatR r <;> simp_all
          cases r <;> simp [RS, callOk, this, noPD]
      | rz c x s =>
        simp only [FS_rz]
        by_cases h : hasPl rs = true ∧ flatO x = false
        · simp [h, RS, rzOk]
        · simp only [h, if_false]
          have : (!hasPl rs || flatO x) = true := by
            cases h1 : hasPl rs <;> cases h2 : flatO x <;> simp_all
          simp [RS, rzOk, this]
      | bad => rfl
  | rz c f m1 => rfl
  | bad => rfl
theorem V_tup {es : Es} : RS (ev cl (.tup es) m) Q E = RS (evs cl es m) (fun rs m1 => OS (escs m1.e rs) fun p => p.1.length ≤ LIM ∧ Q (.v (.tuple p.1)) ⟨p.2, m1.s⟩) E := by
  rw [show ev cl (.tup es) m = match evs cl es m with
    | .ok rs m1 => match escs m1.e rs with
      | some (ds, e) => if ds.length ≤ LIM then .ok (.v (.tuple ds)) ⟨e, m1.s⟩ else .bad
      | none => .bad
    | .rz c f m1 => .rz c f m1
    | .bad => .bad from rfl]
  cases evs cl es m with
  | ok rs m1 =>
    simp only [RS_ok]
    cases escs m1.e rs with
    | none => rfl
    | some p =>
      obtain ⟨ds, e⟩ := p
      simp only [OS_some]
      by_cases h : ds.length ≤ LIM <;> simp [h, RS]
  | rz c f m1 => rfl
  | bad => rfl
theorem V_lst {es : Es} : RS (ev cl (.lst es) m) Q E = RS (evs cl es m) (fun rs m1 => OS (escs m1.e rs) fun p => p.1.length ≤ LIM ∧ Q (.fl p.1) ⟨p.2, m1.s⟩) E := by
  rw [show ev cl (.lst es) m = match evs cl es m with
    | .ok rs m1 => match escs m1.e rs with
      | some (ds, e) => if ds.length ≤ LIM then .ok (.fl ds) ⟨e, m1.s⟩ else .bad
      | none => .bad
    | .rz c f m1 => .rz c f m1
    | .bad => .bad from rfl]
  cases evs cl es m with
  | ok rs m1 =>
    simp only [RS_ok]
    cases escs m1.e rs with
    | none => rfl
    | some p =>
      obtain ⟨ds, e⟩ := p
      simp only [OS_some]
      by_cases h : ds.length ≤ LIM <;> simp [h, RS]
  | rz c f m1 => rfl
  | bad => rfl
theorem V_emp {t : Bool} : RS (ev cl (.emp t) m) Q E = Q (.fd t []) m := nr rfl
theorem V_dsp {t : Bool} {k v : PV.E} : RS (ev cl (.dsp t k v) m) Q E = RS (ev cl k m) (fun rk m1 => OS (vOf rk) fun dk => RS (ev cl v m1) (fun rv m2 => OS (vOf rv) fun dv => keyOk t dk = true ∧ Q (.fd t [(dk, dv)]) m2) fun _ _ _ => False) fun _ _ _ => False := by
  rw [show ev cl (.dsp t k v) m = match ev cl k m with
    | .ok (.v dk) m1 => match ev cl v m1 with
      | .ok (.v dv) m2 => if keyOk t dk = true then .ok (.fd t [(dk, dv)]) m2 else .bad
      | _ => .bad
    | _ => .bad from rfl]
  cases ev cl k m with
  | ok rk m1 =>
    cases rk with
    | v dk =>
      simp only [RS_ok, vOf, OS_some]
      cases ev cl v m1 with
      | ok rv m2 =>
        cases rv with
        | v dv =>
          simp only [RS_ok, OS_some]
          by_cases h : keyOk t dk = true <;> simp [h, RS]
        | _ => rfl
      | rz _ _ _ => rfl
      | bad => rfl
    | _ => rfl
  | rz _ _ _ => rfl
  | bad => rfl
theorem V_and {a b : PV.E} : RS (ev cl (.and2 a b) m) Q E = RS (ev cl a m) (fun r m1 => OS (bOf r) fun k => (k = true → RS (ev cl b m1) Q E) ∧ (k = false → Q (.v (.bool false)) m1)) E := by
  rw [show ev cl (.and2 a b) m = match ev cl a m with
    | .ok (.v (.bool true)) m1 => ev cl b m1
    | .ok (.v (.bool false)) m1 => .ok (.v (.bool false)) m1
    | .ok _ _ => .bad
    | .rz c f m1 => .rz c f m1
    | .bad => .bad from rfl]
  cases ev cl a m with
  | ok r m1 =>
    cases r with
    | v d => cases d with
      | bool k => cases k <;> simp [RS, OS, bOf]
      | _ => simp [RS, OS, bOf]
    | _ => simp [RS, OS, bOf]
  | rz c f m1 => rfl
  | bad => rfl
theorem V_or {a b : PV.E} : RS (ev cl (.or2 a b) m) Q E = RS (ev cl a m) (fun r m1 => OS (vOf r) fun d => strFits d = true ∧ (truth d = true → Q (.v d) m1) ∧ (truth d = false → RS (ev cl b m1) Q E)) E := by
  rw [show ev cl (.or2 a b) m = match ev cl a m with
    | .ok (.v d) m1 => if strFits d = true then (if truth d = true then .ok (.v d) m1 else ev cl b m1) else .bad
    | .ok _ _ => .bad
    | .rz c f m1 => .rz c f m1
    | .bad => .bad from rfl]
  cases ev cl a m with
  | ok r m1 =>
    cases r with
    | v d =>
      simp only [RS_ok, vOf, OS_some]
      by_cases h : strFits d = true
      · rw [if_pos h]
        cases ht : truth d <;> simp [RS, h]
      · rw [if_neg h]; simp [RS, h]
    | _ => simp [RS, OS, vOf]
  | rz c f m1 => rfl
  | bad => rfl
theorem V_ite {c : T} {a b : PV.E} : RS (ev cl (.ite c a b) m) Q E = RS (evT cl c m) (fun k m1 => (k = true → RS (ev cl a m1) Q E) ∧ (k = false → RS (ev cl b m1) Q E)) E := by
  rw [show ev cl (.ite c a b) m = match evT cl c m with
    | .ok true m1 => ev cl a m1
    | .ok false m1 => ev cl b m1
    | .rz c f m1 => .rz c f m1
    | .bad => .bad from rfl]
  cases evT cl c m with
  | ok k m1 => cases k <;> simp [RS]
  | rz c f m1 => rfl
  | bad => rfl
theorem V_chn {o1 o2 : Op} {a b c : PV.E} : RS (ev cl (.chn o1 o2 a b c) m) Q E = RS (ev cl a m) (fun ra m1 => OS (vOf ra) fun da => RS (ev cl b m1) (fun rb m2 => OS (vOf rb) fun db => OS (opD o1 [da, db]) fun r1 => OS (bOf r1) fun k =>
      (k = true → RS (ev cl c m2) (fun rc m3 => OS (vOf rc) fun dc => OS (opD o2 [db, dc]) fun r => Q r m3) E) ∧ (k = false → Q (.v (.bool false)) m2)) E) E := by
  rw [show ev cl (.chn o1 o2 a b c) m = match ev cl a m with
    | .ok (.v da) m1 => match ev cl b m1 with
      | .ok (.v db) m2 => match opD o1 [da, db] with
        | some (.v (.bool true)) => match ev cl c m2 with
          | .ok (.v dc) m3 => match opD o2 [db, dc] with
            | some r => .ok r m3
            | none => .bad
          | .ok _ _ => .bad
          | .rz c f m3 => .rz c f m3
          | .bad => .bad
        | some (.v (.bool false)) => .ok (.v (.bool false)) m2
        | _ => .bad
      | .ok _ _ => .bad
      | .rz c f m2 => .rz c f m2
      | .bad => .bad
    | .ok _ _ => .bad
    | .rz c f m1 => .rz c f m1
    | .bad => .bad from rfl]
  cases ev cl a m with
  | ok ra m1 =>
    cases ra with
    | v da =>
      simp only [RS_ok, vOf, OS_some]
      cases ev cl b m1 with
      | ok rb m2 =>
        cases rb with
        | v db =>
          simp only [RS_ok, OS_some]
          cases opD o1 [da, db] with
          | none => rfl
          | some r1 => cases r1 with
            | v d => cases d with
              | bool k => cases k with
                | true =>
                  simp only [bOf, OS_some, true_implies, Bool.true_eq_false, false_implies, and_true]
                  cases ev cl c m2 with
                  | ok rc m3 => cases rc with
                    | v dc =>
                      simp only [RS_ok, OS_some]
                      cases opD o2 [db, dc] <;> rfl
                    | _ => rfl
                  | rz _ _ _ => rfl
                  | bad => rfl
                | false => simp [RS, bOf, OS]
              | _ => rfl
            | _ => rfl
        | _ => rfl
      | rz _ _ _ => rfl
      | bad => rfl
    | _ => rfl
  | rz _ _ _ => rfl
  | bad => rfl
theorem V_mut {o : MOp} {i : Nat} {es : Es} : RS (ev cl (.mut o i es) m) Q E = (mutOk o m.e[i]? = true ∧ RS (evs cl es m) (fun rs m1 => RS (mutD o i rs m1) Q E) E) := by
  rw [show ev cl (.mut o i es) m = if mutOk o m.e[i]? = true then match evs cl es m with
      | .ok rs m1 => mutD o i rs m1
      | .rz c f m1 => .rz c f m1
      | .bad => .bad
    else .bad from rfl]
  by_cases h : mutOk o m.e[i]? = true
  · simp only [h, if_true, true_and]
    cases evs cl es m <;> rfl
  · simp [h, RS]
noncomputable def ownOk (e : Env) (own : List Nat) : Prop := own.all (fun i => !isOwn e[i]?) = true
/-- a turn of a comprehension: bind, ask -/
noncomputable def bdT (cl : Nat → List Arg → DS → FRes) (t : Tg) (c : T) (d : PyData) (m : M) : Res Bool := match bind1 m.e t d with
  | some e => evT cl c ⟨e, m.s⟩
  | none => .bad
theorem bdT_eq {t : Tg} {c : T} {d : PyData} {Q : Bool → M → Prop} : RS (bdT cl t c d m) Q E = OS (bind1 m.e t d) fun e => RS (evT cl c ⟨e, m.s⟩) Q E := by
  unfold bdT
  cases bind1 m.e t d <;> rfl
theorem V_lc {t : Tg} {it : It} {c : T} {el : PV.E} {own : List Nat} : RS (ev cl (.lc t it c el own) m) Q E = RS (evI cl it m) (fun p m1 => ownOk m1.e own ∧ p.1.length ≤ LIM ∧ RS (lcL p.2 own (bdT cl t c) (fun m => ev cl el m) p.1 [] ⟨clear m1.e own, m1.s⟩) (fun acc m2 => Q (.fl acc) ⟨back m2.e m1.e own, m2.s⟩) fun _ _ _ => False) E := by
  rw [show ev cl (.lc t it c el own) m = match evI cl it m with
      | .ok (ds, src) m1 => if own.all (fun i => !isOwn m1.e[i]?) = true ∧ ds.length ≤ LIM then match lcL src own (bdT cl t c) (fun m => ev cl el m) ds [] ⟨clear m1.e own, m1.s⟩ with
        | .ok acc m2 => .ok (.fl acc) ⟨back m2.e m1.e own, m2.s⟩
        | _ => .bad
        else .bad
      | .rz c f m1 => .rz c f m1
      | .bad => .bad from rfl]
  cases evI cl it m with
  | ok p m1 =>
    obtain ⟨ds, src⟩ := p
    simp only [RS_ok, ownOk]
    by_cases h : own.all (fun i => !isOwn m1.e[i]?) = true ∧ ds.length ≤ LIM
    · rw [if_pos h]
      simp only [h.1, h.2, true_and]
      cases lcL src own (bdT cl t c) (fun m => ev cl el m) ds [] ⟨clear m1.e own, m1.s⟩ <;> rfl
    · rw [if_neg h, eq_iff_iff]
      exact ⟨fun z => z.elim, fun z => h ⟨z.1, z.2.1⟩⟩
  | rz _ _ _ => rfl
  | bad => rfl
theorem V_dc {t : Tg} {it : It} {c : T} {k v : PV.E} {own : List Nat} : RS (ev cl (.dc t it c k v own) m) Q E = RS (evI cl it m) (fun p m1 => ownOk m1.e own ∧ p.1.length ≤ LIM ∧ RS (dcL p.2 own (bdT cl t c) (fun m => ev cl k m) (fun m => ev cl v m) false p.1 [] ⟨clear m1.e own, m1.s⟩) (fun acc m2 => Q (.fd false acc) ⟨back m2.e m1.e own, m2.s⟩) fun _ _ _ => False) E := by
  rw [show ev cl (.dc t it c k v own) m = match evI cl it m with
      | .ok (ds, src) m1 => if own.all (fun i => !isOwn m1.e[i]?) = true ∧ ds.length ≤ LIM then match dcL src own (bdT cl t c) (fun m => ev cl k m) (fun m => ev cl v m) false ds [] ⟨clear m1.e own, m1.s⟩ with
        | .ok acc m2 => .ok (.fd false acc) ⟨back m2.e m1.e own, m2.s⟩
        | _ => .bad
        else .bad
      | .rz c f m1 => .rz c f m1
      | .bad => .bad from rfl]
  cases evI cl it m with
  | ok p m1 =>
    obtain ⟨ds, src⟩ := p
    simp only [RS_ok, ownOk]
    by_cases h : own.all (fun i => !isOwn m1.e[i]?) = true ∧ ds.length ≤ LIM
    · rw [if_pos h]
      simp only [h.1, h.2, true_and]
      cases dcL src own (bdT cl t c) (fun m => ev cl k m) (fun m => ev cl v m) false ds [] ⟨clear m1.e own, m1.s⟩ <;> rfl
    · rw [if_neg h, eq_iff_iff]
      exact ⟨fun z => z.elim, fun z => h ⟨z.1, z.2.1⟩⟩
  | rz _ _ _ => rfl
  | bad => rfl
theorem V_ofT {t : T} : RS (ev cl (.ofT t) m) Q E = RS (evT cl t m) (fun b m1 => Q (.v (.bool b)) m1) E := by
  rw [show ev cl (.ofT t) m = match evT cl t m with
    | .ok b m1 => .ok (.v (.bool b)) m1
    | .rz c f m1 => .rz c f m1
    | .bad => .bad from rfl]
  cases evT cl t m <;> rfl
end
section
variable {cl : Nat → List Arg → DS → FRes} {m : M} {Q : List R → M → Prop} {E : Nat → Option PyData → M → Prop}
theorem Vs_nil : RS (evs cl .nil m) Q E = Q [] m := nr rfl
theorem Vs_cons {e : PV.E} {es : Es} : RS (evs cl (.cons e es) m) Q E = RS (ev cl e m) (fun r m1 => RS (evs cl es m1) (fun rs m2 => Q (r :: rs) m2) E) E := by
  rw [show evs cl (.cons e es) m = match ev cl e m with
    | .ok r m1 => match evs cl es m1 with
      | .ok rs m2 => .ok (r :: rs) m2
      | .rz c f m2 => .rz c f m2
      | .bad => .bad
    | .rz c f m1 => .rz c f m1
    | .bad => .bad from rfl]
  cases ev cl e m with
  | ok r m1 =>
    show RS (match evs cl es m1 with
      | .ok rs m2 => Res.ok (r :: rs) m2
      | .rz c f m2 => .rz c f m2
      | .bad => .bad) Q E = RS (evs cl es m1) _ E
    cases evs cl es m1 <;> rfl
  | rz c f m1 => rfl
  | bad => rfl
end
section
variable {cl : Nat → List Arg → DS → FRes} {m : M} {Q : Bool → M → Prop} {E : Nat → Option PyData → M → Prop}
theorem VT_yes : RS (evT cl .yes m) Q E = Q true m := nr rfl
theorem VT_e {e : PV.E} : RS (evT cl (.e e) m) Q E = RS (ev cl e m) (fun r m1 => OS (deref m1.e r) fun d => strFits d = true ∧ Q (truth d) m1) E := by
  rw [show evT cl (.e e) m = match ev cl e m with
    | .ok r m1 => match deref m1.e r with
      | some d => if strFits d = true then .ok (truth d) m1 else .bad
      | none => .bad
    | .rz c f m1 => .rz c f m1
    | .bad => .bad from rfl]
  cases ev cl e m with
  | ok r m1 =>
    simp only [RS_ok]
    cases deref m1.e r with
    | none => rfl
    | some d =>
      simp only [OS_some]
      by_cases h : strFits d = true <;> simp [h, RS]
  | rz c f m1 => rfl
  | bad => rfl
theorem VT_and {a b : T} : RS (evT cl (.and a b) m) Q E = RS (evT cl a m) (fun k m1 => (k = true → RS (evT cl b m1) Q E) ∧ (k = false → Q false m1)) E := by
  rw [show evT cl (.and a b) m = match evT cl a m with
    | .ok true m1 => evT cl b m1
    | .ok false m1 => .ok false m1
    | .rz c f m1 => .rz c f m1
    | .bad => .bad from rfl]
  cases evT cl a m with
  | ok k m1 => cases k <;> simp [RS]
  | rz c f m1 => rfl
  | bad => rfl
theorem VT_or {a b : T} : RS (evT cl (.or a b) m) Q E = RS (evT cl a m) (fun k m1 => (k = true → Q true m1) ∧ (k = false → RS (evT cl b m1) Q E)) E := by
  rw [show evT cl (.or a b) m = match evT cl a m with
    | .ok true m1 => .ok true m1
    | .ok false m1 => evT cl b m1
    | .rz c f m1 => .rz c f m1
    | .bad => .bad from rfl]
  cases evT cl a m with
  | ok k m1 => cases k <;> simp [RS]
  | rz c f m1 => rfl
  | bad => rfl
theorem VT_not {a : T} : RS (evT cl (.not a) m) Q E = RS (evT cl a m) (fun k m1 => Q (!k) m1) E := by
  rw [show evT cl (.not a) m = match evT cl a m with
    | .ok b m1 => .ok (!b) m1
    | .rz c f m1 => .rz c f m1
    | .bad => .bad from rfl]
  cases evT cl a m <;> rfl
end
section
variable {cl : Nat → List Arg → DS → FRes} {m : M} {Q : List PyData × Src → M → Prop} {E : Nat → Option PyData → M → Prop}
theorem VI_e {e : PV.E} : RS (evI cl (.e e) m) Q E = RS (ev cl e m) (fun r m1 => OS (items m1.e r) fun p => Q p m1) E := by
  rw [show evI cl (.e e) m = match ev cl e m with
    | .ok r m1 => match items m1.e r with
      | some p => .ok p m1
      | none => .bad
    | .rz c f m1 => .rz c f m1
    | .bad => .bad from rfl]
  cases ev cl e m with
  | ok r m1 =>
    simp only [RS_ok]
    cases items m1.e r <;> rfl
  | rz c f m1 => rfl
  | bad => rfl
theorem VI_rng {es : Es} : RS (evI cl (.rng es) m) Q E = RS (evs cl es m) (fun rs m1 => OS (rngD rs) fun ds => Q (ds, none) m1) E := by
  rw [show evI cl (.rng es) m = match evs cl es m with
    | .ok rs m1 => match rngD rs with
      | some ds => .ok (ds, none) m1
      | none => .bad
    | .rz c f m1 => .rz c f m1
    | .bad => .bad from rfl]
  cases evs cl es m with
  | ok r m1 =>
    simp only [RS_ok]
    cases rngD r <;> rfl
  | rz c f m1 => rfl
  | bad => rfl
theorem VI_enm {e : PV.E} {k : Int} : RS (evI cl (.enm e k) m) Q E = RS (ev cl e m) (fun r m1 => OS (items m1.e r) fun p => Q (enumD k p.1, p.2) m1) E := by
  rw [show evI cl (.enm e k) m = match ev cl e m with
    | .ok r m1 => match items m1.e r with
      | some (ds, src) => .ok (enumD k ds, src) m1
      | none => .bad
    | .rz c f m1 => .rz c f m1
    | .bad => .bad from rfl]
  cases ev cl e m with
  | ok r m1 =>
    simp only [RS_ok]
    cases items m1.e r <;> rfl
  | rz c f m1 => rfl
  | bad => rfl
/-- the two rows of a zip -/
noncomputable def zipR : List R → Option (List PyData × List PyData)
  | [.v (.tuple xs), .v (.tuple ys)] => some (xs, ys)
  | [.v (.list xs), .v (.list ys)] => some (xs, ys)
  | [.fl xs, .fl ys] => some (xs, ys)
  | [.v (.list xs), .fl ys] => some (xs, ys)
  | [.fl xs, .v (.list ys)] => some (xs, ys)
  | _ => none
theorem VI_zip {es : Es} : RS (evI cl (.zip es) m) Q E = RS (evs cl es m) (fun rs m1 => OS (zipR rs) fun p => Q (zipD [p.1, p.2], none) m1) E := by
  rw [show evI cl (.zip es) m = match evs cl es m with
    | .ok [.v (.tuple xs), .v (.tuple ys)] m1 => .ok (zipD [xs, ys], none) m1
    | .ok [.v (.list xs), .v (.list ys)] m1 => .ok (zipD [xs, ys], none) m1
    | .ok [.fl xs, .fl ys] m1 => .ok (zipD [xs, ys], none) m1
    | .ok [.v (.list xs), .fl ys] m1 => .ok (zipD [xs, ys], none) m1
    | .ok [.fl xs, .v (.list ys)] m1 => .ok (zipD [xs, ys], none) m1
    | .ok _ _ => .bad
    | .rz c f m1 => .rz c f m1
    | .bad => .bad from rfl]
  cases evs cl es m with
  | ok rs m1 =>
    simp only [RS_ok]
    unfold zipR
    split <;> rename_i h
    · cases h; rfl
    · cases h; rfl
    · cases h; rfl
    · cases h; rfl
    · cases h; rfl
    · rename_i h1 h2 h3 h4 h5
      cases h
      split
      · exact (h1 _ _ rfl).elim
      · exact (h2 _ _ rfl).elim
      · exact (h3 _ _ rfl).elim
      · exact (h4 _ _ rfl).elim
      · exact (h5 _ _ rfl).elim
      · rfl
    · cases h
    · cases h
  | rz c f m1 => rfl
  | bad => rfl
/-- the two lists of a zip -/
noncomputable def zipL : List R → Option (List PyData × List PyData)
  | [.v (.list xs), .v (.list ys)] => some (xs, ys)
  | [.fl xs, .fl ys] => some (xs, ys)
  | [.v (.list xs), .fl ys] => some (xs, ys)
  | [.fl xs, .v (.list ys)] => some (xs, ys)
  | _ => none
noncomputable def zip3R : List R → Option (List PyData × List PyData × List PyData)
  | [.v (.tuple xs), .v (.tuple ys), .v (.tuple zs)] => some (xs, ys, zs)
  | _ => none
theorem zip3R_t {xs ys zs : List PyData} : zip3R [.v (.tuple xs), .v (.tuple ys), .v (.tuple zs)] = some (xs, ys, zs) := nr rfl
theorem VI_zp3 {es : Es} : RS (evI cl (.zp3 es) m) Q E = RS (evs cl es m) (fun rs m1 => OS (zip3R rs) fun p => Q (zip3D p.1 p.2.1 p.2.2, none) m1) E := by
  rw [show evI cl (.zp3 es) m = match evs cl es m with
    | .ok [.v (.tuple xs), .v (.tuple ys), .v (.tuple zs)] m1 => .ok (zip3D xs ys zs, none) m1
    | .ok _ _ => .bad
    | .rz c f m1 => .rz c f m1
    | .bad => .bad from rfl]
  cases evs cl es m with
  | ok rs m1 =>
    simp only [RS_ok]
    unfold zip3R
    split <;> rename_i h
    · cases h; rfl
    · rename_i h1
      cases h
      split
      · exact (h1 _ _ _ rfl).elim
      · rfl
    · cases h
    · cases h
  | rz c f m1 => rfl
  | bad => rfl
theorem VI_zpl {es : Es} : RS (evI cl (.zpl es) m) Q E = RS (evs cl es m) (fun rs m1 => OS (zipL rs) fun p => Q (zipD [p.1, p.2], none) m1) E := by
  rw [show evI cl (.zpl es) m = match evs cl es m with
    | .ok [.v (.list xs), .v (.list ys)] m1 => .ok (zipD [xs, ys], none) m1
    | .ok [.fl xs, .fl ys] m1 => .ok (zipD [xs, ys], none) m1
    | .ok [.v (.list xs), .fl ys] m1 => .ok (zipD [xs, ys], none) m1
    | .ok [.fl xs, .v (.list ys)] m1 => .ok (zipD [xs, ys], none) m1
    | .ok _ _ => .bad
    | .rz c f m1 => .rz c f m1
    | .bad => .bad from rfl]
  cases evs cl es m with
  | ok rs m1 =>
    simp only [RS_ok]
    unfold zipL
    split <;> rename_i h
    · cases h; rfl
    · cases h; rfl
    · cases h; rfl
    · cases h; rfl
    · rename_i h1 h2 h3 h4
      cases h
      split
      · exact (h1 _ _ rfl).elim
      · exact (h2 _ _ rfl).elim
      · exact (h3 _ _ rfl).elim
      · exact (h4 _ _ rfl).elim
      · rfl
    · cases h
    · cases h
  | rz c f m1 => rfl
  | bad => rfl
end
section
variable {cl : Nat → List Arg → DS → FRes} {m : M} {Q : Flow → M → Prop} {E : Nat → Option PyData → M → Prop}
theorem X_nil : RS (exs cl .nil m) Q E = Q .nx m := nr rfl
theorem X_cons {st : S} {ss : Ss} : RS (exs cl (.cons st ss) m) Q E = RS (ex cl st m) (fun fl m1 => nxt fl (RS (exs cl ss m1) Q E) (Q fl m1)) E := by
  rw [show exs cl (.cons st ss) m = match ex cl st m with
    | .ok .nx m1 => exs cl ss m1
    | r => r from rfl]
  cases ex cl st m with
  | ok fl m1 => cases fl <;> rfl
  | rz c f m1 => rfl
  | bad => rfl
theorem X_set {i : Nat} {e : PV.E} : RS (ex cl (.set (.nm i) e) m) Q E = RS (ev cl e m) (fun r m1 => OS (setR i r m1.e) fun e => Q .nx ⟨e, m1.s⟩) E := by
  rw [show ex cl (.set (.nm i) e) m = match ev cl e m with
    | .ok r m1 => match setR i r m1.e with
      | some e => .ok .nx ⟨e, m1.s⟩
      | none => .bad
    | .rz c f m1 => .rz c f m1
    | .bad => .bad from rfl]
  cases ev cl e m with
  | ok r m1 =>
    simp only [RS_ok]
    cases setR i r m1.e <;> rfl
  | rz c f m1 => rfl
  | bad => rfl
theorem X_unp {ts : Tgs} {e : PV.E} : RS (ex cl (.set (.tp ts) e) m) Q E = RS (ev cl e m) (fun r m1 => OS (esc m1.e r) fun p => OS (bind1 p.2 (.tp ts) p.1) fun e => Q .nx ⟨e, m1.s⟩) E := by
  rw [show ex cl (.set (.tp ts) e) m = match ev cl e m with
    | .ok r m1 => match esc m1.e r with
      | some (d, e1) => match bind1 e1 (.tp ts) d with
        | some e => .ok .nx ⟨e, m1.s⟩
        | none => .bad
      | none => .bad
    | .rz c f m1 => .rz c f m1
    | .bad => .bad from rfl]
  cases ev cl e m with
  | ok r m1 =>
    simp only [RS_ok]
    cases esc m1.e r with
    | none => rfl
    | some p =>
      obtain ⟨d, e1⟩ := p
      simp only [OS_some]
      cases bind1 e1 (.tp ts) d <;> rfl
  | rz c f m1 => rfl
  | bad => rfl
theorem X_par {is : List Nat} {es : Es} : RS (ex cl (.par is es) m) Q E = RS (evs cl es m) (fun rs m1 => noPl rs = true ∧ OS (setRs is rs m1.e) fun e => Q .nx ⟨e, m1.s⟩) E := by
  rw [show ex cl (.par is es) m = match evs cl es m with
    | .ok rs m1 => if noPl rs = true then match setRs is rs m1.e with
        | some e => .ok .nx ⟨e, m1.s⟩
        | none => .bad
      else .bad
    | .rz c f m1 => .rz c f m1
    | .bad => .bad from rfl]
  cases evs cl es m with
  | ok r m1 =>
    simp only [RS_ok]
    by_cases h : noPl r = true
    · simp only [h, if_true, true_and]
      cases setRs is r m1.e <;> rfl
    · simp [h, RS]
  | rz c f m1 => rfl
  | bad => rfl
/-- x[k] = v in a list or dict of one's own -/
noncomputable def subR (i : Nat) (d dk : PyData) (e : Env) : Option Env := match e[i]?, dk with
  | some (.ol ds), .int j => match L2.ixN ds.length j with
    | some n => some (e.set i (.ol (ds.set n d)))
    | none => none
  | some (.od t kvs), k => if keyOk t k = true ∧ kvs.length < LIM then some (e.set i (.od t (putD kvs k d))) else none
  | _, _ => none
theorem X_swp {i ja jb : Nat} {e : PV.E} : RS (ex cl (.swp i e ja jb) m) Q E = RS (ev cl e m) (fun r m1 => OS (swpR i ja jb r m1.e) fun e => Q .nx ⟨e, m1.s⟩) E := by
  unfold ex
  cases ev cl e m with
  | ok r m1 =>
    simp only [RS_ok]
    cases swpR i ja jb r m1.e <;> rfl
  | rz c f m1 => rfl
  | bad => rfl
theorem X_sub {i : Nat} {k e : PV.E} : RS (ex cl (.sub i k e) m) Q E = RS (ev cl e m) (fun r m1 => OS (esc m1.e r) fun p => isOwn p.2[i]? = true ∧ RS (ev cl k ⟨p.2, m1.s⟩) (fun rk m2 => OS (vOf rk) fun dk => OS (subR i p.1 dk m2.e) fun e => Q .nx ⟨e, m2.s⟩) E) E := by
  unfold ex
  cases ev cl e m with
  | ok r m1 =>
    simp only [RS_ok]
    cases esc m1.e r with
    | none => rfl
    | some p =>
      obtain ⟨d, e1⟩ := p
      simp only [OS_some]
      by_cases h : isOwn e1[i]? = true
      · simp only [h, if_true, true_and]
        cases ev cl k ⟨e1, m1.s⟩ with
        | ok rk m2 =>
          cases rk with
          | v dk =>
            simp only [RS_ok, vOf, OS_some]
            unfold subR
            generalize m2.e[i]? = sl
            cases sl with
            | none => rfl
            | some sl => cases sl with
              | ol ds => cases dk with
                | int j =>
                  simp only
                  cases L2.ixN ds.length j <;> rfl
                | _ => rfl
              | od t kvs =>
                simp only
                by_cases hc : keyOk t dk = true ∧ kvs.length < LIM
                · rw [if_pos hc, if_pos hc]; rfl
                · rw [if_neg hc, if_neg hc]; rfl
              | _ => rfl
          | _ => rfl
        | rz c f m2 => rfl
        | bad => rfl
      · simp [h, RS]
  | rz c f m1 => rfl
  | bad => rfl
theorem X_ex {e : PV.E} : RS (ex cl (.ex e) m) Q E = RS (ev cl e m) (fun _ m1 => Q .nx m1) E := by
  rw [show ex cl (.ex e) m = match ev cl e m with
    | .ok _ m1 => .ok .nx m1
    | .rz c f m1 => .rz c f m1
    | .bad => .bad from rfl]
  cases ev cl e m <;> rfl
theorem X_ret {e : PV.E} : RS (ex cl (.ret e) m) Q E = RS (ev cl e m) (fun r m1 => Q (.rt r) m1) E := by
  rw [show ex cl (.ret e) m = match ev cl e m with
    | .ok r m1 => .ok (.rt r) m1
    | .rz c f m1 => .rz c f m1
    | .bad => .bad from rfl]
  cases ev cl e m <;> rfl
theorem X_retN : RS (ex cl .retN m) Q E = Q (.rt (.v .none)) m := nr rfl
theorem X_raise1 {c : Nat} {e : PV.E} : RS (ex cl (.raise c (.cons e .nil)) m) Q E = RS (ev cl e m) (fun r m1 => OS (esc m1.e r) fun q => E c (some q.1) ⟨q.2, m1.s⟩) E := by
  rw [show ex cl (.raise c (.cons e .nil)) m = match (match ev cl e m with
    | .ok r m1 => .ok [r] m1
    | .rz c f m1 => .rz c f m1
    | .bad => .bad : Res (List R)) with
    | .ok rs m1 => rzR c m1 rs
    | .rz c f m1 => .rz c f m1
    | .bad => .bad from rfl]
  cases ev cl e m with
  | ok r m1 =>
    show RS (rzR c m1 [r]) Q E = OS (esc m1.e r) fun q => E c (some q.1) ⟨q.2, m1.s⟩
    unfold rzR
    simp only
    cases esc m1.e r with
    | none => rfl
    | some q => obtain ⟨d, e1⟩ := q; rfl
  | rz c f m1 => rfl
  | bad => rfl
theorem exSlot_s {a b : Addr} {n : Str} {d : PyData} : exSlot a b (some n) (some d) = some (.ex a (some (b, n, d))) := rfl
theorem V_xf {Q' : R → M → Prop} {i : Nat} {a b : Addr} {n : Str} : RS (ev cl (.xf i a b n) m) Q' E = RS (xfR a b n m m.e[i]?) Q' E := rfl
theorem xfR_s {Q' : R → M → Prop} {a b : Addr} {n : Str} {d : PyData} : RS (xfR a b n m (some (.ex a (some (b, n, d))))) Q' E = Q' (.v d) m := by
  unfold xfR; simp only [and_self, if_true]; rfl
theorem X_ite {c : T} {a b : Ss} : RS (ex cl (.ite c a b) m) Q E = RS (evT cl c m) (fun k m1 => (k = true → RS (exs cl a m1) Q E) ∧ (k = false → RS (exs cl b m1) Q E)) E := by
  rw [show ex cl (.ite c a b) m = match evT cl c m with
    | .ok true m1 => exs cl a m1
    | .ok false m1 => exs cl b m1
    | .rz c f m1 => .rz c f m1
    | .bad => .bad from rfl]
  cases evT cl c m with
  | ok k m1 => cases k <;> simp [RS]
  | rz c f m1 => rfl
  | bad => rfl
/-- a turn of a loop -/
noncomputable def bdS (cl : Nat → List Arg → DS → FRes) (t : Tg) (b : Ss) (d : PyData) (m : M) : Res Flow := match bind1 m.e t d with
  | some e => exs cl b ⟨e, m.s⟩
  | none => .bad
theorem bdS_eq {t : Tg} {b : Ss} {d : PyData} : RS (bdS cl t b d m) Q E = OS (bind1 m.e t d) fun e => RS (exs cl b ⟨e, m.s⟩) Q E := by
  unfold bdS
  cases bind1 m.e t d <;> rfl
theorem X_lop {t : Tg} {it : It} {b : Ss} : RS (ex cl (.lop t it b) m) Q E = RS (evI cl it m) (fun p m1 => srcFree (fun j => asgT t j || asgSs b j) p.2 = true ∧ RS (lopL p.2 (bdS cl t b) p.1 m1) Q E) E := by
  rw [show ex cl (.lop t it b) m = match evI cl it m with
    | .ok (ds, src) m1 => if srcFree (fun j => asgT t j || asgSs b j) src = true then lopL src (bdS cl t b) ds m1 else .bad
    | .rz c f m1 => .rz c f m1
    | .bad => .bad from rfl]
  cases evI cl it m with
  | ok p m1 =>
    obtain ⟨ds, src⟩ := p
    simp only [RS_ok]
    by_cases h : srcFree (fun j => asgT t j || asgSs b j) src = true <;> simp [h, RS]
  | rz c f m1 => rfl
  | bad => rfl
theorem X_wh {c : T} {b : Ss} : RS (ex cl (.wh c b) m) Q E = RS (whL (fun m => evT cl c m) (fun m => exs cl b m) 100000 m) Q E := nr rfl
theorem X_pass : RS (ex cl .pass m) Q E = Q .nx m := nr rfl
theorem X_brk : RS (ex cl .brk m) Q E = Q .brk m := nr rfl
theorem X_cont : RS (ex cl .cont m) Q E = Q .ct m := nr rfl
end
section
variable {cl : Nat → List Arg → DS → FRes} {s : DS} {Q : R → DS → Prop} {E : Nat → Option PyData → DS → Prop}
noncomputable def finF (fl : Flow) (m : M) (Q : R → DS → Prop) (E : Nat → Option PyData → DS → Prop) : Prop := match fl with
  | .nx => Q (.v .none) m.s
  | .rt r => FS (finR r m) Q E
  | _ => False
theorem finF_nx {m : M} : finF .nx m Q E = Q (.v .none) m.s := nr rfl
theorem finF_v {m : M} {d : PyData} : finF (.rt (.v d)) m Q E = Q (.v d) m.s := nr rfl
theorem finF_fl {m : M} {d : List PyData} : finF (.rt (.fl d)) m Q E = Q (.fl d) m.s := nr rfl
theorem finF_fd {m : M} {t : Bool} {d : List (PyData × PyData)} : finF (.rt (.fd t d)) m Q E = Q (.fd t d) m.s := nr rfl
noncomputable def finS : Option Slot → Option R
  | some (.ol ds) => some (.fl ds)
  | some (.od t kvs) => some (.fd t kvs)
  | some (.sh d) => some (.v d)
  | _ => none
theorem finF_pl {m : M} {i : Nat} : finF (.rt (.pl i)) m Q E = OS (finS m.e[i]?) fun r => Q r m.s := by
  show FS (match m.e[i]? with
    | some (.ol ds) => FRes.ok (.fl ds) m.s
    | some (.od t kvs) => .ok (.fd t kvs) m.s
    | some (.sh d) => .ok (.v d) m.s
    | _ => .bad) Q E = _
  cases m.e[i]? with
  | none => rfl
  | some sl => cases sl <;> rfl
theorem F_runB {fd : FD} {as : List Arg} (hl : as.length = fd.np) (h : RS (exs cl fd.body ⟨as.map slotA ++ List.replicate (fd.ns - fd.np) .un, s⟩) (fun fl m => finF fl m Q E) fun c f m => E c f m.s) : FS (runB cl fd as s) Q E := by
  unfold runB
  simp only [hl, if_true]
  generalize exs cl fd.body ⟨as.map slotA ++ List.replicate (fd.ns - fd.np) .un, s⟩ = x at h ⊢
  cases x with
  | ok fl m =>
    cases fl with
    | nx => exact h
    | rt r => exact h
    | _ => exact h.elim
  | rz c f m => exact h
  | bad => exact h
theorem F_run {tb : Nat → Option FSem} {k f : Nat} {fd : FD} {as : List Arg} (ht : tb f = some (.df fd)) (hl : as.length = fd.np) (h : RS (exs (run tb k) fd.body ⟨as.map slotA ++ List.replicate (fd.ns - fd.np) .un, s⟩) (fun fl m => finF fl m Q E) fun c f m => E c f m.s) : FS (run tb (k + 1) f as s) Q E := by
  have e : run tb (k + 1) f as s = runB (run tb k) fd as s := by
    show (match tb f with
      | some (.prim g) => g as s
      | some (.df fd) => runB (run tb k) fd as s
      | none => .bad) = _
    rw [ht]
  rw [e]
  exact F_runB hl h
end
/-- a call, not looked into -/
@[irreducible] noncomputable def runI (tb : Nat → Option FSem) : Nat → Nat → List Arg → DS → FRes := run tb
theorem runI_eq (tb : Nat → Option FSem) : runI tb = run tb := by unfold runI; rfl
theorem F_call {tb : Nat → Option FSem} {s : DS} {Q : R → DS → Prop} {E : Nat → Option PyData → DS → Prop} {k f : Nat} {fd : FD} {as : List Arg} (ht : tb f = some (.df fd)) (hl : as.length = fd.np) (h : RS (exs (runI tb k) fd.body ⟨as.map slotA ++ List.replicate (fd.ns - fd.np) .un, s⟩) (fun fl m => finF fl m Q E) fun c f m => E c f m.s) : FS (runI tb (k + 1) f as s) Q E := by
  rw [runI_eq] at h ⊢
  exact F_run ht hl h
end PV
namespace PV
open PySem
noncomputable abbrev tuI (xs : List Int) : PyData := .tuple (xs.map .int)
noncomputable abbrev liI (xs : List Int) : PyData := .list (xs.map .int)
noncomputable abbrev tuP (ps : List (Int × Int)) : PyData := .tuple (ps.map pr)
noncomputable abbrev liP (ps : List (Int × Int)) : PyData := .list (ps.map pr)
theorem toInts_ints : ∀ (xs : List Int), toInts (xs.map .int) = some xs
  | [] => rfl
  | x :: xs => by simp [toInts, toInts_ints xs]
theorem toBls_map {α : Type} (p : α → Bool) : ∀ (xs : List α), toBls (xs.map fun x => .bool (p x)) = some (xs.map p)
  | [] => rfl
  | x :: xs => by simp [toBls, toBls_map p xs]
theorem canLayAll_map {α : Type} {f : α → PyData} : ∀ {xs : List α}, (∀ x ∈ xs, (f x).canLay0 = true) → PyData.canLayAll0 (xs.map f) = true
  | [], _ => rfl
  | x :: xs, h => by simp [PyData.canLayAll0, h x List.mem_cons_self, canLayAll_map fun y hy => h y (List.mem_cons_of_mem _ hy)]
theorem depthAll_map {α : Type} {f : α → PyData} {k : Nat} : ∀ {xs : List α}, (∀ x ∈ xs, (f x).depth ≤ k) → PyData.depthAll (xs.map f) ≤ k
  | [], _ => Nat.zero_le _
  | x :: xs, h => by
    show max (f x).depth (PyData.depthAll (xs.map f)) ≤ k
    have := h x List.mem_cons_self
    have := depthAll_map fun y hy => h y (List.mem_cons_of_mem _ hy)
    omega
structure Sp (k : Nat) (d : PyData) : Prop where
  lay : d.canLay0 = true
  dep : d.depth ≤ k
theorem Sp.mono {k k' : Nat} {d : PyData} (h : Sp k d) (l : k ≤ k') : Sp k' d := ⟨h.lay, Nat.le_trans h.dep l⟩
theorem Sp.ok {k : Nat} {d : PyData} (h : Sp k d) (l : k ≤ 64) : SeqAt.shaped d = true := by
  unfold SeqAt.shaped; rw [h.lay, decide_eq_true (Nat.le_trans h.dep l)]; rfl
theorem Sp.int {i : Int} : Sp 0 (.int i) := ⟨rfl, Nat.le_refl _⟩
theorem Sp.bool {i : Bool} : Sp 0 (.bool i) := ⟨rfl, Nat.le_refl _⟩
theorem Sp.none : Sp 0 .none := ⟨rfl, Nat.le_refl _⟩
theorem Sp.tuple {k : Nat} {ds : List PyData} (h : ∀ d ∈ ds, Sp k d) : Sp (k + 1) (.tuple ds) :=
  ⟨by have := canLayAll_map (f := fun x => x) (xs := ds) (fun x hx => (h x hx).lay); rw [List.map_id'] at this; exact this, by
    have := depthAll_map (f := fun x => x) (k := k) (xs := ds) (fun x hx => (h x hx).dep); rw [List.map_id'] at this; exact Nat.succ_le_succ this⟩
theorem Sp.list {k : Nat} {ds : List PyData} (h : ∀ d ∈ ds, Sp k d) : Sp (k + 1) (.list ds) := ⟨(Sp.tuple h).lay, (Sp.tuple h).dep⟩
theorem Sp.tuI {xs : List Int} : Sp 1 (tuI xs) := Sp.tuple fun d hd => by obtain ⟨i, _, rfl⟩ := List.mem_map.mp hd; exact Sp.int
theorem Sp.liI {xs : List Int} : Sp 1 (liI xs) := Sp.list fun d hd => by obtain ⟨i, _, rfl⟩ := List.mem_map.mp hd; exact Sp.int
theorem Sp.pr {p : Int × Int} : Sp 1 (pr p) := Sp.tuI (xs := [p.1, p.2])
theorem Sp.tuP {ps : List (Int × Int)} : Sp 2 (tuP ps) := Sp.tuple fun d hd => by obtain ⟨i, _, rfl⟩ := List.mem_map.mp hd; exact Sp.pr
theorem Sp.liP {ps : List (Int × Int)} : Sp 2 (liP ps) := Sp.list fun d hd => by obtain ⟨i, _, rfl⟩ := List.mem_map.mp hd; exact Sp.pr
theorem eqvAll_map {α : Type} [DecidableEq α] {f : α → PyData} (h : ∀ x y, PyData.eqv (f x) (f y) = decide (x = y)) : ∀ (xs ys : List α), PyData.eqvAll (xs.map f) (ys.map f) = decide (xs = ys)
  | [], [] => rfl
  | [], _ :: _ => rfl
  | _ :: _, [] => rfl
  | x :: xs, y :: ys => by
    show (PyData.eqv (f x) (f y) && PyData.eqvAll (xs.map f) (ys.map f)) = _
    rw [h, eqvAll_map h xs ys]
    by_cases h1 : x = y <;> by_cases h2 : xs = ys <;> simp [h1, h2]
theorem eqv_int (i j : Int) : PyData.eqv (.int i) (.int j) = decide (i = j) := by
  show (i == j) = _
  by_cases h : i = j <;> simp [h]
theorem eqv_tI (xs ys : List Int) : PyData.eqv (tuI xs) (tuI ys) = decide (xs = ys) := eqvAll_map eqv_int xs ys
theorem eqv_lI (xs ys : List Int) : PyData.eqv (liI xs) (liI ys) = decide (xs = ys) := eqvAll_map eqv_int xs ys
theorem eqv_pr (p q : Int × Int) : PyData.eqv (pr p) (pr q) = decide (p = q) := by
  obtain ⟨a, b⟩ := p
  obtain ⟨c, d⟩ := q
  refine (eqv_tI [a, b] [c, d]).trans ?_
  simp
theorem eqv_tP (xs ys : List (Int × Int)) : PyData.eqv (tuP xs) (tuP ys) = decide (xs = ys) := eqvAll_map eqv_pr xs ys
theorem eqv_lP (xs ys : List (Int × Int)) : PyData.eqv (liP xs) (liP ys) = decide (xs = ys) := eqvAll_map eqv_pr xs ys
theorem any_mapB {α : Type} [DecidableEq α] {f : α → PyData} (h : ∀ x y, PyData.eqv (f x) (f y) = decide (x = y)) (a : α) : ∀ (xs : List α), ((xs.map f).any fun z => PyData.eqv z (f a)) = decide (a ∈ xs)
  | [] => rfl
  | x :: xs => by
    rw [List.map_cons, List.any_cons, h, any_mapB h a xs]
    by_cases h1 : x = a
    · subst h1; simp
    · have h2 : a ≠ x := fun z => h1 z.symm
      simp [h1, h2]
theorem any_map {α : Type} [DecidableEq α] {f : α → PyData} (h : ∀ x y, PyData.eqv (f x) (f y) = decide (x = y)) (a : α) (xs : List α) [Decidable (a ∈ xs)] : ((xs.map f).any fun z => PyData.eqv z (f a)) = decide (a ∈ xs) := by
  rw [any_mapB h]; congr
theorem hasD_tI (i : Int) (xs : List Int) : hasD (.int i) (.tuple (xs.map .int)) = some (decide (i ∈ xs)) := by
  exact (if_pos ⟨Sp.int.ok (by decide), Sp.tuI.ok (by decide)⟩).trans (by rw [any_map eqv_int])
theorem hasD_lI (i : Int) (xs : List Int) : hasD (.int i) (.list (xs.map .int)) = some (decide (i ∈ xs)) := by
  exact (if_pos ⟨Sp.int.ok (by decide), Sp.liI.ok (by decide)⟩).trans (by rw [any_map eqv_int])
theorem hasD_tP (p : Int × Int) (xs : List (Int × Int)) : hasD (pr p) (.tuple (xs.map pr)) = some (decide (p ∈ xs)) := by
  exact (if_pos ⟨Sp.pr.ok (by decide), Sp.tuP.ok (by decide)⟩).trans (by rw [any_map eqv_pr])
theorem hasD_lP (p : Int × Int) (xs : List (Int × Int)) : hasD (pr p) (.list (xs.map pr)) = some (decide (p ∈ xs)) := by
  exact (if_pos ⟨Sp.pr.ok (by decide), Sp.liP.ok (by decide)⟩).trans (by rw [any_map eqv_pr])
theorem hasD_tP' (a b : Int) (xs : List (Int × Int)) : hasD (.tuple [.int a, .int b]) (.tuple (xs.map pr)) = some (decide ((a, b) ∈ xs)) := hasD_tP (a, b) xs
theorem hasD_lP' (a b : Int) (xs : List (Int × Int)) : hasD (.tuple [.int a, .int b]) (.list (xs.map pr)) = some (decide ((a, b) ∈ xs)) := hasD_lP (a, b) xs
theorem eqD_sp {k : Nat} {a b : PyData} (ha : Sp k a) (hb : Sp k b) (hk : k ≤ 64) (hs : ∀ x y, a = .str x → b = .str y → False) : eqD [a, b] = some (.v (.bool (PyData.eqv a b))) := by
  unfold eqD
  split
  · rename_i x y e
    cases e; exact (hs _ _ rfl rfl).elim
  · rename_i e
    cases e
    rw [if_pos ⟨ha.ok hk, hb.ok hk⟩]
  · rename_i e
    exact absurd rfl (e a b)
theorem neD_sp {k : Nat} {a b : PyData} (ha : Sp k a) (hb : Sp k b) (hk : k ≤ 64) (hs : ∀ x y, a = .str x → b = .str y → False) : neD [a, b] = some (.v (.bool (!PyData.eqv a b))) := by
  unfold neD
  split
  · rename_i x y e
    cases e; exact (hs _ _ rfl rfl).elim
  · rename_i e
    cases e
    rw [if_pos ⟨ha.ok hk, hb.ok hk⟩]
  · rename_i e
    exact absurd rfl (e a b)
theorem eqD_int (i j : Int) : eqD [.int i, .int j] = some (.v (.bool (decide (i = j)))) := (eqD_sp Sp.int Sp.int (by decide) (by intro _ _ e; cases e)).trans (by rw [eqv_int])
theorem neD_int (i j : Int) : neD [.int i, .int j] = some (.v (.bool (!decide (i = j)))) := (neD_sp Sp.int Sp.int (by decide) (by intro _ _ e; cases e)).trans (by rw [eqv_int])
theorem eqD_lI (i j : List Int) : eqD [.list (i.map .int), .list (j.map .int)] = some (.v (.bool (decide (i = j)))) := (eqD_sp Sp.liI Sp.liI (by decide) (by intro _ _ e; cases e)).trans (by rw [eqv_lI])
theorem neD_lI (i j : List Int) : neD [.list (i.map .int), .list (j.map .int)] = some (.v (.bool (!decide (i = j)))) := (neD_sp Sp.liI Sp.liI (by decide) (by intro _ _ e; cases e)).trans (by rw [eqv_lI])
theorem eqD_tI (i j : List Int) : eqD [.tuple (i.map .int), .tuple (j.map .int)] = some (.v (.bool (decide (i = j)))) := (eqD_sp Sp.tuI Sp.tuI (by decide) (by intro _ _ e; cases e)).trans (by rw [eqv_tI])
theorem neD_tI (i j : List Int) : neD [.tuple (i.map .int), .tuple (j.map .int)] = some (.v (.bool (!decide (i = j)))) := (neD_sp Sp.tuI Sp.tuI (by decide) (by intro _ _ e; cases e)).trans (by rw [eqv_tI])
theorem eqD_pr (i j : Int × Int) : eqD [pr i, pr j] = some (.v (.bool (decide (i = j)))) := (eqD_sp Sp.pr Sp.pr (by decide) (by intro _ _ e; cases e)).trans (by rw [eqv_pr])
theorem neD_pr (i j : Int × Int) : neD [pr i, pr j] = some (.v (.bool (!decide (i = j)))) := (neD_sp Sp.pr Sp.pr (by decide) (by intro _ _ e; cases e)).trans (by rw [eqv_pr])
theorem eqD_tP (i j : List (Int × Int)) : eqD [.tuple (i.map pr), .tuple (j.map pr)] = some (.v (.bool (decide (i = j)))) := (eqD_sp Sp.tuP Sp.tuP (by decide) (by intro _ _ e; cases e)).trans (by rw [eqv_tP])
theorem neD_tP (i j : List (Int × Int)) : neD [.tuple (i.map pr), .tuple (j.map pr)] = some (.v (.bool (!decide (i = j)))) := (neD_sp Sp.tuP Sp.tuP (by decide) (by intro _ _ e; cases e)).trans (by rw [eqv_tP])
theorem eqD_lP (i j : List (Int × Int)) : eqD [.list (i.map pr), .list (j.map pr)] = some (.v (.bool (decide (i = j)))) := (eqD_sp Sp.liP Sp.liP (by decide) (by intro _ _ e; cases e)).trans (by rw [eqv_lP])
theorem neD_lP (i j : List (Int × Int)) : neD [.list (i.map pr), .list (j.map pr)] = some (.v (.bool (!decide (i = j)))) := (neD_sp Sp.liP Sp.liP (by decide) (by intro _ _ e; cases e)).trans (by rw [eqv_lP])
/-- [] on the right -/
theorem eqvAll_nilR : ∀ ds : List PyData, PyData.eqvAll ds [] = decide (ds = [])
  | [] => rfl
  | _ :: _ => by simp [PyData.eqvAll]
theorem neD_nil {k : Nat} {ds : List PyData} (h : Sp k (.list ds)) (hk : k ≤ 64) : neD [.list ds, .list []] = some (.v (.bool (!decide (ds = [])))) :=
  (neD_sp h (Sp.mono (k := 1) (Sp.list (k := 0) (ds := []) fun _ z => nomatch z) (by have := h.dep; unfold PyData.depth at this; omega)) hk (by intro _ _ e; cases e)).trans (by
    show some (R.v (.bool (!PyData.eqvAll ds []))) = _
    rw [eqvAll_nilR])
theorem eqD_nil0 : eqD [.list [], .list []] = some (.v (.bool true)) := eqD_lI [] []
theorem neD_nil0 : neD [.list [], .list []] = some (.v (.bool false)) := neD_lI [] []
theorem eqD_lI0 {xs : List Int} : eqD [.list (xs.map .int), .list []] = some (.v (.bool (decide (xs = [])))) := eqD_lI xs []
theorem neD_lI0 {xs : List Int} : neD [.list (xs.map .int), .list []] = some (.v (.bool (!decide (xs = [])))) := neD_lI xs []
theorem eqD_lP0 {xs : List (Int × Int)} : eqD [.list (xs.map pr), .list []] = some (.v (.bool (decide (xs = [])))) := eqD_lP xs []
theorem neD_lP0 {xs : List (Int × Int)} : neD [.list (xs.map pr), .list []] = some (.v (.bool (!decide (xs = [])))) := neD_lP xs []
theorem eqD_tI0 {xs : List Int} : eqD [.tuple (xs.map .int), .tuple []] = some (.v (.bool (decide (xs = [])))) := eqD_tI xs []
theorem neD_tI0 {xs : List Int} : neD [.tuple (xs.map .int), .tuple []] = some (.v (.bool (!decide (xs = [])))) := neD_tI xs []
theorem eqD_tP0 {xs : List (Int × Int)} : eqD [.tuple (xs.map pr), .tuple []] = some (.v (.bool (decide (xs = [])))) := eqD_tP xs []
theorem neD_tP0 {xs : List (Int × Int)} : neD [.tuple (xs.map pr), .tuple []] = some (.v (.bool (!decide (xs = [])))) := neD_tP xs []
theorem eqD_p {a b c d : Int} : eqD [.tuple [.int a, .int b], .tuple [.int c, .int d]] = some (.v (.bool (decide ((a, b) = (c, d))))) := eqD_pr (a, b) (c, d)
theorem neD_p {a b c d : Int} : neD [.tuple [.int a, .int b], .tuple [.int c, .int d]] = some (.v (.bool (!decide ((a, b) = (c, d))))) := neD_pr (a, b) (c, d)
theorem eqD_b2 {a b c d : Bool} : eqD [.list [.bool a, .bool b], .list [.bool c, .bool d]] = some (.v (.bool ((a == c) && (b == d)))) :=
  (eqD_sp (k := 1) (Sp.list fun x hx => by rcases List.mem_cons.mp hx with rfl | hx; exact Sp.bool; rw [List.mem_singleton.mp hx]; exact Sp.bool) (Sp.list fun x hx => by rcases List.mem_cons.mp hx with rfl | hx; exact Sp.bool; rw [List.mem_singleton.mp hx]; exact Sp.bool) (by decide) (by intro _ _ e; cases e)).trans (by
    show some (R.v (.bool ((a == c) && ((b == d) && true)))) = _
    rw [Bool.and_true])
theorem neD_b2 {a b c d : Bool} : neD [.list [.bool a, .bool b], .list [.bool c, .bool d]] = some (.v (.bool (!((a == c) && (b == d))))) :=
  (neD_sp (k := 1) (Sp.list fun x hx => by rcases List.mem_cons.mp hx with rfl | hx; exact Sp.bool; rw [List.mem_singleton.mp hx]; exact Sp.bool) (Sp.list fun x hx => by rcases List.mem_cons.mp hx with rfl | hx; exact Sp.bool; rw [List.mem_singleton.mp hx]; exact Sp.bool) (by decide) (by intro _ _ e; cases e)).trans (by
    show some (R.v (.bool (!((a == c) && ((b == d) && true))))) = _
    rw [Bool.and_true])
theorem idxD_t {xs : List PyData} {i : Int} : idxD [.tuple xs, .int i] = (pick xs i).map .v := nr rfl
theorem idxD_l {xs : List PyData} {i : Int} : idxD [.list xs, .int i] = (pick xs i).map .v := nr rfl
noncomputable def leI (a b : Int) : Bool := decide (a ≤ b)
noncomputable def leP (p q : Int × Int) : Bool := decide (p.1 < q.1 ∨ p.1 = q.1 ∧ p.2 ≤ q.2)
noncomputable def leL (xs ys : List Int) : Bool := !HT.lexLt ys xs
theorem toks_ints : ∀ (xs ys : List Int), PyProof.Rows.lexLt PyProof.Rows.itemOrd (PySem.W.keyToksAll (xs.map .int)) (PySem.W.keyToksAll (ys.map .int)) = HT.lexLt xs ys
  | [], [] => by decide
  | [], y :: ys => by
    show PyProof.Rows.lexLt PyProof.Rows.itemOrd [.inl 0] (.inl 1 :: (PySem.W.keyToks (.int y) ++ PySem.W.keyToksAll (ys.map .int))) = true
    rw [PyProof.Rows.lex_diff (O := PyProof.Rows.itemOrd) (by simp)]
    rfl
  | x :: xs, [] => by
    show PyProof.Rows.lexLt PyProof.Rows.itemOrd (.inl 1 :: (PySem.W.keyToks (.int x) ++ PySem.W.keyToksAll (xs.map .int))) [.inl 0] = false
    rw [PyProof.Rows.lex_diff (O := PyProof.Rows.itemOrd) (by simp)]
    rfl
  | x :: xs, y :: ys => by
    show PyProof.Rows.lexLt PyProof.Rows.itemOrd (.inl 1 :: .inl x :: PySem.W.keyToksAll (xs.map .int)) (.inl 1 :: .inl y :: PySem.W.keyToksAll (ys.map .int)) = _
    rw [PyProof.Rows.lex_self (O := PyProof.Rows.itemOrd), HT.lexLt_cons]
    by_cases h : x = y
    · subst h
      rw [PyProof.Rows.lex_self (O := PyProof.Rows.itemOrd), if_pos rfl, toks_ints xs ys]
    · rw [PyProof.Rows.lex_diff (O := PyProof.Rows.itemOrd) (fun z => h (Sum.inl.inj z)), if_neg h]
      rfl
theorem dataLe_int (a b : Int) : PySem.W.dataLe false id (.int a) (.int b) = leI a b := by
  show (!PyProof.Rows.lexLt PyProof.Rows.itemOrd [.inl b] [.inl a]) = leI a b
  unfold leI
  by_cases h : b = a
  · subst h
    rw [PyProof.Rows.lex_self (O := PyProof.Rows.itemOrd)]
    simp [PyProof.Rows.lexLt]
  · rw [PyProof.Rows.lex_diff (O := PyProof.Rows.itemOrd) (fun z => h (Sum.inl.inj z))]
    show (!decide (b < a)) = decide (a ≤ b)
    by_cases h2 : b < a
    · have : ¬ a ≤ b := by omega
      simp [h2, this]
    · have : a ≤ b := by omega
      simp [h2, this]
theorem dataLe_tuI (xs ys : List Int) : PySem.W.dataLe false id (tuI xs) (tuI ys) = leL xs ys := congrArg (!·) (toks_ints ys xs)
theorem leL_pair (p q : Int × Int) : leL [p.1, p.2] [q.1, q.2] = leP p q := by
  unfold leL leP
  rw [HT.lexLt_cons, HT.lexLt_cons, HT.lexLt_nil_nil]
  split
  · rename_i h
    split
    · rename_i h2; simp [h, h2]
    · rename_i h2
      by_cases h3 : q.2 < p.2
      · have : ¬ p.2 ≤ q.2 := by omega
        simp [h, h3, this]
      · have : p.2 ≤ q.2 := by omega
        simp [h, h3, this]
  · rename_i h
    have h' : ¬ p.1 = q.1 := fun z => h z.symm
    by_cases h3 : q.1 < p.1
    · have : ¬ p.1 < q.1 := by omega
      simp [h', h3, this]
    · have : p.1 < q.1 := by omega
      simp [h', h3, this]
theorem dataLe_pr (p q : Int × Int) : PySem.W.dataLe false id (pr p) (pr q) = leP p q := (dataLe_tuI [p.1, p.2] [q.1, q.2]).trans (leL_pair p q)
theorem alike_ints : ∀ (xs ys : List Int), PySem.W.alikeAll (xs.map .int) (ys.map .int) = true
  | [], [] => rfl
  | [], _ :: _ => rfl
  | _ :: _, [] => rfl
  | x :: xs, y :: ys => by
    show (PySem.W.alike (.int x) (.int y) && PySem.W.alikeAll (xs.map .int) (ys.map .int)) = true
    rw [alike_ints xs ys]; rfl
theorem nodA_ints (xs : List Int) : nodA (xs.map .int) = true := by
  induction xs with
  | nil => rfl
  | cons x xs ih => simp [nodA, nod, ih]
theorem srt_map {α : Type} {f : α → PyData} {le : α → α → Bool} {xs : List α} (ha : ∀ x ∈ xs, ∀ y ∈ xs, PySem.W.alike (f x) (f y) = true) (hs : Srtb (xs.map f)) (hn : ∀ x ∈ xs, nod (f x) = true ∧ (f x).depth ≤ 20) (hle : ∀ x ∈ xs, ∀ y ∈ xs, PySem.W.dataLe false id (f x) (f y) = le x y) :
    srt (xs.map f) = some (.fl ((xs.mergeSort le).map f)) := by
  have h1 : PySem.W.AllAlike (xs.map f) := by
    intro d hd d' hd'
    obtain ⟨x, hx, rfl⟩ := List.mem_map.mp hd
    obtain ⟨y, hy, rfl⟩ := List.mem_map.mp hd'
    exact ha x hx y hy
  have h2 : ∀ d ∈ xs.map f, nod d = true ∧ d.depth ≤ 20 := by
    intro d hd
    obtain ⟨x, hx, rfl⟩ := List.mem_map.mp hd
    exact hn x hx
  refine (if_pos ⟨h1, hs, h2⟩).trans ?_
  · rw [List.map_mergeSort (r := le) (s := PySem.W.dataLe false id) (f := f) fun a h b h' => (hle a h b h').symm]
theorem srt_ints (xs : List Int) : srt (xs.map .int) = some (.fl ((xs.mergeSort leI).map .int)) :=
  srt_map (fun _ _ _ _ => rfl) (.inl <| .inr fun d hd => by
    obtain ⟨x, _, rfl⟩ := List.mem_map.mp hd
    exact ⟨by simp, by simp⟩) (fun _ _ => ⟨rfl, Nat.zero_le _⟩) fun x _ y _ => dataLe_int x y
theorem srt_prs (xs : List (Int × Int)) : srt (xs.map pr) = some (.fl ((xs.mergeSort leP).map pr)) :=
  srt_map (fun x _ y _ => alike_ints [x.1, x.2] [y.1, y.2]) (.inl <| .inl fun d hd => by
    obtain ⟨x, _, rfl⟩ := List.mem_map.mp hd
    exact ⟨_, _, rfl⟩) (fun x _ => ⟨rfl, Nat.le_trans Sp.pr.dep (by decide)⟩) fun x _ y _ => dataLe_pr x y
theorem srt_tups (xs : List (List Int)) (h : ∀ x ∈ xs, x ≠ []) : srt (xs.map tuI) = some (.fl ((xs.mergeSort leL).map tuI)) :=
  srt_map (fun x _ y _ => alike_ints x y) (.inl <| .inl fun d hd => by
    obtain ⟨x, hx, rfl⟩ := List.mem_map.mp hd
    cases x with
    | nil => exact absurd rfl (h _ hx)
    | cons a b => exact ⟨_, _, rfl⟩) (fun x _ => ⟨nodA_ints x, Nat.le_trans Sp.tuI.dep (by decide)⟩) fun x _ y _ => dataLe_tuI x y
theorem srt_tups1 (xs : List (List Int)) (h : xs.length ≤ 1) : srt (xs.map tuI) = some (.fl (xs.map tuI)) := by
  have e : xs.mergeSort leL = xs := by
    match xs, h with
    | [], _ => exact List.mergeSort_nil
    | [x], _ => exact List.mergeSort_singleton _
  have := srt_map (f := tuI) (le := leL) (xs := xs) (fun x _ y _ => alike_ints x y) (.inr ⟨by rw [List.length_map]; exact h, fun d hd => by
    obtain ⟨x, hx, rfl⟩ := List.mem_map.mp hd
    exact fun z => nomatch z⟩) (fun x _ => ⟨nodA_ints x, Nat.le_trans Sp.tuI.dep (by decide)⟩) fun x _ y _ => dataLe_tuI x y
  rw [e] at this
  exact this
theorem leI_trans (a b c : Int) : leI a b = true → leI b c = true → leI a c = true := by simp only [leI, decide_eq_true_eq]; omega
theorem leI_total (a b : Int) : (leI a b || leI b a) = true := by
  by_cases h : a ≤ b
  · simp [leI, h]
  · have : b ≤ a := by omega
    simp [leI, this]
theorem leI_anti {a b : Int} (h : leI a b = true) (h' : leI b a = true) : a = b := by simp only [leI, decide_eq_true_eq] at *; omega
theorem leP_iff {p q : Int × Int} : leP p q = true ↔ p.1 < q.1 ∨ p.1 = q.1 ∧ p.2 ≤ q.2 := by simp [leP]
theorem leP_trans (a b c : Int × Int) : leP a b = true → leP b c = true → leP a c = true := by simp only [leP_iff]; omega
theorem leP_total (a b : Int × Int) : (leP a b || leP b a) = true := by
  rw [Bool.or_eq_true, leP_iff, leP_iff]; omega
/-- two sorted rows of the same things are equal -/
theorem sorted_eq {α : Type} {le : α → α → Bool} (anti : ∀ a b, le a b = true → le b a = true → a = b) : ∀ {xs ys : List α}, xs.Pairwise (fun a b => le a b = true) → ys.Pairwise (fun a b => le a b = true) → xs.Perm ys → xs = ys
  | [], ys, _, _, h => (List.nil_perm.mp h).symm
  | x :: xs, [], _, _, h => absurd h.length_eq (by simp)
  | x :: xs, y :: ys, hx, hy, h => by
    have e : x = y := by
      have h1 : x ∈ y :: ys := h.mem_iff.mp List.mem_cons_self
      have h2 : y ∈ x :: xs := h.mem_iff.mpr List.mem_cons_self
      rcases List.mem_cons.mp h1 with r | h1
      · exact r
      rcases List.mem_cons.mp h2 with r | h2
      · exact r.symm
      exact anti _ _ ((List.pairwise_cons.mp hx).1 _ h2) ((List.pairwise_cons.mp hy).1 _ h1)
    subst e
    rw [sorted_eq anti (List.pairwise_cons.mp hx).2 (List.pairwise_cons.mp hy).2 (List.Perm.cons_inv h)]
theorem sortI_pw (xs : List Int) : (xs.mergeSort leI).Pairwise (fun a b => leI a b = true) := List.pairwise_mergeSort leI_trans leI_total xs
theorem sortP_pw (xs : List (Int × Int)) : (xs.mergeSort leP).Pairwise (fun a b => leP a b = true) := List.pairwise_mergeSort leP_trans leP_total xs
theorem sortI_eq {xs ys : List Int} (h : xs.Perm ys) : xs.mergeSort leI = ys.mergeSort leI := sorted_eq (fun _ _ => leI_anti) (sortI_pw _) (sortI_pw _) ((List.mergeSort_perm _ _).trans (h.trans (List.mergeSort_perm _ _).symm))
theorem sortI_id {xs : List Int} (h : xs.Pairwise (fun a b => leI a b = true)) : xs.mergeSort leI = xs := sorted_eq (fun _ _ => leI_anti) (sortI_pw _) h (List.mergeSort_perm _ _)
end PV
namespace PV
open PySem
noncomputable abbrev never : Nat → Option PyData → M → Prop := fun _ _ _ => False
noncomputable abbrev neverF : Nat → Option PyData → DS → Prop := fun _ _ _ => False
/-- a comprehension: what is asked of each item gives p, the item f -/
theorem RS_lc {α : Type} {src : Src} {own : List Nat} {bd : PyData → M → Res Bool} {el : M → Res R} {e : Env} {s : DS} {Q : List PyData → M → Prop} {E : Nat → Option PyData → M → Prop} {enc : α → PyData} {xs : List α} (p : α → Bool) (f : α → PyData) (hs : srcOk ⟨e, s⟩ src)
    (h : ∀ x ∈ xs, RS (bd (enc x) ⟨e, s⟩) (fun b m1 => b = p x ∧ (p x = true → RS (el m1) (fun r m2 => OS (esc m2.e r) fun q => q.1 = f x ∧ clear q.2 own = e ∧ m2.s = s) never) ∧ (p x = false → clear m1.e own = e ∧ m1.s = s)) never)
    (q : Q ((xs.filter p).map f) ⟨e, s⟩) : RS (lcL src own bd el (xs.map enc) [] ⟨e, s⟩) Q E := by
  have key : ∀ (xs : List α) (acc : List PyData), (∀ x ∈ xs, RS (bd (enc x) ⟨e, s⟩) (fun b m1 => b = p x ∧ (p x = true → RS (el m1) (fun r m2 => OS (esc m2.e r) fun q => q.1 = f x ∧ clear q.2 own = e ∧ m2.s = s) never) ∧ (p x = false → clear m1.e own = e ∧ m1.s = s)) never) →
      lcL src own bd el (xs.map enc) acc ⟨e, s⟩ = .ok (acc ++ (xs.filter p).map f) ⟨e, s⟩ := by
    intro xs
    induction xs with
    | nil => intro acc _; simp [lcL, hs]
    | cons x xs ih =>
      intro acc h
      obtain ⟨b, m1, h1, rfl, h2, h3⟩ := (h x List.mem_cons_self).ex
      have ih := fun acc => ih acc fun y hy => h y (List.mem_cons_of_mem _ hy)
      rw [List.map_cons]
      unfold lcL
      simp only [hs, if_true, h1]
      cases hp : p x with
      | true =>
        rw [hp] at h1 h2
        obtain ⟨r, m2, h4, h5⟩ := (h2 rfl).ex
        cases hq : esc m2.e r with
        | none => rw [hq] at h5; exact h5.elim
        | some q =>
          obtain ⟨d, e3⟩ := q
          rw [hq] at h5
          obtain ⟨h6, h7, h8⟩ := h5
          have h6 : d = f x := h6
          have h7 : clear e3 own = e := h7
          simp only [h4, hq, h7, h8]
          rw [ih, h6, List.filter_cons, if_pos hp]
          simp
      | false =>
        rw [hp] at h3
        obtain ⟨h4, h5⟩ := h3 rfl
        simp only [h4, h5]
        rw [ih, List.filter_cons, if_neg (by simp [hp])]
  rw [key xs [] h]
  exact q
/-- .. all of them -/
theorem RS_map {α : Type} {src : Src} {own : List Nat} {bd : PyData → M → Res Bool} {el : M → Res R} {e : Env} {s : DS} {Q : List PyData → M → Prop} {E : Nat → Option PyData → M → Prop} {enc : α → PyData} {xs : List α} (f : α → PyData) (hs : srcOk ⟨e, s⟩ src)
    (h : ∀ x ∈ xs, RS (bd (enc x) ⟨e, s⟩) (fun b m1 => b = true ∧ RS (el m1) (fun r m2 => OS (esc m2.e r) fun q => q.1 = f x ∧ clear q.2 own = e ∧ m2.s = s) never) never)
    (q : Q (xs.map f) ⟨e, s⟩) : RS (lcL src own bd el (xs.map enc) [] ⟨e, s⟩) Q E :=
  RS_lc (fun _ => true) f hs (fun x hx => (h x hx).imp fun b m1 h => ⟨h.1, fun _ => h.2, fun z => nomatch z⟩) (by
    rw [List.filter_eq_self.mpr fun _ _ => rfl]; exact q)
/-- a comprehension that draws: J of the deck, Y of the items -/
theorem RS_draw {α : Type} {own : List Nat} {bd : PyData → M → Res Bool} {el : M → Res R} {e : Env} {s : DS} {Q : List PyData → M → Prop} {E : Nat → Option PyData → M → Prop} {enc : α → PyData} {xs : List α} (J : List PyData → List α → DS → Prop) (hj : J [] xs s)
    (h : ∀ acc x rest s, x ∈ xs → J acc (x :: rest) s → RS (bd (enc x) ⟨e, s⟩) (fun b m1 => (b = true → RS (el m1) (fun r m2 => OS (esc m2.e r) fun q => clear q.2 own = e ∧ J (acc ++ [q.1]) rest m2.s) never) ∧ (b = false → clear m1.e own = e ∧ J acc rest m1.s)) never)
    (q : ∀ acc s, J acc [] s → Q acc ⟨e, s⟩) : RS (lcL none own bd el (xs.map enc) [] ⟨e, s⟩) Q E := by
  have key : ∀ (ys : List α) (acc : List PyData) (s : DS), (∀ y ∈ ys, y ∈ xs) → J acc ys s → ∃ acc' s', lcL none own bd el (ys.map enc) acc ⟨e, s⟩ = .ok acc' ⟨e, s'⟩ ∧ J acc' [] s' := by
    intro ys
    induction ys with
    | nil => intro acc s _ hj; exact ⟨acc, s, by simp [lcL, srcOk], hj⟩
    | cons x ys ih =>
      intro acc s hm hj
      obtain ⟨b, m1, h1, h2, h3⟩ := (h acc x ys s (hm x List.mem_cons_self) hj).ex
      have ih := fun acc s => ih acc s fun y hy => hm y (List.mem_cons_of_mem _ hy)
      rw [List.map_cons]
      unfold lcL
      simp only [srcOk, if_true, h1]
      cases b with
      | true =>
        obtain ⟨r, m2, h4, h5⟩ := (h2 rfl).ex
        cases hq : esc m2.e r with
        | none => rw [hq] at h5; exact h5.elim
        | some q =>
          obtain ⟨d, e3⟩ := q
          rw [hq] at h5
          obtain ⟨h6, h7⟩ := h5
          have h6 : clear e3 own = e := h6
          obtain ⟨acc', s', h8, h9⟩ := ih (acc ++ [d]) m2.s h7
          exact ⟨acc', s', by simp only [h4, hq, h6]; exact h8, h9⟩
      | false =>
        obtain ⟨h4, h5⟩ := h3 rfl
        obtain ⟨acc', s', h8, h9⟩ := ih acc m1.s h5
        exact ⟨acc', s', by simp only [h4]; exact h8, h9⟩
  obtain ⟨acc', s', h1, h2⟩ := key xs [] s (fun _ z => z) hj
  rw [h1]
  exact q acc' s' h2
theorem FS.use {x : FRes} {Q Q' : R → DS → Prop} {E : Nat → Option PyData → DS → Prop} (h : FS x Q neverF) (i : ∀ a m, Q a m → Q' a m) : FS x Q' E := h.mono i fun _ _ _ z => z.elim
/-- a loop: J of the items that are left, of the state; a turn may end the def -/
theorem RS_lop {α : Type} {src : Src} {bd : PyData → M → Res Flow} {m : M} {Q : Flow → M → Prop} {E : Nat → Option PyData → M → Prop} {enc : α → PyData} {xs : List α} (J : List α → List α → M → Prop) (hj : J [] xs m) (hs : ∀ done rest m, J done rest m → srcOk m src)
    (h : ∀ done x rest m, xs = done ++ x :: rest → J done (x :: rest) m → RS (bd (enc x) m) (fun fl m1 => match fl with
      | .nx => J (done ++ [x]) rest m1
      | .ct => J (done ++ [x]) rest m1
      | .brk => Q .nx m1
      | .rt r => Q (.rt r) m1) E)
    (q : ∀ m, J xs [] m → Q .nx m) : RS (lopL src bd (xs.map enc) m) Q E := by
  have key : ∀ (ys done : List α) (m : M), xs = done ++ ys → J done ys m → RS (lopL src bd (ys.map enc) m) Q E := by
    intro ys
    induction ys with
    | nil =>
      intro done m he hj
      rw [List.append_nil] at he
      subst he
      have e : lopL src bd ([] : List PyData) m = .ok .nx m := by unfold lopL; rw [if_pos (hs _ _ _ hj)]
      rw [List.map_nil, e]
      exact q _ hj
    | cons x ys ih =>
      intro done m he hj
      have h1 := h done x ys m he hj
      rw [List.map_cons]
      unfold lopL
      rw [if_pos (hs _ _ _ hj)]
      cases hb : bd (enc x) m with
      | ok fl m1 =>
        rw [hb] at h1
        cases fl with
        | nx => exact ih (done ++ [x]) m1 (by simp [he]) h1
        | ct => exact ih (done ++ [x]) m1 (by simp [he]) h1
        | brk => exact h1
        | rt r => exact h1
      | rz c f m1 => rw [hb] at h1; exact h1
      | bad => rw [hb] at h1; exact h1
  exact key xs [] m rfl hj
/-- a while by a measure -/
theorem RS_wh {c : M → Res Bool} {b : M → Res Flow} {m : M} {Q : Flow → M → Prop} {E : Nat → Option PyData → M → Prop} (J : Nat → M → Prop) (n : Nat) (hj : J n m) {k : Nat} (hk : n < k)
    (h : ∀ n m, J n m → RS (c m) (fun z m1 => (z = true → RS (b m1) (fun fl m2 => match fl with
      | .nx => ∃ n', n' < n ∧ J n' m2
      | .ct => ∃ n', n' < n ∧ J n' m2
      | .brk => Q .nx m2
      | .rt r => Q (.rt r) m2) E) ∧ (z = false → Q .nx m1)) E) : RS (whL c b k m) Q E := by
  induction k generalizing n m with
  | zero => omega
  | succ k ih =>
    have h1 := h n m hj
    unfold whL
    cases hc : c m with
    | ok z m1 =>
      rw [hc] at h1
      cases z with
      | true =>
        have h2 := h1.1 rfl
        simp only
        cases hb : b m1 with
        | ok fl m2 =>
          rw [hb] at h2
          cases fl with
          | nx => obtain ⟨n', h3, h4⟩ := h2; exact ih n' h4 (by omega)
          | ct => obtain ⟨n', h3, h4⟩ := h2; exact ih n' h4 (by omega)
          | brk => exact h2
          | rt r => exact h2
        | rz _ _ _ => rw [hb] at h2; exact h2
        | bad => rw [hb] at h2; exact h2
      | false => exact h1.2 rfl
    | rz _ _ _ => rw [hc] at h1; exact h1
    | bad => rw [hc] at h1; exact h1
section
variable {o : Op} {e : Env} {a b c : PyData} {as bs : List PyData}
theorem opE_v2 : opE e o [.v a, .v b] = opD o [a, b] := by cases o <;> rfl
theorem opE_vf : opE e o [.v a, .fl bs] = opD o [a, .list bs] := by cases o <;> rfl
theorem opE_fv : opE e o [.fl as, .v b] = opD o [.list as, b] := by cases o <;> rfl
theorem opE_ff : opE e o [.fl as, .fl bs] = opD o [.list as, .list bs] := by cases o <;> rfl
noncomputable def slotD : Option Slot → Option PyData
  | some (.ol ds) => some (.list ds)
  | some (.od _ kvs) => some (.dict kvs)
  | some (.sh d) => some d
  | _ => none
theorem deref_pl {i : Nat} : deref e (.pl i) = slotD e[i]? := by
  cases h : e[i]? with
  | none => simp [deref, slotD, h]
  | some sl => cases sl <;> simp [deref, slotD, h]
end
noncomputable def isDO : Op → Bool
  | .inn => true | .notin => true | .idx => true | .get => true | _ => false
theorem opE_no {o : Op} {e : Env} {rs : List R} (h : isDO o = false) : opE e o rs = (derefs e rs).bind fun ds => opD o ds := by
  have : dictOp e o rs = none := by cases o <;> first | rfl | (simp [isDO] at h)
  unfold opE
  rw [this]
  cases derefs e rs <;> rfl
theorem opE_n_add {e : Env} {rs : List R} : opE e .add rs = (derefs e rs).bind (opD .add) := opE_no rfl
theorem opE_n_sub {e : Env} {rs : List R} : opE e .sub rs = (derefs e rs).bind (opD .sub) := opE_no rfl
theorem opE_n_mul {e : Env} {rs : List R} : opE e .mul rs = (derefs e rs).bind (opD .mul) := opE_no rfl
theorem opE_n_fdiv {e : Env} {rs : List R} : opE e .fdiv rs = (derefs e rs).bind (opD .fdiv) := opE_no rfl
theorem opE_n_mod {e : Env} {rs : List R} : opE e .mod rs = (derefs e rs).bind (opD .mod) := opE_no rfl
theorem opE_n_pow {e : Env} {rs : List R} : opE e .pow rs = (derefs e rs).bind (opD .pow) := opE_no rfl
theorem opE_n_neg {e : Env} {rs : List R} : opE e .neg rs = (derefs e rs).bind (opD .neg) := opE_no rfl
theorem opE_n_eq {e : Env} {rs : List R} : opE e .eq rs = (derefs e rs).bind (opD .eq) := opE_no rfl
theorem opE_n_ne {e : Env} {rs : List R} : opE e .ne rs = (derefs e rs).bind (opD .ne) := opE_no rfl
theorem opE_n_lt {e : Env} {rs : List R} : opE e .lt rs = (derefs e rs).bind (opD .lt) := opE_no rfl
theorem opE_n_le {e : Env} {rs : List R} : opE e .le rs = (derefs e rs).bind (opD .le) := opE_no rfl
theorem opE_n_gt {e : Env} {rs : List R} : opE e .gt rs = (derefs e rs).bind (opD .gt) := opE_no rfl
theorem opE_n_ge {e : Env} {rs : List R} : opE e .ge rs = (derefs e rs).bind (opD .ge) := opE_no rfl
theorem opE_n_isN {e : Env} {rs : List R} : opE e .isN rs = (derefs e rs).bind (opD .isN) := opE_no rfl
theorem opE_n_notN {e : Env} {rs : List R} : opE e .notN rs = (derefs e rs).bind (opD .notN) := opE_no rfl
theorem opE_n_len {e : Env} {rs : List R} : opE e .len rs = (derefs e rs).bind (opD .len) := opE_no rfl
theorem opE_n_tuple {e : Env} {rs : List R} : opE e .tuple rs = (derefs e rs).bind (opD .tuple) := opE_no rfl
theorem opE_n_list {e : Env} {rs : List R} : opE e .list rs = (derefs e rs).bind (opD .list) := opE_no rfl
theorem opE_n_lrng {e : Env} {rs : List R} : opE e .lrng rs = (derefs e rs).bind (opD .lrng) := opE_no rfl
theorem opE_n_sorted {e : Env} {rs : List R} : opE e .sorted rs = (derefs e rs).bind (opD .sorted) := opE_no rfl
theorem opE_n_abs {e : Env} {rs : List R} : opE e .abs rs = (derefs e rs).bind (opD .abs) := opE_no rfl
theorem opE_n_min2 {e : Env} {rs : List R} : opE e .min2 rs = (derefs e rs).bind (opD .min2) := opE_no rfl
theorem opE_n_max2 {e : Env} {rs : List R} : opE e .max2 rs = (derefs e rs).bind (opD .max2) := opE_no rfl
theorem opE_n_min1 {e : Env} {rs : List R} : opE e .min1 rs = (derefs e rs).bind (opD .min1) := opE_no rfl
theorem opE_n_max1 {e : Env} {rs : List R} : opE e .max1 rs = (derefs e rs).bind (opD .max1) := opE_no rfl
theorem opE_n_sum {e : Env} {rs : List R} : opE e .sum rs = (derefs e rs).bind (opD .sum) := opE_no rfl
theorem opE_n_any {e : Env} {rs : List R} : opE e .any rs = (derefs e rs).bind (opD .any) := opE_no rfl
theorem opE_n_all {e : Env} {rs : List R} : opE e .all rs = (derefs e rs).bind (opD .all) := opE_no rfl
theorem opE_n_int {e : Env} {rs : List R} : opE e .int rs = (derefs e rs).bind (opD .int) := opE_no rfl
theorem opE_n_str {e : Env} {rs : List R} : opE e .str rs = (derefs e rs).bind (opD .str) := opE_no rfl
theorem opE_n_repr {e : Env} {rs : List R} : opE e .repr rs = (derefs e rs).bind (opD .repr) := opE_no rfl
theorem opE_n_not {e : Env} {rs : List R} : opE e .not rs = (derefs e rs).bind (opD .not) := opE_no rfl
theorem opE_n_idi {e : Env} {rs : List R} : opE e .idi rs = (derefs e rs).bind (opD .idi) := opE_no rfl
theorem opE_n_rev {e : Env} {rs : List R} : opE e .rev rs = (derefs e rs).bind (opD .rev) := opE_no rfl
theorem opE_n_sl {e : Env} {rs : List R} {a b : Bool} : opE e (.sl a b) rs = (derefs e rs).bind (opD (.sl a b)) := opE_no rfl
theorem opE_n_isi {e : Env} {rs : List R} {k : Nat} : opE e (.isi k) rs = (derefs e rs).bind (opD (.isi k)) := opE_no rfl
theorem opE_n_g {e : Env} {rs : List R} {k : Nat} : opE e (.g k) rs = (derefs e rs).bind (opD (.g k)) := opE_no rfl
/-- asked of a slot -/
noncomputable def pidx : Option Slot → PyData → Option R
  | some (.ol ds), a => idxD [.list ds, a]
  | some (.sh d), a => idxD [d, a]
  | some (.od t kvs), a => match (if keyOk t a = true then (look kvs a).map R.v else none) with
    | some r => some r
    | none => idxD [.dict kvs, a]
  | _, _ => none
noncomputable def pinn : Option Slot → PyData → Option R
  | some (.ol ds), a => inD [a, .list ds]
  | some (.sh d), a => inD [a, d]
  | some (.od t kvs), a => match (if keyOk t a = true then some (R.v (.bool (look kvs a).isSome)) else none) with
    | some r => some r
    | none => inD [a, .dict kvs]
  | _, _ => none
noncomputable def pnin : Option Slot → PyData → Option R
  | some (.ol ds), a => notinD [a, .list ds]
  | some (.sh d), a => notinD [a, d]
  | some (.od t kvs), a => match (if keyOk t a = true then some (R.v (.bool (!(look kvs a).isSome))) else none) with
    | some r => some r
    | none => notinD [a, .dict kvs]
  | _, _ => none
section
variable {e : Env} {a : PyData} {i : Nat} {ds : List PyData} {t : Bool} {kvs : List (PyData × PyData)}
theorem opE_idxp : opE e .idx [.pl i, .v a] = pidx e[i]? a := by
  unfold opE dictOp
  simp only [derefs, deref]
  cases h : e[i]? with
  | none => rfl
  | some sl => cases sl <;> rfl
theorem opE_inp : opE e .inn [.v a, .pl i] = pinn e[i]? a := by
  unfold opE dictOp
  simp only [derefs, deref]
  cases h : e[i]? with
  | none => rfl
  | some sl => cases sl <;> rfl
theorem opE_notinp : opE e .notin [.v a, .pl i] = pnin e[i]? a := by
  unfold opE dictOp
  simp only [derefs, deref]
  cases h : e[i]? with
  | none => rfl
  | some sl => cases sl <;> rfl
theorem pidx_ol : pidx (some (.ol ds)) a = idxD [.list ds, a] := nr rfl
theorem pinn_ol : pinn (some (.ol ds)) a = inD [a, .list ds] := nr rfl
theorem pnin_ol : pnin (some (.ol ds)) a = notinD [a, .list ds] := nr rfl
theorem pidx_od (h : keyOk t a = true) {d : PyData} (hd : look kvs a = some d) : pidx (some (.od t kvs)) a = some (.v d) := by
  unfold pidx
  simp only [h, if_true, hd]
  rfl
theorem pnin_od (h : keyOk t a = true) : pnin (some (.od t kvs)) a = some (.v (.bool (!(look kvs a).isSome))) := by
  unfold pnin
  simp only [h, if_true]
end
noncomputable def olAt : Option Slot → Option (List PyData)
  | some (.ol ds) => some ds
  | _ => none
section
variable {i j : Nat} {r : R} {m : M} {k : Int} {zs : List PyData} {Q : R → M → Prop} {E : Nat → Option PyData → M → Prop}
theorem M_app : RS (mutD .app i [r] m) Q E = OS (esc m.e r) fun p => OS (olAt p.2[i]?) fun ds => ds.length < LIM ∧ Q (.v .none) ⟨p.2.set i (.ol (ds ++ [p.1])), m.s⟩ := by
  unfold mutD
  simp only
  cases esc m.e r with
  | none => rfl
  | some p =>
    obtain ⟨d, e⟩ := p
    simp only [OS_some]
    cases e[i]? with
    | none => rfl
    | some sl => cases sl with
      | ol ds =>
        simp only [olAt, OS_some]
        by_cases h : ds.length < LIM <;> simp [h, RS]
      | _ => rfl
theorem M_pop : RS (mutD .pop i [] m) Q E = OS (olAt m.e[i]?) fun ds => OS ds[ds.length - 1]? fun d => Q (.v d) ⟨m.e.set i (.ol ds.dropLast), m.s⟩ := by
  unfold mutD
  simp only
  cases m.e[i]? with
  | none => rfl
  | some sl => cases sl with
    | ol ds =>
      simp only [olAt, OS_some]
      cases ds[ds.length - 1]? <;> rfl
    | _ => rfl
theorem M_popAt : RS (mutD .popAt i [.v (.int k)] m) Q E = OS (olAt m.e[i]?) fun ds => OS (L2.ixN ds.length k) fun j => OS ds[j]? fun d => Q (.v d) ⟨m.e.set i (.ol (ds.eraseIdx j)), m.s⟩ := by
  unfold mutD
  simp only
  cases m.e[i]? with
  | none => rfl
  | some sl => cases sl with
    | ol ds =>
      simp only [olAt, OS_some]
      cases L2.ixN ds.length k with
      | none => rfl
      | some j =>
        simp only [OS_some]
        cases ds[j]? <;> rfl
    | _ => rfl
theorem M_ext : RS (mutD .ext i [.fl zs] m) Q E = OS (olAt m.e[i]?) fun ds => ds.length + zs.length ≤ LIM ∧ Q (.v .none) ⟨m.e.set i (.ol (ds ++ zs)), m.s⟩ := by
  unfold mutD
  simp only
  cases m.e[i]? with
  | none => rfl
  | some sl => cases sl with
    | ol ds =>
      simp only [olAt, OS_some]
      by_cases h : ds.length + zs.length ≤ LIM <;> simp [h, RS]
    | _ => rfl
theorem M_ins {d : PyData} : RS (mutD .ins i [.v (.int k), .v d] m) Q E = OS (olAt m.e[i]?) fun ds => (0 ≤ k ∧ k < 2 ^ 62 ∧ ds.length < LIM) ∧ Q (.v .none) ⟨m.e.set i (.ol (ds.take k.toNat ++ [d] ++ ds.drop k.toNat)), m.s⟩ := by
  unfold mutD
  simp only
  cases m.e[i]? with
  | none => rfl
  | some sl => cases sl with
    | ol ds =>
      simp only [olAt, OS_some]
      by_cases h : 0 ≤ k ∧ k < 2 ^ 62 ∧ ds.length < LIM
      · rw [if_pos h]; simp only [RS_ok, h, and_self, true_and]
      · rw [if_neg h]; simp only [h, false_and]; rfl
    | _ => rfl
theorem M_rem : RS (mutD .rem i [.v (.int k)] m) Q E = OS (olAt m.e[i]?) fun ds => OS (toInts ds) fun ns => k ∈ ns ∧ Q (.v .none) ⟨m.e.set i (.ol ((ns.erase k).map .int)), m.s⟩ := by
  unfold mutD
  simp only
  cases m.e[i]? with
  | none => rfl
  | some sl => cases sl with
    | ol ds =>
      simp only [olAt, OS_some]
      cases toInts ds with
      | none => rfl
      | some ns =>
        simp only [OS_some]
        by_cases h : k ∈ ns <;> simp [h, RS]
    | _ => rfl
end
theorem lim0 : (0 ≤ LIM) = True := eq_true (by decide)
theorem lim1 : (1 ≤ LIM) = True := eq_true (by decide)
theorem lim2 : (2 ≤ LIM) = True := eq_true (by decide)
theorem lim3 : (3 ≤ LIM) = True := eq_true (by decide)
theorem lim4 : (4 ≤ LIM) = True := eq_true (by decide)
theorem lim5 : (5 ≤ LIM) = True := eq_true (by decide)
theorem lim6 : (6 ≤ LIM) = True := eq_true (by decide)
theorem lim7 : (7 ≤ LIM) = True := eq_true (by decide)
theorem lim8 : (8 ≤ LIM) = True := eq_true (by decide)
theorem lim9 : (9 ≤ LIM) = True := eq_true (by decide)
theorem lim10 : (10 ≤ LIM) = True := eq_true (by decide)
theorem lim11 : (11 ≤ LIM) = True := eq_true (by decide)
theorem lim12 : (12 ≤ LIM) = True := eq_true (by decide)
theorem lim17 : (17 ≤ LIM) = True := eq_true (by decide)
theorem lim26 : (26 ≤ LIM) = True := eq_true (by decide)
noncomputable def B62 (j : Int) : Prop := -(2 ^ 62) ≤ j ∧ j < 2 ^ 62
theorem B62.of {j : Int} (h : -1000000000 ≤ j) (h' : j ≤ 1000000000) : B62 j := ⟨by omega, by omega⟩
/-- 0, 1, .. -/
noncomputable def rI (j : Int) : List Int := (List.range j.toNat).map fun (k : Nat) => (k : Int)
noncomputable def rI2 (i j : Int) : List Int := (List.range (j - i).toNat).map fun (k : Nat) => i + (k : Int)
theorem mem_rI {i j : Int} : i ∈ rI j ↔ 0 ≤ i ∧ i < j := by
  unfold rI
  rw [List.mem_map]
  constructor
  · rintro ⟨k, hk, rfl⟩
    have := List.mem_range.mp hk
    omega
  · rintro ⟨h1, h2⟩
    exact ⟨i.toNat, List.mem_range.mpr (by omega), by omega⟩
theorem rI_len {j : Int} : (rI j).length = j.toNat := by simp [rI]
theorem rI_pw (j : Int) : (rI j).Pairwise (· < ·) := by
  unfold rI
  rw [List.pairwise_map]
  exact List.pairwise_lt_range.imp (by intro a b h; omega)
theorem mem_rI2 {i j k : Int} : k ∈ rI2 i j ↔ i ≤ k ∧ k < j := by
  unfold rI2
  rw [List.mem_map]
  constructor
  · rintro ⟨k, hk, rfl⟩
    have := List.mem_range.mp hk
    omega
  · rintro ⟨h1, h2⟩
    exact ⟨(k - i).toNat, List.mem_range.mpr (by omega), by omega⟩
theorem rI2_len {i j : Int} : (rI2 i j).length = (j - i).toNat := by simp [rI2]
theorem rng_1 {j : Int} {Q : List PyData → Prop} : OS (rngD [.v (.int j)]) Q = (B62 j ∧ Q ((rI j).map .int)) := by
  refine (OS_ite (c := -(2 ^ 62) ≤ j ∧ j < 2 ^ 62) (a := (List.range j.toNat).map fun (k : Nat) => .int (0 + (k : Int))) (Q := Q)).trans ?_
  have : ((List.range j.toNat).map fun (k : Nat) => PyData.int (0 + (k : Int))) = (rI j).map .int := by
    unfold rI; rw [List.map_map]; refine List.map_congr_left fun k _ => ?_
    show PyData.int (0 + (k : Int)) = .int k
    rw [Int.zero_add]
  rw [this]; rfl
theorem rng_2 {i j : Int} {Q : List PyData → Prop} : OS (rngD [.v (.int i), .v (.int j)]) Q = ((B62 i ∧ B62 j) ∧ Q ((rI2 i j).map .int)) := by
  refine (OS_ite (c := -(2 ^ 62) ≤ i ∧ i < 2 ^ 62 ∧ -(2 ^ 62) ≤ j ∧ j < 2 ^ 62) (a := (List.range (j - i).toNat).map fun (k : Nat) => .int (i + (k : Int))) (Q := Q)).trans ?_
  have : ((List.range (j - i).toNat).map fun (k : Nat) => PyData.int (i + (k : Int))) = (rI2 i j).map .int := by
    unfold rI2; rw [List.map_map]; rfl
  rw [this]
  unfold B62
  rw [eq_iff_iff]
  constructor
  · rintro ⟨⟨h1, h2, h3, h4⟩, h⟩; exact ⟨⟨⟨h1, h2⟩, h3, h4⟩, h⟩
  · rintro ⟨⟨⟨h1, h2⟩, h3, h4⟩, h⟩; exact ⟨⟨h1, h2, h3, h4⟩, h⟩
theorem lrng_1 {j : Int} {Q : R → Prop} : OS (lrngD [.int j]) Q = ((0 ≤ j ∧ j ≤ 16777216) ∧ Q (.fl ((rI j).map .int))) := by
  refine (OS_ite (c := 0 ≤ j ∧ j ≤ 16777216) (Q := Q)).trans ?_
  have : ((List.range j.toNat).map fun (k : Nat) => PyData.int (0 + (k : Int))) = (rI j).map .int := by
    unfold rI; rw [List.map_map]; refine List.map_congr_left fun k _ => ?_
    show PyData.int (0 + (k : Int)) = .int k
    rw [Int.zero_add]
  rw [this]
theorem pick_k {l : List PyData} {i : Int} {d : PyData} (h0 : 0 ≤ i) (h : l[i.toNat]? = some d) : pick l i = some d := by
  have e : ((i.toNat : Nat) : Int) = i := by omega
  rw [← e]; exact pick_nat h
theorem pick_0 {a : PyData} {l : List PyData} : pick (a :: l) 0 = some a := pick_k (by decide) rfl
theorem pick_1 {a b : PyData} {l : List PyData} : pick (a :: b :: l) 1 = some b := pick_k (by decide) rfl
theorem pick_2 {a b c : PyData} {l : List PyData} : pick (a :: b :: c :: l) 2 = some c := pick_k (by decide) rfl
theorem pick_3 {a b c d : PyData} {l : List PyData} : pick (a :: b :: c :: d :: l) 3 = some d := pick_k (by decide) rfl
/-- x[i], i in its bounds -/
theorem OS_pick {α : Type} {f : α → PyData} {xs : List α} {i : Int} {Q : PyData → Prop} (h0 : 0 ≤ i) (h : i.toNat < xs.length) (q : ∀ x, xs[i.toNat]? = some x → x ∈ xs → Q (f x)) : OS (pick (xs.map f) i) Q :=
  OS.of (pick_k (d := f xs[i.toNat]) h0 (by rw [List.getElem?_map, List.getElem?_eq_getElem h]; rfl)) (q _ (List.getElem?_eq_getElem h) (List.getElem_mem h))
theorem cut_lo {α : Type} {xs : List α} {k : Int} (h : 0 ≤ k) : cutD xs (some k) none = xs.drop k.toNat := by
  obtain ⟨n, rfl⟩ : ∃ n : Nat, k = n := ⟨k.toNat, by omega⟩
  unfold cutD
  rw [HT.sIx_nat, HT.sIx_none, Int.toNat_natCast]
  by_cases h : n ≤ xs.length
  · rw [Nat.min_eq_left h, List.take_of_length_le (by rw [List.length_drop]; exact Nat.le_refl _)]
  · rw [Nat.min_eq_right (by omega), List.drop_of_length_le (Nat.le_refl _), List.drop_of_length_le (by omega)]; simp
theorem cut_1 {α : Type} {xs : List α} : cutD xs (some 1) none = xs.drop 1 := cut_lo (by decide)
/-- the last one -/
theorem cut_m1 {α : Type} {xs : List α} : cutD xs (some (-1)) none = xs.drop (xs.length - 1) := by
  unfold cutD HT.sIx
  simp only
  rw [if_pos (by decide)]
  have e : ((-1 : Int) + (xs.length : Int)).toNat = xs.length - 1 := by omega
  rw [e, List.take_of_length_le (by rw [List.length_drop]; exact Nat.le_refl _)]
theorem zip_ints (xs ys : List Int) : zipD [xs.map .int, ys.map .int] = (xs.zip ys).map pr := by
  show List.zipWith (fun a b => PyData.tuple [a, b]) (xs.map .int) (ys.map .int) = _
  induction xs generalizing ys with
  | nil => rfl
  | cons x xs ih => cases ys with
    | nil => rfl
    | cons y ys => simp only [List.map_cons, List.zipWith_cons_cons, List.zip_cons_cons, ih]; rfl
theorem truth_none : truth .none = (false) := nr rfl
theorem truth_bool {a : Bool} : truth (.bool a) = (a) := nr rfl
theorem truth_int {a : Int} : truth (.int a) = ((a != 0)) := nr rfl
theorem truth_str {a : Str} : truth (.str a) = (((a.length : Int) != 0)) := nr rfl
theorem truth_list {a : List PyData} : truth (.list a) = (!a.isEmpty) := nr rfl
theorem truth_tuple {a : List PyData} : truth (.tuple a) = (!a.isEmpty) := nr rfl
theorem truth_dict {a : List (PyData × PyData)} : truth (.dict a) = (!a.isEmpty) := nr rfl
theorem strFits_none : strFits .none = true := nr rfl
theorem strFits_bool {a : Bool} : strFits (.bool a) = true := nr rfl
theorem strFits_int {a : Int} : strFits (.int a) = true := nr rfl
theorem strFits_str {a : Str} : strFits (.str a) = decide (a.length ≤ LIM) := nr rfl
theorem strFits_list {a : List PyData} : strFits (.list a) = true := nr rfl
theorem strFits_tuple {a : List PyData} : strFits (.tuple a) = true := nr rfl
theorem strFits_dict {a : List (PyData × PyData)} : strFits (.dict a) = false := nr rfl
theorem slR_sh {i : Nat} {d : PyData} : slR i (some (.sh d)) = some (.v d) := nr rfl
theorem slR_ol {i : Nat} {d : List PyData} : slR i (some (.ol d)) = some (.pl i) := nr rfl
theorem slR_od {i : Nat} {t : Bool} {d : List (PyData × PyData)} : slR i (some (.od t d)) = some (.pl i) := nr rfl
theorem slR_dk {i k : Nat} : slR i (some (.dk k)) = some (.dk k) := nr rfl
theorem vOf_v {d : PyData} : vOf (.v d) = some d := nr rfl
theorem bOf_b {d : Bool} : bOf (.v (.bool d)) = some d := nr rfl
theorem noPD_v {d : PyData} : noPD (.v d) = true := nr rfl
theorem noPD_fl {d : List PyData} : noPD (.fl d) = true := nr rfl
theorem noPD_fd {t : Bool} {d : List (PyData × PyData)} : noPD (.fd t d) = true := nr rfl
theorem deref_v {e : Env} {d : PyData} : deref e (.v d) = some d := nr rfl
theorem deref_fl {e : Env} {d : List PyData} : deref e (.fl d) = some (.list d) := nr rfl
theorem deref_fd {e : Env} {t : Bool} {d : List (PyData × PyData)} : deref e (.fd t d) = some (.dict d) := nr rfl
theorem slotD_ol {d : List PyData} : slotD (some (.ol d)) = some (.list d) := nr rfl
theorem slotD_od {t : Bool} {d : List (PyData × PyData)} : slotD (some (.od t d)) = some (.dict d) := nr rfl
theorem slotD_sh {d : PyData} : slotD (some (.sh d)) = some d := nr rfl
theorem derefs_nil {e : Env} : derefs e [] = some [] := nr rfl
theorem derefs_c {e : Env} {r : R} {rs : List R} : derefs e (r :: rs) = (deref e r).bind fun d => (derefs e rs).bind fun ds => some (d :: ds) := by
  show (match deref e r, derefs e rs with
    | some d, some ds => some (d :: ds)
    | _, _ => none) = _
  cases deref e r with
  | none => rfl
  | some d => cases derefs e rs <;> rfl
theorem esc_v {e : Env} {d : PyData} : esc e (.v d) = some (d, e) := nr rfl
theorem esc_fl {e : Env} {d : List PyData} : esc e (.fl d) = some (.list d, e) := nr rfl
theorem esc_fd {e : Env} {t : Bool} {d : List (PyData × PyData)} : esc e (.fd t d) = some (.dict d, e) := nr rfl
noncomputable def escS (e : Env) (i : Nat) : Option Slot → Option (PyData × Env)
  | some (.ol ds) => some (.list ds, e.set i (.sh (.list ds)))
  | some (.od _ kvs) => some (.dict kvs, e.set i (.sh (.dict kvs)))
  | some (.sh d) => some (d, e)
  | _ => none
theorem esc_pl {e : Env} {i : Nat} : esc e (.pl i) = escS e i e[i]? := by
  cases h : e[i]? with
  | none => simp [esc, escS, h]
  | some sl => cases sl <;> simp [esc, escS, h]
theorem escS_ol {e : Env} {i : Nat} {d : List PyData} : escS e i (some (.ol d)) = some (.list d, e.set i (.sh (.list d))) := nr rfl
theorem escS_od {e : Env} {i : Nat} {t : Bool} {d : List (PyData × PyData)} : escS e i (some (.od t d)) = some (.dict d, e.set i (.sh (.dict d))) := nr rfl
theorem escS_sh {e : Env} {i : Nat} {d : PyData} : escS e i (some (.sh d)) = some (d, e) := nr rfl
theorem escs_nil {e : Env} : escs e [] = some ([], e) := nr rfl
theorem escs_c {e : Env} {r : R} {rs : List R} : escs e (r :: rs) = (esc e r).bind fun p => (escs p.2 rs).bind fun q => some (p.1 :: q.1, q.2) := by
  show (match esc e r with
    | some (d, e1) => match escs e1 rs with
      | some (ds, e2) => some (d :: ds, e2)
      | none => none
    | none => none) = _
  cases esc e r with
  | none => rfl
  | some p =>
    obtain ⟨d, e1⟩ := p
    show (match escs e1 rs with
      | some (ds, e2) => some (d :: ds, e2)
      | none => none) = (escs e1 rs).bind _
    cases escs e1 rs <;> rfl
theorem toArgs_nil {e : Env} : toArgs e [] = some [] := nr rfl
theorem toArgs_dk {e : Env} {rs : List R} {k : Nat} : toArgs e (.dk k :: rs) = (toArgs e rs).map (.dk k :: ·) := nr rfl
theorem toArgs_v {e : Env} {d : PyData} {rs : List R} : toArgs e (.v d :: rs) = (toArgs e rs).map (.sh d :: ·) := by
  show (match deref e (.v d), toArgs e rs with
    | some d, some ds => some (Arg.sh d :: ds)
    | _, _ => none) = _
  cases toArgs e rs <;> rfl
theorem toArgs_fl {e : Env} {d : List PyData} {rs : List R} : toArgs e (.fl d :: rs) = (toArgs e rs).map (.sh (.list d) :: ·) := by
  show (match deref e (.fl d), toArgs e rs with
    | some d, some ds => some (Arg.sh d :: ds)
    | _, _ => none) = _
  cases toArgs e rs <;> rfl
theorem toArgs_fd {e : Env} {t : Bool} {d : List (PyData × PyData)} {rs : List R} : toArgs e (.fd t d :: rs) = (toArgs e rs).map (.sh (.dict d) :: ·) := by
  show (match deref e (.fd t d), toArgs e rs with
    | some d, some ds => some (Arg.sh d :: ds)
    | _, _ => none) = _
  cases toArgs e rs <;> rfl
theorem toArgs_pl {e : Env} {i : Nat} {rs : List R} : toArgs e (.pl i :: rs) = (slotD e[i]?).bind fun d => (toArgs e rs).map (.sh d :: ·) := by
  show (match deref e (.pl i), toArgs e rs with
    | some d, some ds => some (Arg.sh d :: ds)
    | _, _ => none) = _
  rw [deref_pl]
  cases slotD e[i]? with
  | none => rfl
  | some d => cases toArgs e rs <;> rfl
theorem setR_v {e : Env} {i : Nat} {d : PyData} : setR i (.v d) e = some (e.set i (.sh d)) := nr rfl
theorem setR_fl {e : Env} {i : Nat} {d : List PyData} : setR i (.fl d) e = some (e.set i (.ol d)) := nr rfl
theorem setR_fd {e : Env} {i : Nat} {t : Bool} {d : List (PyData × PyData)} : setR i (.fd t d) e = some (e.set i (.od t d)) := nr rfl
theorem setR_dk {e : Env} {i k : Nat} : setR i (.dk k) e = some (e.set i (.dk k)) := nr rfl
theorem setR_pl {e : Env} {i j : Nat} : setR i (.pl j) e = (escS e j e[j]?).map fun p => p.2.set i (.sh p.1) := by
  show (match esc e (.pl j) with
    | some (d, e1) => some (e1.set i (.sh d))
    | none => none) = _
  rw [esc_pl]
  cases escS e j e[j]? <;> rfl
theorem setRs_nil {e : Env} : setRs [] [] e = some e := nr rfl
theorem setRs_c {e : Env} {i : Nat} {is : List Nat} {r : R} {rs : List R} : setRs (i :: is) (r :: rs) e = (setR i r e).bind fun e1 => setRs is rs e1 := by
  show (match setR i r e with
    | some e1 => setRs is rs e1
    | none => none) = _
  cases setR i r e <;> rfl
theorem items_l {e : Env} {d : List PyData} : items e (.v (.list d)) = some (d, none) := nr rfl
theorem items_t {e : Env} {d : List PyData} : items e (.v (.tuple d)) = some (d, none) := nr rfl
theorem items_fl {e : Env} {d : List PyData} : items e (.fl d) = some (d, none) := nr rfl
noncomputable def itS (i : Nat) : Option Slot → Option (List PyData × Src)
  | some (.ol ds) => some (ds, some (i, ds))
  | some (.sh (.list ds)) => some (ds, none)
  | _ => none
theorem items_pl {e : Env} {i : Nat} : items e (.pl i) = itS i e[i]? := by
  cases h : e[i]? with
  | none => simp [items, itS, h]
  | some sl => cases sl with
    | sh d => cases d <;> simp [items, itS, h]
    | _ => simp [items, itS, h]
theorem itS_ol {i : Nat} {d : List PyData} : itS i (some (.ol d)) = some (d, some (i, d)) := nr rfl
theorem itS_sh {i : Nat} {d : List PyData} : itS i (some (.sh (.list d))) = some (d, none) := nr rfl
theorem isOwn_ol {d : List PyData} : isOwn (some (.ol d)) = true := nr rfl
theorem isOwn_od {t : Bool} {d : List (PyData × PyData)} : isOwn (some (.od t d)) = true := nr rfl
theorem isOwn_sh {d : PyData} : isOwn (some (.sh d)) = false := nr rfl
theorem isOwn_un : isOwn (some .un) = false := nr rfl
theorem isOwn_dk {k : Nat} : isOwn (some (.dk k)) = false := nr rfl
theorem isOwn_no : isOwn none = false := nr rfl
theorem olAt_ol {d : List PyData} : olAt (some (.ol d)) = some d := nr rfl
theorem finS_ol {d : List PyData} : finS (some (.ol d)) = some (.fl d) := nr rfl
theorem finS_od {t : Bool} {d : List (PyData × PyData)} : finS (some (.od t d)) = some (.fd t d) := nr rfl
theorem finS_sh {d : PyData} : finS (some (.sh d)) = some (.v d) := nr rfl
theorem zipR_tt {a b : List PyData} : zipR [.v (.tuple a), .v (.tuple b)] = some (a, b) := nr rfl
theorem zipR_ll {a b : List PyData} : zipR [.v (.list a), .v (.list b)] = some (a, b) := nr rfl
theorem zipR_ff {a b : List PyData} : zipR [.fl a, .fl b] = some (a, b) := nr rfl
theorem zipR_lf {a b : List PyData} : zipR [.v (.list a), .fl b] = some (a, b) := nr rfl
theorem zipR_fl {a b : List PyData} : zipR [.fl a, .v (.list b)] = some (a, b) := nr rfl
theorem zipL_ll {a b : List PyData} : zipL [.v (.list a), .v (.list b)] = some (a, b) := nr rfl
theorem zipL_ff {a b : List PyData} : zipL [.fl a, .fl b] = some (a, b) := nr rfl
theorem zipL_lf {a b : List PyData} : zipL [.v (.list a), .fl b] = some (a, b) := nr rfl
theorem zipL_fl {a b : List PyData} : zipL [.fl a, .v (.list b)] = some (a, b) := nr rfl
theorem noPl_nil : noPl [] = true := nr rfl
theorem noPl_v {d : PyData} {rs : List R} : noPl (.v d :: rs) = noPl rs := nr rfl
theorem noPl_fl {d : List PyData} {rs : List R} : noPl (.fl d :: rs) = noPl rs := nr rfl
theorem noPl_fd {t : Bool} {d : List (PyData × PyData)} {rs : List R} : noPl (.fd t d :: rs) = noPl rs := nr rfl
theorem noPl_dk {rs : List R} {k : Nat} : noPl (.dk k :: rs) = noPl rs := nr rfl
theorem hasPl_nil : hasPl [] = false := nr rfl
theorem hasPl_v {d : PyData} {rs : List R} : hasPl (.v d :: rs) = hasPl rs := nr rfl
theorem hasPl_fl {d : List PyData} {rs : List R} : hasPl (.fl d :: rs) = hasPl rs := nr rfl
theorem hasPl_fd {t : Bool} {d : List (PyData × PyData)} {rs : List R} : hasPl (.fd t d :: rs) = hasPl rs := nr rfl
theorem hasPl_dk {rs : List R} {k : Nat} : hasPl (.dk k :: rs) = hasPl rs := nr rfl
theorem hasPl_pl {i : Nat} {rs : List R} : hasPl (.pl i :: rs) = true := nr rfl
theorem flatR_v {d : PyData} : flatR (.v d) = flat d := nr rfl
theorem bind1_nm {e : Env} {i : Nat} {d : PyData} : bind1 e (.nm i) d = some (e.set i (.sh d)) := by simp [bind1]
theorem bind1_tp {e : Env} {ts : Tgs} {ds : List PyData} : bind1 e (.tp ts) (.tuple ds) = bindL e ts ds := by simp [bind1]
theorem bind1_tl {e : Env} {ts : Tgs} {ds : List PyData} : bind1 e (.tp ts) (.list ds) = bindL e ts ds := by simp [bind1]
theorem bindL_nil {e : Env} : bindL e .nil [] = some e := by simp [bindL]
theorem bindL_c {e : Env} {t : Tg} {ts : Tgs} {d : PyData} {ds : List PyData} : bindL e (.cons t ts) (d :: ds) = (bind1 e t d).bind fun e1 => bindL e1 ts ds := by
  rw [bindL]
  cases bind1 e t d <;> rfl
theorem map_erI {α β : Type} (f : α → β) : ∀ (xs : List α) (i : Nat), (xs.map f).eraseIdx i = (xs.eraseIdx i).map f
  | [], _ => rfl
  | _ :: _, 0 => rfl
  | x :: xs, i + 1 => by simp [map_erI f xs i]
theorem erI_perm {α : Type} : ∀ (xs : List α) (i : Nat) (h : i < xs.length), (xs[i] :: xs.eraseIdx i).Perm xs
  | x :: xs, 0, _ => List.Perm.refl _
  | x :: xs, i + 1, h => by
    simp only [List.getElem_cons_succ, List.eraseIdx_cons_succ]
    exact (List.Perm.swap _ _ _).trans (List.Perm.cons _ (erI_perm xs i (by simpa using h)))
theorem rI2_pw (i j : Int) : (rI2 i j).Pairwise (· < ·) := by
  unfold rI2
  rw [List.pairwise_map]
  exact List.pairwise_lt_range.imp (by intro a b h; omega)
theorem OS_pickL {α : Type} {f : α → PyData} {l : List PyData} (xs : List α) {i : Int} {Q : PyData → Prop} (hl : l = xs.map f) (h0 : 0 ≤ i) (h : i.toNat < xs.length) (q : ∀ x, xs[i.toNat]? = some x → x ∈ xs → Q (f x)) : OS (pick l i) Q := by
  subst hl; exact OS_pick h0 h q
theorem getD_of {α : Type} {xs : List α} {i : Nat} {x d : α} (h : xs[i]? = some x) : xs.getD i d = x := by
  rw [List.getD_eq_getElem?_getD, h]; rfl
theorem nodup_inj {α : Type} {xs : List α} (nd : xs.Nodup) {i j : Nat} (hi : i < xs.length) (hj : j < xs.length) (e : xs[i] = xs[j]) : i = j := by
  have h := List.pairwise_iff_getElem.mp nd
  rcases Nat.lt_trichotomy i j with z | z | z
  · exact absurd e (h i j hi hj z)
  · exact z
  · exact absurd e.symm (h j i hj hi z)
theorem nodup_len {α : Type} [DecidableEq α] : ∀ {xs ys : List α}, xs.Nodup → (∀ x ∈ xs, x ∈ ys) → xs.length ≤ ys.length
  | [], _, _, _ => Nat.zero_le _
  | x :: xs, ys, nd, h => by
    have hx := h x List.mem_cons_self
    obtain ⟨n1, n2⟩ := List.nodup_cons.mp nd
    have := nodup_len (xs := xs) (ys := ys.erase x) n2 fun y hy => (List.mem_erase_of_ne (fun z => by subst z; exact n1 hy)).mpr (h y (List.mem_cons_of_mem _ hy))
    rw [List.length_erase_of_mem hx] at this
    have := List.length_pos_of_mem hx
    rw [List.length_cons]; omega
theorem flat_b {b : Bool} : flat (.bool b) = true := nr rfl
theorem flat_i {b : Int} : flat (.int b) = true := nr rfl
theorem flat_s {b : Str} : flat (.str b) = true := nr rfl
theorem flat_n : flat .none = true := nr rfl
theorem enum_map {α : Type} {f : α → PyData} {xs : List α} : enumD 0 (xs.map f) = (xs.zipIdx).map fun p => .tuple [.int (p.2 : Int), f p.1] := by
  unfold enumD
  rw [List.zipIdx_map, List.map_map]
  refine List.map_congr_left fun p _ => ?_
  show PyData.tuple [.int (0 + (p.2 : Int)), f p.1] = _
  rw [Int.zero_add]
theorem cast0 : ((0 : Nat) : Int) = 0 := nr rfl
theorem cast1 : ((1 : Nat) : Int) = 1 := nr rfl
theorem cast2 : ((2 : Nat) : Int) = 2 := nr rfl
theorem cast3 : ((3 : Nat) : Int) = 3 := nr rfl
theorem cast4 : ((4 : Nat) : Int) = 4 := nr rfl
theorem cast5 : ((5 : Nat) : Int) = 5 := nr rfl
theorem cast6 : ((6 : Nat) : Int) = 6 := nr rfl
theorem cast7 : ((7 : Nat) : Int) = 7 := nr rfl
theorem cast8 : ((8 : Nat) : Int) = 8 := nr rfl
theorem cast9 : ((9 : Nat) : Int) = 9 := nr rfl
theorem cast10 : ((10 : Nat) : Int) = 10 := nr rfl
theorem cast11 : ((11 : Nat) : Int) = 11 := nr rfl
theorem cast12 : ((12 : Nat) : Int) = 12 := nr rfl
end PV
namespace PV
open PySem
section
variable {κ α : Type} [DecidableEq κ]
noncomputable def aget (st : List (κ × α)) (k : κ) : Option α := (st.find? fun p => decide (p.1 = k)).map (·.2)
theorem aget_nil {k : κ} : aget ([] : List (κ × α)) k = none := rfl
theorem aget_cons {p : κ × α} {st : List (κ × α)} {k : κ} : aget (p :: st) k = if p.1 = k then some p.2 else aget st k := by
  unfold aget
  rw [List.find?_cons]
  by_cases h : p.1 = k <;> simp [h]
theorem aget_none {k : κ} : ∀ {st : List (κ × α)}, aget st k = none ↔ k ∉ st.map (·.1)
  | [] => by simp [aget_nil]
  | p :: st => by
    rw [aget_cons, List.map_cons, List.mem_cons, not_or]
    by_cases h : p.1 = k
    · simp [h]
    · rw [if_neg h, aget_none]
      exact ⟨fun z => ⟨fun e => h e.symm, z⟩, fun z => z.2⟩
theorem aget_of {k : κ} {v : α} : ∀ {st : List (κ × α)}, (st.map (·.1)).Nodup → (k, v) ∈ st → aget st k = some v
  | [], _, h => nomatch h
  | p :: st, nd, h => by
    rw [List.map_cons] at nd
    obtain ⟨n1, n2⟩ := List.nodup_cons.mp nd
    rw [aget_cons]
    rcases List.mem_cons.mp h with e | h
    · rw [← e]; simp
    · rw [if_neg fun z => n1 (by rw [z]; exact List.mem_map.mpr ⟨_, h, rfl⟩)]
      exact aget_of n2 h
theorem aget_isSome {k : κ} {st : List (κ × α)} : (aget st k).isSome = decide (k ∈ st.map (·.1)) := by
  by_cases h : k ∈ st.map (·.1)
  · rw [decide_eq_true h]
    cases e : aget st k with
    | none => exact absurd h (aget_none.mp e)
    | some v => rfl
  · rw [decide_eq_false h, aget_none.mpr h]; rfl
noncomputable def enP (f : κ → PyData) (g : α → PyData) (p : κ × α) : PyData × PyData := (f p.1, g p.2)
variable {f : κ → PyData} {g : α → PyData}
open Classical in
theorem look_map (inj : ∀ a b, f a = f b → a = b) {k : κ} : ∀ {st : List (κ × α)}, look (st.map (enP f g)) (f k) = (aget st k).map g
  | [] => rfl
  | p :: st => by
    have ih := look_map inj (k := k) (st := st)
    unfold look at ih ⊢
    rw [List.map_cons, List.find?_cons, aget_cons]
    by_cases h : p.1 = k
    · have : (enP f g p).1 = f k := by show f p.1 = f k; rw [h]
      rw [decide_eq_true this, if_pos h]; rfl
    · have : ¬ (enP f g p).1 = f k := fun z => h (inj _ _ z)
      rw [decide_eq_false this, if_neg h]; exact ih
open Classical in
theorem putD_new (inj : ∀ a b, f a = f b → a = b) {k : κ} {v : α} {st : List (κ × α)} (h : aget st k = none) : putD (st.map (enP f g)) (f k) (g v) = (st ++ [(k, v)]).map (enP f g) := by
  have : ¬ ((st.map (enP f g)).any fun p => decide (p.1 = f k)) = true := by
    rw [List.any_eq_true]
    rintro ⟨x, hx, e⟩
    obtain ⟨p, hp, rfl⟩ := List.mem_map.mp hx
    have e : f p.1 = f k := of_decide_eq_true e
    exact aget_none.mp h (List.mem_map.mpr ⟨p, hp, inj _ _ e⟩)
  unfold putD
  split
  · rename_i z
    exact absurd z this
  · rw [List.map_append]; rfl
end
theorem int_inj : ∀ a b : Int, PyData.int a = .int b → a = b := fun a b h => by cases h; rfl
theorem tuI_inj (a b : List Int) (h : tuI a = tuI b) : a = b := by
  have h' : a.map PyData.int = b.map PyData.int := by simpa [tuI] using h
  exact (List.map_inj_right (fun x y => int_inj x y)).mp h'
theorem toKeys_ints : ∀ xs : List Int, toKeys (xs.map .int) = some (xs.map Sum.inl)
  | [] => rfl
  | x :: xs => by simp [toKeys, toKey, toKeys_ints xs]
theorem keyOk_tI {S : List Int} : keyOk true (.tuple (S.map .int)) = true := by simp [keyOk, toKeys_ints]
section
variable {α : Type} {g : α → PyData}
/-- a dict from settings -/
noncomputable abbrev dT (g : α → PyData) (st : List (List Int × α)) : List (PyData × PyData) := st.map (enP tuI g)
theorem pnin_tI {st : List (List Int × α)} {S : List Int} : pnin (some (.od true (st.map (enP tuI g)))) (.tuple (S.map .int)) = some (.v (.bool (!decide (S ∈ st.map (·.1))))) := by
  rw [pnin_od keyOk_tI, look_map tuI_inj, Option.isSome_map, aget_isSome]
  congr
theorem pidx_tI {st : List (List Int × α)} {S : List Int} {v : α} (h : aget st S = some v) : pidx (some (.od true (st.map (enP tuI g)))) (.tuple (S.map .int)) = some (.v (g v)) :=
  pidx_od keyOk_tI (by rw [look_map tuI_inj, h]; rfl)
theorem keysT_tI {st : List (List Int × α)} : keysT (st.map (enP tuI g)) = true := by
  unfold keysT
  rw [List.all_map, List.all_eq_true]
  intro p _
  exact keyOk_tI
theorem srt_tupsA {L : List (List Int)} (h : (∀ x ∈ L, x ≠ []) ∨ L.length ≤ 1) : srt (L.map tuI) = some (.fl ((L.mergeSort leL).map tuI)) := by
  rcases h with h | h
  · exact srt_tups L h
  · have e : L.mergeSort leL = L := by
      match L, h with
      | [], _ => exact List.mergeSort_nil
      | [x], _ => exact List.mergeSort_singleton _
    rw [e]; exact srt_tups1 L h
/-- sorted(d), d a dict from settings -/
theorem sortedD_tI {st : List (List Int × α)} (h : st ≠ []) (hl : st.length ≤ LIM) (hs : (∀ p ∈ st, p.1 ≠ []) ∨ st.length ≤ 1) : sortedD [.dict (st.map (enP tuI g))] = some (.fl (((st.map (·.1)).mergeSort leL).map tuI)) := by
  have e : (st.map (enP tuI g)).map (·.1) = (st.map (·.1)).map tuI := by rw [List.map_map, List.map_map]; rfl
  unfold sortedD
  simp only [e]
  have : toInts ((st.map (·.1)).map tuI) = none := by
    cases st with
    | nil => exact absurd rfl h
    | cons p st => rfl
  rw [this]
  simp only
  rw [if_pos ⟨keysT_tI, by rw [List.length_map]; exact hl⟩]
  refine srt_tupsA (hs.imp (fun z x hx => ?_) fun z => by rw [List.length_map]; exact z)
  obtain ⟨p, hp, rfl⟩ := List.mem_map.mp hx
  exact z p hp
end
end PV
namespace PV
open PySem Classical
/-- a dict that stands for a set of numbers -/
noncomputable def tk (x : Int) : PyData × PyData := (.int x, .bool true)
end PV
namespace PV
open PySem PySem.Spec PyProof.Rows L2 NtL
/-- strictly ascending -/
noncomputable abbrev AscL (l : List (List Int)) : Prop := l.Pairwise fun a b => leL a b = true ∧ a ≠ b
theorem AscL.nd {l : List (List Int)} (h : AscL l) : l.Nodup := h.imp fun z => z.2
end PV
namespace PV
open PySem PySem.Spec PyProof.Rows L2
end PV
namespace PV
open PySem PySem.Spec PyProof.Rows L2
end PV
namespace PV
open PySem PySem.Spec L2
mutual
noncomputable def il (N : Nat) : PyData → Bool
  | .none => true
  | .bool _ => true
  | .int i => decide (i.natAbs ≤ N)
  | .str x => x.cps.toList.all fun c => decide (c < 16 ^ 8)
  | .list xs => ilA N xs
  | .tuple xs => ilA N xs
  | .dict kvs => ilK N kvs
noncomputable def ilA (N : Nat) : List PyData → Bool
  | [] => true
  | x :: xs => il N x && ilA N xs
noncomputable def ilK (N : Nat) : List (PyData × PyData) → Bool
  | [] => true
  | p :: xs => il N p.1 && il N p.2 && ilK N xs
end
mutual
theorem il_mono {a b : Nat} (h : a ≤ b) : ∀ d : PyData, il a d = true → il b d = true
  | .none, _ => rfl
  | .bool _, _ => rfl
  | .int i, z => decide_eq_true (Nat.le_trans (of_decide_eq_true (show decide (i.natAbs ≤ a) = true from z)) h)
  | .str x, z => z
  | .list xs, z => il_monoA h xs z
  | .tuple xs, z => il_monoA h xs z
  | .dict kvs, z => il_monoK h kvs z
theorem il_monoA {a b : Nat} (h : a ≤ b) : ∀ xs : List PyData, ilA a xs = true → ilA b xs = true
  | [], _ => rfl
  | x :: xs, z => by
    simp only [ilA, Bool.and_eq_true] at z ⊢
    exact ⟨il_mono h x z.1, il_monoA h xs z.2⟩
theorem il_monoK {a b : Nat} (h : a ≤ b) : ∀ xs : List (PyData × PyData), ilK a xs = true → ilK b xs = true
  | [], _ => rfl
  | (k, v) :: xs, z => by
    simp only [ilK, Bool.and_eq_true] at z ⊢
    exact ⟨⟨il_mono h k z.1.1, il_mono h v z.1.2⟩, il_monoK h xs z.2⟩
end
theorem int_short {i : Int} (h : i.natAbs < 10 ^ 33) : (PyData.shown (.int i)).length ≤ 34 := by
  have e := int_text_length_le10 (k := 33) (by decide) h
  show (Str.ofString (toString i)).length ≤ 34
  rw [ofString_length]; exact e
theorem int_log {i : Int} (h : i.natAbs < 10 ^ 33) : i.natAbs.log2 < 110 := by
  by_cases z : i.natAbs = 0
  · rw [z]; decide
  · exact (Nat.log2_lt z).mpr (Nat.lt_trans h (by decide))
mutual
theorem il_ok {N : Nat} (h : N < 10 ^ 33) : ∀ d : PyData, il N d = true → d.leavesShort 34 = true ∧ d.showable = true
  | .none, _ => ⟨rfl, rfl⟩
  | .bool _, _ => ⟨rfl, rfl⟩
  | .int i, z => by
    have z : i.natAbs ≤ N := of_decide_eq_true (show decide (i.natAbs ≤ N) = true from z)
    exact ⟨decide_eq_true (int_short (by omega)), decide_eq_true (Nat.lt_trans (int_log (i := i) (by omega)) (by decide))⟩
  | .str x, z => ⟨z, rfl⟩
  | .list xs, z => il_okA h xs z
  | .tuple xs, z => il_okA h xs z
  | .dict kvs, z => il_okK h kvs z
theorem il_okA {N : Nat} (h : N < 10 ^ 33) : ∀ xs : List PyData, ilA N xs = true → PyData.leavesShortAll 34 xs = true ∧ PyData.showableAll xs = true
  | [], _ => ⟨rfl, rfl⟩
  | x :: xs, z => by
    simp only [ilA, Bool.and_eq_true] at z
    simp only [PyData.leavesShortAll, PyData.showableAll, Bool.and_eq_true]
    have a := il_ok h x z.1
    have b := il_okA h xs z.2
    exact ⟨⟨a.1, b.1⟩, a.2, b.2⟩
theorem il_okK {N : Nat} (h : N < 10 ^ 33) : ∀ xs : List (PyData × PyData), ilK N xs = true → PyData.leavesShortKv 34 xs = true ∧ PyData.showableKv xs = true
  | [], _ => ⟨rfl, rfl⟩
  | (k, v) :: xs, z => by
    simp only [ilK, Bool.and_eq_true] at z
    simp only [PyData.leavesShortKv, PyData.showableKv, Bool.and_eq_true]
    have a := il_ok h k z.1.1
    have a2 := il_ok h v z.1.2
    have b := il_okK h xs z.2
    exact ⟨⟨⟨a.1, a2.1⟩, b.1⟩, ⟨a.2, a2.2⟩, b.2⟩
end
structure Rq (N w k : Nat) (d : PyData) : Prop where
  il : il N d = true
  ok : rok d = true
  wt : d.weight ≤ w
  dp : d.depth ≤ k
/-- a row of such -/
structure RqA (N w k : Nat) (xs : List PyData) : Prop where
  il : ilA N xs = true
  ok : rokA xs = true
  wt : PyData.weightAll xs ≤ w
  dp : PyData.depthAll xs ≤ k
section
variable {N N' w k w' k' : Nat} {d : PyData} {xs ys : List PyData}
theorem Rq.mono (h : Rq N w k d) (hw : w ≤ w') (hk : k ≤ k') : Rq N w' k' d := ⟨h.il, h.ok, Nat.le_trans h.wt hw, Nat.le_trans h.dp hk⟩
theorem Rq.up (h : Rq N w k d) (hn : N ≤ N') : Rq N' w k d := ⟨il_mono hn d h.il, h.ok, h.wt, h.dp⟩
theorem RqA.mono (h : RqA N w k xs) (hw : w ≤ w') (hk : k ≤ k') : RqA N w' k' xs := ⟨h.il, h.ok, Nat.le_trans h.wt hw, Nat.le_trans h.dp hk⟩
theorem RqA.up (h : RqA N w k xs) (hn : N ≤ N') : RqA N' w k xs := ⟨il_monoA hn xs h.il, h.ok, h.wt, h.dp⟩
theorem RqA.nil : RqA N 0 0 [] := ⟨rfl, rfl, Nat.le_refl _, Nat.le_refl _⟩
theorem RqA.cons (h : Rq N w k d) (t : RqA N w' k xs) : RqA N (w + 1 + w') k (d :: xs) :=
  ⟨by simp [ilA, h.il, t.il], by simp [rokA, h.ok, t.ok], by
    show PyData.weight d + 1 + PyData.weightAll xs ≤ _
    have := h.wt; have := t.wt; omega, by
    show max (PyData.depth d) (PyData.depthAll xs) ≤ k
    have := h.dp; have := t.dp; omega⟩
theorem Rq.tupA (h : RqA N w k xs) : Rq N w (k + 1) (.tuple xs) := ⟨h.il, by simpa [rok] using h.ok, h.wt, Nat.succ_le_succ h.dp⟩
theorem Rq.ofT (h : Rq N w (k + 1) (.tuple xs)) : RqA N w k xs := ⟨h.il, by simpa [rok] using h.ok, h.wt, Nat.le_of_succ_le_succ h.dp⟩
theorem Rq.int {i : Int} (h : i.natAbs ≤ N) (hN : N < 10 ^ 33) : Rq N 111 0 (.int i) := ⟨decide_eq_true h, rfl, by
  show (if i == 0 then 0 else i.natAbs.log2 + 1) ≤ 111
  have := int_log (i := i) (by omega)
  split <;> omega, Nat.le_refl _⟩
theorem Rq.bool {b : Bool} : Rq N 0 0 (.bool b) := ⟨rfl, rfl, Nat.le_refl _, Nat.le_refl _⟩
theorem RqA.len (h : RqA N w k xs) : xs.length ≤ w := by
  have key : ∀ xs : List PyData, xs.length ≤ PyData.weightAll xs := by
    intro xs
    induction xs with
    | nil => exact Nat.le_refl _
    | cons x xs ih =>
      show xs.length + 1 ≤ PyData.weight x + 1 + PyData.weightAll xs
      omega
  exact Nat.le_trans (key xs) h.wt
theorem wA_app : ∀ xs ys : List PyData, PyData.weightAll (xs ++ ys) = PyData.weightAll xs + PyData.weightAll ys
  | [], ys => by simp [PyData.weightAll]
  | x :: xs, ys => by
    show PyData.weight x + 1 + PyData.weightAll (xs ++ ys) = PyData.weight x + 1 + PyData.weightAll xs + PyData.weightAll ys
    rw [wA_app xs ys]; omega
theorem iA_app : ∀ xs ys : List PyData, ilA N (xs ++ ys) = (ilA N xs && ilA N ys)
  | [], ys => by simp [ilA]
  | x :: xs, ys => by
    show ilA N (x :: (xs ++ ys)) = _
    simp only [ilA, iA_app xs ys, Bool.and_assoc]
theorem kA_app : ∀ xs ys : List PyData, rokA (xs ++ ys) = (rokA xs && rokA ys)
  | [], ys => by simp [rokA]
  | x :: xs, ys => by
    show rokA (x :: (xs ++ ys)) = _
    simp only [rokA, kA_app xs ys, Bool.and_assoc]
theorem dA_app : ∀ xs ys : List PyData, PyData.depthAll (xs ++ ys) = max (PyData.depthAll xs) (PyData.depthAll ys)
  | [], ys => by simp [PyData.depthAll]
  | x :: xs, ys => by
    show max (PyData.depth x) (PyData.depthAll (xs ++ ys)) = max (max (PyData.depth x) (PyData.depthAll xs)) (PyData.depthAll ys)
    rw [dA_app xs ys]; omega
theorem RqA.app (h : RqA N w k xs) (t : RqA N w' k ys) : RqA N (w + w') k (xs ++ ys) :=
  ⟨by rw [iA_app, h.il, t.il]; rfl, by rw [kA_app, h.ok, t.ok]; rfl, by rw [wA_app]; exact Nat.add_le_add h.wt t.wt, by rw [dA_app]; exact Nat.max_le.mpr ⟨h.dp, t.dp⟩⟩
theorem RqA.uncons {x : PyData} (h : RqA N w k (x :: xs)) : Rq N (PyData.weight x) k x ∧ RqA N (PyData.weightAll xs) k xs ∧ PyData.weight x + 1 + PyData.weightAll xs ≤ w := by
  obtain ⟨h1, h3, h4, h5⟩ := h
  simp only [ilA, Bool.and_eq_true] at h1
  simp only [rokA, Bool.and_eq_true] at h3
  have h4 : PyData.weight x + 1 + PyData.weightAll xs ≤ w := h4
  have h5 : max (PyData.depth x) (PyData.depthAll xs) ≤ k := h5
  exact ⟨⟨h1.1, h3.1, Nat.le_refl _, by omega⟩, ⟨h1.2, h3.2, Nat.le_refl _, by omega⟩, h4⟩
theorem RqA.all (h : RqA N w k xs) : ∀ x ∈ xs, Rq N w k x := by
  induction xs generalizing w with
  | nil => exact fun _ m => nomatch m
  | cons x xs ih =>
    obtain ⟨a, b, c⟩ := h.uncons
    intro y m
    rcases List.mem_cons.mp m with rfl | m
    · exact a.mono (by omega) (Nat.le_refl _)
    · exact (ih b y m).mono (by omega) (Nat.le_refl _)
theorem RqA.of : ∀ {xs : List PyData}, (∀ x ∈ xs, Rq N w k x) → RqA N (xs.length * (w + 1)) k xs
  | [], _ => ⟨rfl, rfl, Nat.zero_le _, Nat.zero_le _⟩
  | x :: xs, h => by
    have t := RqA.of fun x hx => h x (List.mem_cons_of_mem _ hx)
    refine (RqA.cons (h x List.mem_cons_self) t).mono ?_ (Nat.le_refl _)
    rw [List.length_cons, Nat.succ_mul]; omega
theorem RqA.sub (h : RqA N w k xs) (s : ys.Sublist xs) : RqA N w k ys := by
  induction s generalizing w with
  | slnil => exact h
  | cons x s ih =>
    obtain ⟨a, b, c⟩ := h.uncons
    exact (ih b).mono (by omega) (Nat.le_refl _)
  | cons_cons x s ih =>
    obtain ⟨a, b, c⟩ := h.uncons
    exact (RqA.cons a (ih b)).mono (by omega) (Nat.le_refl _)
theorem RqA.rev (h : RqA N w k xs) : RqA N w k xs.reverse := by
  induction xs generalizing w with
  | nil => exact h
  | cons x xs ih =>
    obtain ⟨a, b, c⟩ := h.uncons
    rw [List.reverse_cons]
    exact (RqA.app (ih b) (RqA.cons a (RqA.nil.mono (Nat.le_refl _) (Nat.zero_le k)))).mono (by omega) (Nat.le_refl _)
theorem Rq.repr (h : Rq N w k d) (hN : N < 10 ^ 33) (hw : w ≤ 400000) (hk : k ≤ 60) : reprD [d] = some (.v (.str d.shown)) := by
  obtain ⟨h1, h2⟩ := il_ok hN d h.il
  have := PyData.shown_le 34 (by decide) d h1
  have hl : d.shown.length ≤ LIM := by have := h.wt; unfold LIM; omega
  show (if d.showable = true ∧ rok d = true ∧ d.shown.length ≤ LIM ∧ d.depth ≤ 60 then some (R.v (.str d.shown)) else Option.none) = _
  rw [if_pos ⟨h2, h.ok, hl, Nat.le_trans h.dp hk⟩]
noncomputable def rqB (N w k : Nat) (d : PyData) : Bool := PV.il N d && rok d && decide (d.weight ≤ w) && decide (d.depth ≤ k)
theorem Rq.of (h : rqB N w k d = true) : Rq N w k d := by
  simp only [rqB, Bool.and_eq_true, decide_eq_true_eq] at h
  exact ⟨h.1.1.1, h.1.1.2, h.1.2, h.2⟩
end
end PV
namespace PV
open PySem PySem.Spec PyProof.Rows L2
section
variable {cl : Nat → List Arg → DS → FRes} {m : M}
theorem V_dcT {Q : R → M → Prop} {E : Nat → Option PyData → M → Prop} {t : Tg} {it : It} {c : T} {k v : PV.E} {own : List Nat} : RS (ev cl (.dcT t it c k v own) m) Q E = RS (evI cl it m) (fun p m1 => ownOk m1.e own ∧ p.1.length ≤ LIM ∧ RS (dcL p.2 own (bdT cl t c) (fun m => ev cl k m) (fun m => ev cl v m) true p.1 [] ⟨clear m1.e own, m1.s⟩) (fun acc m2 => Q (.fd true acc) ⟨back m2.e m1.e own, m2.s⟩) fun _ _ _ => False) E := by
  rw [show ev cl (.dcT t it c k v own) m = match evI cl it m with
      | .ok (ds, src) m1 => if own.all (fun i => !isOwn m1.e[i]?) = true ∧ ds.length ≤ LIM then match dcL src own (bdT cl t c) (fun m => ev cl k m) (fun m => ev cl v m) true ds [] ⟨clear m1.e own, m1.s⟩ with
        | .ok acc m2 => .ok (.fd true acc) ⟨back m2.e m1.e own, m2.s⟩
        | _ => .bad
        else .bad
      | .rz c f m1 => .rz c f m1
      | .bad => .bad from rfl]
  cases evI cl it m with
  | ok p m1 =>
    obtain ⟨ds, src⟩ := p
    simp only [RS_ok, ownOk]
    by_cases h : own.all (fun i => !isOwn m1.e[i]?) = true ∧ ds.length ≤ LIM
    · rw [if_pos h]
      simp only [h.1, h.2, true_and]
      cases dcL src own (bdT cl t c) (fun m => ev cl k m) (fun m => ev cl v m) true ds [] ⟨clear m1.e own, m1.s⟩ <;> rfl
    · rw [if_neg h, eq_iff_iff]
      exact ⟨fun z => z.elim, fun z => h ⟨z.1, z.2.1⟩⟩
  | rz _ _ _ => rfl
  | bad => rfl
noncomputable def odTAt : Option Slot → Option (List (PyData × PyData))
  | some (.od true kvs) => some kvs
  | _ => none
theorem odTAt_od {kvs : List (PyData × PyData)} : odTAt (some (.od true kvs)) = some kvs := nr rfl
noncomputable def fdTOf : R → Option (List (PyData × PyData))
  | .fd true kvs => some kvs
  | _ => none
theorem fdTOf_fd {kvs : List (PyData × PyData)} : fdTOf (.fd true kvs) = some kvs := nr rfl
theorem V_updT {Q : R → M → Prop} {E : Nat → Option PyData → M → Prop} {i : Nat} {e : PV.E} : RS (ev cl (.updT i e) m) Q E = OS (odTAt m.e[i]?) fun _ => RS (ev cl e m) (fun r m1 => OS (fdTOf r) fun more => OS (odTAt m1.e[i]?) fun kvs =>
    (kvs.length + more.length ≤ LIM ∧ (kvs ≠ [] ∨ apartT more)) ∧ Q (.v .none) ⟨m1.e.set i (.od true (mergeD kvs more)), m1.s⟩) E := by
  rw [show ev cl (.updT i e) m = match m.e[i]? with
    | some (.od true _) => match ev cl e m with
      | .ok (.fd true more) m1 => match m1.e[i]? with
        | some (.od true kvs) => if kvs.length + more.length ≤ LIM ∧ (kvs ≠ [] ∨ apartT more) then .ok (.v .none) ⟨m1.e.set i (.od true (mergeD kvs more)), m1.s⟩ else .bad
        | _ => .bad
      | .ok _ _ => .bad
      | .rz c f m1 => .rz c f m1
      | .bad => .bad
    | _ => .bad from rfl]
  cases m.e[i]? with
  | none => rfl
  | some sl => cases sl with
    | od t kvs0 => cases t with
      | false => rfl
      | true =>
        simp only [odTAt, OS_some]
        cases ev cl e m with
        | rz _ _ _ => rfl
        | bad => rfl
        | ok r m1 => cases r with
          | fd t more => cases t with
            | false => rfl
            | true =>
              simp only [RS_ok, fdTOf, OS_some]
              cases m1.e[i]? with
              | none => rfl
              | some sl => cases sl with
                | od t kvs => cases t with
                  | false => rfl
                  | true =>
                    simp only [OS_some]
                    by_cases h : kvs.length + more.length ≤ LIM ∧ (kvs ≠ [] ∨ apartT more)
                    · rw [if_pos h]; simp only [h, true_and]; rfl
                    · rw [if_neg h]; simp only [h, false_and]; rfl
                | _ => rfl
          | _ => rfl
    | _ => rfl
noncomputable def strOf : R → Option Str
  | .v (.str x) => some x
  | _ => none
theorem strOf_s {x : Str} : strOf (.v (.str x)) = some x := nr rfl
noncomputable def sgs (x : Str) : List PyData := x.cps.toList.map fun c => .str (sgn c)
theorem VI_txt {Q : List PyData × Src → M → Prop} {E : Nat → Option PyData → M → Prop} {e : PV.E} : RS (evI cl (.txt e) m) Q E = RS (ev cl e m) (fun r m1 => OS (strOf r) fun x => Q (sgs x, none) m1) E := by
  rw [show evI cl (.txt e) m = match ev cl e m with
    | .ok (.v (.str x)) m1 => .ok (x.cps.toList.map fun c => .str (sgn c), none) m1
    | .ok _ _ => .bad
    | .rz c f m1 => .rz c f m1
    | .bad => .bad from rfl]
  cases ev cl e m with
  | rz _ _ _ => rfl
  | bad => rfl
  | ok r m1 => cases r with
    | v d => cases d <;> rfl
    | _ => rfl
theorem VI_rg3 {Q : List PyData × Src → M → Prop} {E : Nat → Option PyData → M → Prop} {es : Es} : RS (evI cl (.rg3 es) m) Q E = RS (evs cl es m) (fun rs m1 => OS (rg3D rs) fun ds => Q (ds, none) m1) E := by
  rw [show evI cl (.rg3 es) m = match evs cl es m with
    | .ok rs m1 => match rg3D rs with
      | some ds => .ok (ds, none) m1
      | none => .bad
    | .rz c f m1 => .rz c f m1
    | .bad => .bad from rfl]
  cases evs cl es m with
  | rz _ _ _ => rfl
  | bad => rfl
  | ok rs m1 =>
    simp only [RS_ok]
    cases rg3D rs <;> rfl
end
end PV
namespace Rk
open PySem PySem.Spec PyProof.Rows L2 PV
noncomputable def topS (i : Nat) : Stmt := PySem.Challenge.pw_treelamps_k36_shortest_plan.main.body.getD i (.Pass ⟨0, 0, 0, 0⟩)
noncomputable abbrev st_neighbours_of : Stmt := topS 1
noncomputable abbrev N_neighbours_of : List Str := ["forest", "vertex", "below", "a", "b"]
theorem sc_neighbours_of : FnScope N_neighbours_of ["forest", "vertex"] (defScope st_neighbours_of) := ⟨rfl, rfl, rfl, by decide +kernel, rfl, by decide +kernel, by decide +kernel⟩
noncomputable abbrev st_lamps_beside : Stmt := topS 3
noncomputable abbrev N_lamps_beside : List Str := ["forest", "setting", "vertex", "other"]
theorem sc_lamps_beside : FnScope N_lamps_beside ["forest", "setting", "vertex"] (defScope st_lamps_beside) := ⟨rfl, rfl, rfl, by decide +kernel, rfl, by decide +kernel, by decide +kernel⟩
noncomputable abbrev st_setting_after : Stmt := topS 4
noncomputable abbrev N_setting_after : List Str := ["setting", "u", "v", "lamp"]
theorem sc_setting_after : FnScope N_setting_after ["setting", "u", "v"] (defScope st_setting_after) := ⟨rfl, rfl, rfl, by decide +kernel, rfl, by decide +kernel, by decide +kernel⟩
noncomputable abbrev st_possible_slides : Stmt := topS 5
noncomputable abbrev N_possible_slides : List Str := ["forest", "setting", "found", "u", "v"]
theorem sc_possible_slides : FnScope N_possible_slides ["forest", "setting"] (defScope st_possible_slides) := ⟨rfl, rfl, rfl, by decide +kernel, rfl, by decide +kernel, by decide +kernel⟩
noncomputable abbrev st_steps_from : Stmt := topS 7
noncomputable abbrev N_steps_from : List Str := ["forest", "setting", "steps", "level", "following", "here", "u", "v", "there"]
theorem sc_steps_from : FnScope N_steps_from ["forest", "setting"] (defScope st_steps_from) := ⟨rfl, rfl, rfl, by decide +kernel, rfl, by decide +kernel, by decide +kernel⟩
noncomputable abbrev st_shortest_plan : Stmt := topS 8
noncomputable abbrev N_shortest_plan : List Str := ["forest", "first", "second", "steps", "plan", "here", "slides", "u", "v"]
theorem sc_shortest_plan : FnScope N_shortest_plan ["forest", "first", "second"] (defScope st_shortest_plan) := ⟨rfl, rfl, rfl, by decide +kernel, rfl, by decide +kernel, by decide +kernel⟩
noncomputable abbrev st__law_draws : Stmt := topS 10
noncomputable abbrev N__law_draws : List Str := ["_law_script", "_law_cells", "_law_cell"]
theorem sc__law_draws : FnScope N__law_draws ["_law_script"] (defScope st__law_draws) := ⟨rfl, rfl, rfl, by decide +kernel, rfl, by decide +kernel, by decide +kernel⟩
noncomputable abbrev st__law_next : Stmt := topS 11
noncomputable abbrev N__law_next : List Str := ["_law_state", "_law_many", "_law_index", "_law_mixed", "_law_cells", "_law_count", "_law_rests", "_law_digit"]
theorem sc__law_next : FnScope N__law_next ["_law_state", "_law_many"] (defScope st__law_next) := ⟨rfl, rfl, rfl, by decide +kernel, rfl, by decide +kernel, by decide +kernel⟩
noncomputable abbrev st__law_one : Stmt := topS 12
noncomputable abbrev N__law_one : List Str := ["_law_state", "_law_items"]
theorem sc__law_one : FnScope N__law_one ["_law_state", "_law_items"] (defScope st__law_one) := ⟨rfl, rfl, rfl, by decide +kernel, rfl, by decide +kernel, by decide +kernel⟩
noncomputable abbrev st__law_shuffled : Stmt := topS 13
noncomputable abbrev N__law_shuffled : List Str := ["_law_state", "_law_items", "_law_left", "_law_found"]
theorem sc__law_shuffled : FnScope N__law_shuffled ["_law_state", "_law_items"] (defScope st__law_shuffled) := ⟨rfl, rfl, rfl, by decide +kernel, rfl, by decide +kernel, by decide +kernel⟩
noncomputable abbrev st__law_forest : Stmt := topS 14
noncomputable abbrev N__law_forest : List Str := ["_law_state", "_law_least", "_law_most", "_law_n", "_law_k", "_law_order", "_law_edges", "_law_kind", "_law_lack", "_law_on"]
theorem sc__law_forest : FnScope N__law_forest ["_law_state", "_law_least", "_law_most"] (defScope st__law_forest) := ⟨rfl, rfl, rfl, by decide +kernel, rfl, by decide +kernel, by decide +kernel⟩
noncomputable abbrev st__law_near : Stmt := topS 15
noncomputable abbrev N__law_near : List Str := ["_law_forest_here", "_law_vertex", "_law_a", "_law_b"]
theorem sc__law_near : FnScope N__law_near ["_law_forest_here", "_law_vertex"] (defScope st__law_near) := ⟨rfl, rfl, rfl, by decide +kernel, rfl, by decide +kernel, by decide +kernel⟩
noncomputable abbrev st__law_setting : Stmt := topS 16
noncomputable abbrev N__law_setting : List Str := ["_law_state", "_law_forest_here", "_law_vertex", "_law_limit", "_law_found", "_law_near_here", "_law_lamp"]
theorem sc__law_setting : FnScope N__law_setting ["_law_state", "_law_forest_here"] (defScope st__law_setting) := ⟨rfl, rfl, rfl, by decide +kernel, rfl, by decide +kernel, by decide +kernel⟩
noncomputable abbrev st__law_slides : Stmt := topS 17
noncomputable abbrev N__law_slides : List Str := ["_law_forest_here", "_law_setting_here", "_law_found", "_law_u", "_law_v", "_law_lamp"]
theorem sc__law_slides : FnScope N__law_slides ["_law_forest_here", "_law_setting_here"] (defScope st__law_slides) := ⟨rfl, rfl, rfl, by decide +kernel, rfl, by decide +kernel, by decide +kernel⟩
noncomputable abbrev st__law_moved : Stmt := topS 18
noncomputable abbrev N__law_moved : List Str := ["_law_setting_here", "_law_u", "_law_v", "_law_lamp"]
theorem sc__law_moved : FnScope N__law_moved ["_law_setting_here", "_law_u", "_law_v"] (defScope st__law_moved) := ⟨rfl, rfl, rfl, by decide +kernel, rfl, by decide +kernel, by decide +kernel⟩
noncomputable abbrev st__law_reached : Stmt := topS 19
noncomputable abbrev N__law_reached : List Str := ["_law_forest_here", "_law_setting_here", "_law_steps", "_law_level", "_law_longer", "_law_here", "_law_u", "_law_v", "_law_there"]
theorem sc__law_reached : FnScope N__law_reached ["_law_forest_here", "_law_setting_here"] (defScope st__law_reached) := ⟨rfl, rfl, rfl, by decide +kernel, rfl, by decide +kernel, by decide +kernel⟩
noncomputable abbrev st__law_due : Stmt := topS 20
noncomputable abbrev N__law_due : List Str := ["_law_forest_here", "_law_first", "_law_second", "_law_steps", "_law_rests", "_law_here", "_law_found", "_law_u", "_law_v", "_law_there"]
theorem sc__law_due : FnScope N__law_due ["_law_forest_here", "_law_first", "_law_second"] (defScope st__law_due) := ⟨rfl, rfl, rfl, by decide +kernel, rfl, by decide +kernel, by decide +kernel⟩
noncomputable abbrev st__law_right : Stmt := topS 21
noncomputable abbrev N__law_right : List Str := ["_law_forest_here", "_law_first", "_law_second", "_law_due_here"]
theorem sc__law_right : FnScope N__law_right ["_law_forest_here", "_law_first", "_law_second"] (defScope st__law_right) := ⟨rfl, rfl, rfl, by decide +kernel, rfl, by decide +kernel, by decide +kernel⟩
noncomputable abbrev st_law : Stmt := topS 22
noncomputable abbrev N_law : List Str := ["_law_script", "_law_state", "_law_turn", "_law_forest_here", "_law_first", "_law_reached_here", "_law_k", "_law_some", "_law_second"]
theorem sc_law : FnScope N_law ["_law_script"] (defScope st_law) := ⟨rfl, rfl, rfl, by decide +kernel, rfl, by decide +kernel, by decide +kernel⟩
noncomputable def B_neighbours_of : Ss := (.cons (.set (.nm 2) (.lc (.tp (.cons (.nm 3) (.cons (.nm 4) .nil))) (.e (.op .idx (.cons (.x 0) (.cons (.c (.int 1)) .nil)))) (.e (.op .eq (.cons (.x 4) (.cons (.x 1) .nil)))) (.x 3) [3, 4])) (.cons (.ret (.op .tuple (.cons (.op .add (.cons (.x 2) (.cons (.lc (.tp (.cons (.nm 3) (.cons (.nm 4) .nil))) (.e (.op .idx (.cons (.x 0) (.cons (.c (.int 1)) .nil)))) (.e (.op .eq (.cons (.x 3) (.cons (.x 1) .nil)))) (.x 4) [3, 4]) .nil))) .nil))) .nil))
noncomputable def B_lamps_beside : Ss := (.cons (.ret (.lc (.nm 3) (.e (.call 19 (.cons (.x 0) (.cons (.x 2) .nil)))) (.e (.op .inn (.cons (.x 3) (.cons (.x 1) .nil)))) (.x 3) [3])) .nil)
noncomputable def B_setting_after : Ss := (.cons (.ret (.op .tuple (.cons (.op .sorted (.cons (.lc (.nm 3) (.e (.x 0)) .yes (.ite (.e (.op .eq (.cons (.x 3) (.cons (.x 1) .nil)))) (.x 2) (.x 3)) [3]) .nil)) .nil))) .nil)
noncomputable def B_possible_slides : Ss := (.cons (.set (.nm 2) (.lst .nil)) (.cons (.lop (.nm 3) (.e (.x 1)) (.cons (.lop (.nm 4) (.e (.call 19 (.cons (.x 0) (.cons (.x 3) .nil)))) (.cons (.ite (.e (.op .eq (.cons (.call 31 (.cons (.x 0) (.cons (.x 1) (.cons (.x 4) .nil)))) (.cons (.lst (.cons (.x 3) .nil)) .nil)))) (.cons (.ex (.mut .app 2 (.cons (.tup (.cons (.x 3) (.cons (.x 4) .nil))) .nil))) .nil) .nil) .nil)) .nil)) (.cons (.ret (.op .tuple (.cons (.x 2) .nil))) .nil)))
noncomputable def B_steps_from : Ss := (.cons (.set (.nm 2) (.dsp true (.x 1) (.c (.int 0)))) (.cons (.set (.nm 3) (.lst (.cons (.x 1) .nil))) (.cons (.wh (.e (.op .ne (.cons (.x 3) (.cons (.lst .nil) .nil)))) (.cons (.set (.nm 4) (.lst .nil)) (.cons (.lop (.nm 5) (.e (.x 3)) (.cons (.lop (.tp (.cons (.nm 6) (.cons (.nm 7) .nil))) (.e (.call 33 (.cons (.x 0) (.cons (.x 5) .nil)))) (.cons (.set (.nm 8) (.call 151 (.cons (.x 5) (.cons (.x 6) (.cons (.x 7) .nil))))) (.cons (.ite (.e (.op .notin (.cons (.x 8) (.cons (.x 2) .nil)))) (.cons (.sub 2 (.x 8) (.op .add (.cons (.op .idx (.cons (.x 2) (.cons (.x 5) .nil))) (.cons (.c (.int 1)) .nil)))) (.cons (.ex (.mut .app 4 (.cons (.x 8) .nil))) .nil)) .nil) .nil))) .nil)) (.cons (.set (.nm 3) (.x 4)) .nil)))) (.cons (.ret (.x 2)) .nil))))
noncomputable def B_shortest_plan : Ss := (.cons (.set (.nm 3) (.call 138 (.cons (.x 0) (.cons (.x 2) .nil)))) (.cons (.ite (.e (.op .notin (.cons (.x 1) (.cons (.x 3) .nil)))) (.cons (.ret (.c .none)) .nil) .nil) (.cons (.set (.nm 4) (.lst .nil)) (.cons (.set (.nm 5) (.x 1)) (.cons (.wh (.e (.op .ne (.cons (.x 5) (.cons (.x 2) .nil)))) (.cons (.set (.nm 6) (.call 33 (.cons (.x 0) (.cons (.x 5) .nil)))) (.cons (.set (.tp (.cons (.nm 7) (.cons (.nm 8) .nil))) (.op .idx (.cons (.lc (.tp (.cons (.nm 7) (.cons (.nm 8) .nil))) (.e (.x 6)) (.e (.op .lt (.cons (.op .idx (.cons (.x 3) (.cons (.call 151 (.cons (.x 5) (.cons (.x 7) (.cons (.x 8) .nil)))) .nil))) (.cons (.op .idx (.cons (.x 3) (.cons (.x 5) .nil))) .nil)))) (.tup (.cons (.x 7) (.cons (.x 8) .nil))) [7, 8]) (.cons (.c (.int 0)) .nil)))) (.cons (.ex (.mut .app 4 (.cons (.tup (.cons (.x 7) (.cons (.x 8) .nil))) .nil))) (.cons (.set (.nm 5) (.call 151 (.cons (.x 5) (.cons (.x 7) (.cons (.x 8) .nil))))) .nil))))) (.cons (.ret (.op .tuple (.cons (.x 4) .nil))) .nil))))))
noncomputable def B__law_one : Ss := (.cons (.ret (.op .idx (.cons (.x 1) (.cons (.call 139 (.cons (.x 0) (.cons (.op .len (.cons (.x 1) .nil)) .nil))) .nil)))) .nil)
noncomputable def B__law_shuffled : Ss := (.cons (.par [2, 3] (.cons (.op .list (.cons (.x 1) .nil)) (.cons (.lst .nil) .nil))) (.cons (.wh (.e (.op .ne (.cons (.x 2) (.cons (.lst .nil) .nil)))) (.cons (.ex (.mut .app 3 (.cons (.mut .popAt 2 (.cons (.call 139 (.cons (.x 0) (.cons (.op .len (.cons (.x 2) .nil)) .nil))) .nil)) .nil))) .nil)) (.cons (.ret (.x 3)) .nil)))
noncomputable def B__law_forest : Ss := (.cons (.set (.nm 3) (.op .add (.cons (.x 1) (.cons (.call 139 (.cons (.x 0) (.cons (.op .add (.cons (.op .sub (.cons (.x 2) (.cons (.x 1) .nil))) (.cons (.c (.int 1)) .nil))) .nil))) .nil)))) (.cons (.par [5, 6] (.cons (.call 140 (.cons (.x 0) (.cons (.op .lrng (.cons (.x 3) .nil)) .nil))) (.cons (.lst .nil) .nil))) (.cons (.par [7, 8] (.cons (.call 139 (.cons (.x 0) (.cons (.c (.int 4)) .nil))) (.cons (.op .idx (.cons (.lst (.cons (.c (.int 0)) (.cons (.c (.int 0)) (.cons (.c (.int 4)) .nil)))) (.cons (.call 139 (.cons (.x 0) (.cons (.c (.int 3)) .nil))) .nil))) .nil))) (.cons (.lop (.nm 4) (.rng (.cons (.c (.int 1)) (.cons (.x 3) .nil))) (.cons (.set (.nm 9) (.op .idx (.cons (.x 5) (.cons (.op .idx (.cons (.lst (.cons (.op .sub (.cons (.x 4) (.cons (.c (.int 1)) .nil))) (.cons (.c (.int 0)) (.cons (.call 139 (.cons (.x 0) (.cons (.x 4) .nil))) (.cons (.op .max2 (.cons (.c (.int 0)) (.cons (.op .sub (.cons (.op .sub (.cons (.x 4) (.cons (.c (.int 1)) .nil))) (.cons (.call 139 (.cons (.x 0) (.cons (.c (.int 3)) .nil))) .nil))) .nil))) .nil))))) (.cons (.x 7) .nil))) .nil)))) (.cons (.ite (.or (.e (.op .eq (.cons (.x 8) (.cons (.c (.int 0)) .nil)))) (.e (.op .gt (.cons (.call 139 (.cons (.x 0) (.cons (.x 8) .nil))) (.cons (.c (.int 0)) .nil))))) (.cons (.ex (.mut .app 6 (.cons (.tup (.cons (.op .min2 (.cons (.x 9) (.cons (.op .idx (.cons (.x 5) (.cons (.x 4) .nil))) .nil))) (.cons (.op .max2 (.cons (.x 9) (.cons (.op .idx (.cons (.x 5) (.cons (.x 4) .nil))) .nil))) .nil))) .nil))) .nil) .nil) .nil))) (.cons (.ret (.tup (.cons (.x 3) (.cons (.op .tuple (.cons (.op .sorted (.cons (.x 6) .nil)) .nil)) .nil)))) .nil)))))
noncomputable def B__law_near : Ss := (.cons (.ret (.lc (.tp (.cons (.nm 2) (.cons (.nm 3) .nil))) (.e (.op .idx (.cons (.x 0) (.cons (.c (.int 1)) .nil)))) (.e (.op .inn (.cons (.x 1) (.cons (.tup (.cons (.x 2) (.cons (.x 3) .nil))) .nil)))) (.op .sub (.cons (.op .add (.cons (.x 2) (.cons (.x 3) .nil))) (.cons (.x 1) .nil))) [2, 3])) .nil)
noncomputable def B__law_setting : Ss := (.cons (.par [3, 4] (.cons (.op .idx (.cons (.lst (.cons (.c (.int 2)) (.cons (.c (.int 4)) (.cons (.c (.int 12)) .nil)))) (.cons (.call 139 (.cons (.x 0) (.cons (.c (.int 3)) .nil))) .nil))) (.cons (.lst .nil) .nil))) (.cons (.lop (.nm 2) (.e (.call 140 (.cons (.x 0) (.cons (.op .lrng (.cons (.op .idx (.cons (.x 1) (.cons (.c (.int 0)) .nil))) .nil)) .nil)))) (.cons (.set (.nm 5) (.call 45 (.cons (.x 1) (.cons (.x 2) .nil)))) (.cons (.ite (.and (.e (.op .lt (.cons (.op .len (.cons (.x 4) .nil)) (.cons (.x 3) .nil)))) (.e (.op .eq (.cons (.lc (.nm 6) (.e (.x 5)) (.e (.op .inn (.cons (.x 6) (.cons (.x 4) .nil)))) (.x 6) [6]) (.cons (.lst .nil) .nil))))) (.cons (.ex (.mut .app 4 (.cons (.x 2) .nil))) .nil) .nil) .nil))) (.cons (.ret (.op .tuple (.cons (.op .sorted (.cons (.x 4) .nil)) .nil))) .nil)))
noncomputable def B__law_slides : Ss := (.cons (.set (.nm 2) (.lst .nil)) (.cons (.lop (.nm 3) (.e (.x 1)) (.cons (.lop (.nm 4) (.e (.op .sorted (.cons (.call 45 (.cons (.x 0) (.cons (.x 3) .nil))) .nil))) (.cons (.ite (.e (.op .eq (.cons (.lc (.nm 5) (.e (.call 45 (.cons (.x 0) (.cons (.x 4) .nil)))) (.e (.op .inn (.cons (.x 5) (.cons (.x 1) .nil)))) (.x 5) [5]) (.cons (.lst (.cons (.x 3) .nil)) .nil)))) (.cons (.ex (.mut .app 2 (.cons (.tup (.cons (.x 3) (.cons (.x 4) .nil))) .nil))) .nil) .nil) .nil)) .nil)) (.cons (.ret (.x 2)) .nil)))
noncomputable def B__law_moved : Ss := (.cons (.ret (.op .tuple (.cons (.op .sorted (.cons (.op .add (.cons (.lc (.nm 3) (.e (.x 0)) (.e (.op .ne (.cons (.x 3) (.cons (.x 1) .nil)))) (.x 3) [3]) (.cons (.lst (.cons (.x 2) .nil)) .nil))) .nil)) .nil))) .nil)
noncomputable def B__law_reached : Ss := (.cons (.par [2, 3] (.cons (.dsp true (.x 1) (.c (.int 0))) (.cons (.lst (.cons (.x 1) .nil)) .nil))) (.cons (.wh (.e (.op .ne (.cons (.x 3) (.cons (.lst .nil) .nil)))) (.cons (.set (.nm 4) (.lst .nil)) (.cons (.lop (.nm 5) (.e (.x 3)) (.cons (.lop (.tp (.cons (.nm 6) (.cons (.nm 7) .nil))) (.e (.call 265 (.cons (.x 0) (.cons (.x 5) .nil)))) (.cons (.set (.nm 8) (.call 266 (.cons (.x 5) (.cons (.x 6) (.cons (.x 7) .nil))))) (.cons (.ite (.e (.op .notin (.cons (.x 8) (.cons (.x 2) .nil)))) (.cons (.sub 2 (.x 8) (.op .add (.cons (.op .idx (.cons (.x 2) (.cons (.x 5) .nil))) (.cons (.c (.int 1)) .nil)))) (.cons (.ex (.mut .app 4 (.cons (.x 8) .nil))) .nil)) .nil) .nil))) .nil)) (.cons (.set (.nm 3) (.x 4)) .nil)))) (.cons (.ret (.x 2)) .nil)))
noncomputable def B__law_due : Ss := (.cons (.set (.nm 3) (.call 145 (.cons (.x 0) (.cons (.x 2) .nil)))) (.cons (.ite (.e (.op .notin (.cons (.x 1) (.cons (.x 3) .nil)))) (.cons (.ret (.c .none)) .nil) .nil) (.cons (.set (.nm 4) (.dsp true (.x 2) (.tup .nil))) (.cons (.lop (.nm 5) (.e (.op (.sl true false) (.cons (.op (.g 32) (.cons (.x 3) .nil)) (.cons (.c (.int 1)) .nil)))) (.cons (.set (.nm 6) (.lst .nil)) (.cons (.lop (.tp (.cons (.nm 7) (.cons (.nm 8) .nil))) (.e (.call 265 (.cons (.x 0) (.cons (.x 5) .nil)))) (.cons (.set (.nm 9) (.call 266 (.cons (.x 5) (.cons (.x 7) (.cons (.x 8) .nil))))) (.cons (.ite (.e (.op .lt (.cons (.op .idx (.cons (.x 3) (.cons (.x 9) .nil))) (.cons (.op .idx (.cons (.x 3) (.cons (.x 5) .nil))) .nil)))) (.cons (.ex (.mut .app 6 (.cons (.op .add (.cons (.tup (.cons (.tup (.cons (.x 7) (.cons (.x 8) .nil))) .nil)) (.cons (.op .idx (.cons (.x 4) (.cons (.x 9) .nil))) .nil))) .nil))) .nil) .nil) .nil))) (.cons (.sub 4 (.x 5) (.op (.g 11) (.cons (.x 6) .nil))) .nil)))) (.cons (.ret (.op .idx (.cons (.x 4) (.cons (.x 1) .nil)))) .nil)))))
noncomputable def B__law_right : Ss := (.cons (.set (.nm 3) (.op .repr (.cons (.call 152 (.cons (.x 0) (.cons (.x 1) (.cons (.x 2) .nil)))) .nil))) (.cons (.ret (.and2 (.op .eq (.cons (.op .repr (.cons (.call 153 (.cons (.x 0) (.cons (.x 1) (.cons (.x 2) .nil)))) .nil)) (.cons (.x 3) .nil))) (.op .eq (.cons (.op .repr (.cons (.call 153 (.cons (.x 0) (.cons (.x 1) (.cons (.x 2) .nil)))) .nil)) (.cons (.x 3) .nil))))) .nil))
noncomputable def B_law : Ss := (.cons (.lop (.nm 2) (.rng (.cons (.c (.int 6)) .nil)) (.cons (.set (.nm 3) (.call 142 (.cons (.x 1) (.cons (.c (.int 0)) (.cons (.c (.int 8)) .nil))))) (.cons (.set (.nm 4) (.call 148 (.cons (.x 1) (.cons (.x 3) .nil)))) (.cons (.set (.nm 5) (.op .sorted (.cons (.call 145 (.cons (.x 3) (.cons (.x 4) .nil))) .nil))) (.cons (.set (.nm 7) (.op .add (.cons (.lst (.cons (.x 4) (.cons (.call 148 (.cons (.x 1) (.cons (.x 3) .nil))) (.cons (.tup .nil) .nil)))) (.cons (.lc (.nm 6) (.rng (.cons (.c (.int 5)) .nil)) .yes (.call 149 (.cons (.x 1) (.cons (.x 5) .nil))) [6]) .nil)))) (.cons (.ite (.e (.op .ne (.cons (.lc (.nm 8) (.e (.x 7)) (.not (.e (.call 154 (.cons (.x 3) (.cons (.x 4) (.cons (.x 8) .nil)))))) (.x 8) [8]) (.cons (.lst .nil) .nil)))) (.cons (.ret (.c (.bool false))) .nil) .nil) .nil)))))) (.cons (.set (.nm 3) (.call 142 (.cons (.x 1) (.cons (.c (.int 12)) (.cons (.c (.int 12)) .nil))))) (.cons (.set (.nm 4) (.op (.sl true false) (.cons (.call 148 (.cons (.x 1) (.cons (.x 3) .nil))) (.cons (.op .neg (.cons (.c (.int 2)) .nil)) .nil)))) (.cons (.set (.nm 5) (.op .sorted (.cons (.call 145 (.cons (.x 3) (.cons (.x 4) .nil))) .nil))) (.cons (.lop (.nm 6) (.rng (.cons (.c (.int 3)) .nil)) (.cons (.ite (.not (.e (.call 154 (.cons (.x 3) (.cons (.x 4) (.cons (.call 149 (.cons (.x 1) (.cons (.x 5) .nil))) .nil)))))) (.cons (.ret (.c (.bool false))) .nil) .nil) .nil)) (.cons (.set (.nm 3) (.tup (.cons (.c (.int 12)) (.cons (.tup (.cons (.tup (.cons (.c (.int 0)) (.cons (.c (.int 11)) .nil))) (.cons (.tup (.cons (.c (.int 2)) (.cons (.c (.int 10)) .nil))) (.cons (.tup (.cons (.c (.int 8)) (.cons (.c (.int 9)) .nil))) .nil)))) .nil)))) (.cons (.ret (.op .eq (.cons (.call 153 (.cons (.x 3) (.cons (.tup (.cons (.c (.int 9)) (.cons (.c (.int 10)) (.cons (.c (.int 11)) .nil)))) (.cons (.tup (.cons (.c (.int 0)) (.cons (.c (.int 2)) (.cons (.c (.int 8)) .nil)))) .nil)))) (.cons (.tup (.cons (.tup (.cons (.c (.int 9)) (.cons (.c (.int 8)) .nil))) (.cons (.tup (.cons (.c (.int 10)) (.cons (.c (.int 2)) .nil))) (.cons (.tup (.cons (.c (.int 11)) (.cons (.c (.int 0)) .nil))) .nil)))) .nil)))) .nil)))))))
section
variable {P : Program} {w : World} {K : PySem.W.Frag} {mg : Str → Option Value} {base : Heap} {xc : XC} {C : Nat → Addr} {CB : Addr} {cl : Nat → List PV.Arg → DS → FRes} {k : Nat}
theorem w_neighbours_of (z_tuple : mg "tuple" = none) : WalkB P w K mg base N_neighbours_of "neighbours_of" st_neighbours_of xc cl k B_neighbours_of := fun f cdv A outer s H E b =>
  (ds_cons (s_setLc b 2 [("a", 3), ("b", 4)] (di_e (d_ix b (d_v 0) de_int)) (fun b' => (g_tp b' (dgs_cons (g_nm b' 3) (dgs_cons (g_nm b' 4) dgs_nil)))) (fun b' => (dts_one (t_eq b' (d_v 4) (d_v 1)))) (fun b' => (d_v 3)))
  (ds_cons (ds_ret (d_tuple b z_tuple (da_cons (d_add (d_v 2) (d_lc b [("a", 3), ("b", 4)] (di_e (d_ix b (d_v 0) de_int)) (fun b' => (g_tp b' (dgs_cons (g_nm b' 3) (dgs_cons (g_nm b' 4) dgs_nil)))) (fun b' => (dts_one (t_eq b' (d_v 3) (d_v 1)))) (fun b' => (d_v 4)))) da_nil)))
  ds_nil))
theorem w_lamps_beside (h_neighbours_of : FnT P w K mg base xc cl k "neighbours_of" 19 2) : WalkB P w K mg base N_lamps_beside "lamps_beside" st_lamps_beside xc cl k B_lamps_beside := fun f cdv A outer s H E b =>
  (ds_cons (ds_ret (d_lc b [("other", 3)] (di_e (d_call b h_neighbours_of (da_cons (d_v 0) (da_cons (d_v 2) da_nil)))) (fun b' => (g_nm b' 3)) (fun b' => (dts_one (t_in b' (d_v 3) (d_v 1)))) (fun b' => (d_v 3))))
  ds_nil)
theorem w_setting_after (z_sorted : mg "sorted" = none) (z_tuple : mg "tuple" = none) : WalkB P w K mg base N_setting_after "setting_after" st_setting_after xc cl k B_setting_after := fun f cdv A outer s H E b =>
  (ds_cons (ds_ret (d_tuple b z_tuple (da_cons (d_sorted b z_sorted (da_cons (d_lc b [("lamp", 3)] (di_e (d_v 0)) (fun b' => (g_nm b' 3)) (fun b' => dts_nil) (fun b' => (de_ite (t_eq b' (d_v 3) (d_v 1)) (d_v 2) (d_v 3)))) da_nil)) da_nil)))
  ds_nil)
theorem w_possible_slides (z_tuple : mg "tuple" = none) (h_lamps_beside : FnT P w K mg base xc cl k "lamps_beside" 31 3) (h_neighbours_of : FnT P w K mg base xc cl k "neighbours_of" 19 2) : WalkB P w K mg base N_possible_slides "possible_slides" st_possible_slides xc cl k B_possible_slides := fun f cdv A outer s H E b =>
  (ds_cons (s_set b 2 (de_lst da_nil))
  (ds_cons (s_for b (di_e (d_v 1)) (g_nm b 3) (ds_cons (s_for b (di_e (d_call b h_neighbours_of (da_cons (d_v 0) (da_cons (d_v 3) da_nil)))) (g_nm b 4) (ds_cons (ds_if (t_eq b (d_call b h_lamps_beside (da_cons (d_v 0) (da_cons (d_v 1) (da_cons (d_v 4) da_nil)))) (de_lst (da_cons (d_v 3) da_nil))) (ds_cons (s_app b 2 (de_tup (da_cons (d_v 3) (da_cons (d_v 4) da_nil))))
  ds_nil) ds_nil)
  ds_nil))
  ds_nil))
  (ds_cons (ds_ret (d_tuple b z_tuple (da_cons (d_v 2) da_nil)))
  ds_nil)))
theorem w_steps_from (h_possible_slides : FnT P w K mg base xc cl k "possible_slides" 33 2) (h_setting_after : FnT P w K mg base xc cl k "setting_after" 151 3) : WalkB P w K mg base N_steps_from "steps_from" st_steps_from xc cl k B_steps_from := fun f cdv A outer s H E b =>
  (ds_cons (s_set b 2 (d_dspT b (d_v 1) de_int))
  (ds_cons (s_set b 3 (de_lst (da_cons (d_v 1) da_nil)))
  (ds_cons (s_while b (t_ne b (d_v 3) (de_lst da_nil)) (ds_cons (s_set b 4 (de_lst da_nil))
  (ds_cons (s_for b (di_e (d_v 3)) (g_nm b 5) (ds_cons (s_for b (di_e (d_call b h_possible_slides (da_cons (d_v 0) (da_cons (d_v 5) da_nil)))) (g_tp b (dgs_cons (g_nm b 6) (dgs_cons (g_nm b 7) dgs_nil))) (ds_cons (s_set b 8 (d_call b h_setting_after (da_cons (d_v 5) (da_cons (d_v 6) (da_cons (d_v 7) da_nil)))))
  (ds_cons (ds_if (t_notin b (d_v 8) (d_v 2)) (ds_cons (s_sub b 2 (d_v 8) (d_add (d_ix b (d_v 2) (d_v 5)) de_int))
  (ds_cons (s_app b 4 (d_v 8))
  ds_nil)) ds_nil)
  ds_nil)))
  ds_nil))
  (ds_cons (s_set b 3 (d_v 4))
  ds_nil))))
  (ds_cons (ds_ret (d_v 2))
  ds_nil))))
theorem w_shortest_plan (z_tuple : mg "tuple" = none) (h_possible_slides : FnT P w K mg base xc cl k "possible_slides" 33 2) (h_setting_after : FnT P w K mg base xc cl k "setting_after" 151 3) (h_steps_from : FnT P w K mg base xc cl k "steps_from" 138 2) : WalkB P w K mg base N_shortest_plan "shortest_plan" st_shortest_plan xc cl k B_shortest_plan := fun f cdv A outer s H E b =>
  (ds_cons (s_set b 3 (d_call b h_steps_from (da_cons (d_v 0) (da_cons (d_v 2) da_nil))))
  (ds_cons (ds_if (t_notin b (d_v 1) (d_v 3)) (ds_cons (ds_ret de_non)
  ds_nil) ds_nil)
  (ds_cons (s_set b 4 (de_lst da_nil))
  (ds_cons (s_set b 5 (d_v 1))
  (ds_cons (s_while b (t_ne b (d_v 5) (d_v 2)) (ds_cons (s_set b 6 (d_call b h_possible_slides (da_cons (d_v 0) (da_cons (d_v 5) da_nil))))
  (ds_cons (ds_unp (g_tp b (dgs_cons (g_nm b 7) (dgs_cons (g_nm b 8) dgs_nil))) (d_ix b (d_lc b [("u", 7), ("v", 8)] (di_e (d_v 6)) (fun b' => (g_tp b' (dgs_cons (g_nm b' 7) (dgs_cons (g_nm b' 8) dgs_nil)))) (fun b' => (dts_one (t_lt b' (d_ix b' (d_v 3) (d_call b' h_setting_after (da_cons (d_v 5) (da_cons (d_v 7) (da_cons (d_v 8) da_nil))))) (d_ix b' (d_v 3) (d_v 5))))) (fun b' => (de_tup (da_cons (d_v 7) (da_cons (d_v 8) da_nil))))) de_int))
  (ds_cons (s_app b 4 (de_tup (da_cons (d_v 7) (da_cons (d_v 8) da_nil))))
  (ds_cons (s_set b 5 (d_call b h_setting_after (da_cons (d_v 5) (da_cons (d_v 7) (da_cons (d_v 8) da_nil)))))
  ds_nil)))))
  (ds_cons (ds_ret (d_tuple b z_tuple (da_cons (d_v 4) da_nil)))
  ds_nil))))))
theorem w__law_one (z_len : mg "len" = none) (h__law_next : FnT P w K mg base xc cl k "_law_next" 139 2) : WalkB P w K mg base N__law_one "_law_one" st__law_one xc cl k B__law_one := fun f cdv A outer s H E b =>
  (ds_cons (ds_ret (d_ix b (d_v 1) (d_call b h__law_next (da_cons (d_v 0) (da_cons (d_len b z_len (da_cons (d_v 1) da_nil)) da_nil)))))
  ds_nil)
theorem w__law_shuffled (z_len : mg "len" = none) (z_list : mg "list" = none) (h__law_next : FnT P w K mg base xc cl k "_law_next" 139 2) : WalkB P w K mg base N__law_shuffled "_law_shuffled" st__law_shuffled xc cl k B__law_shuffled := fun f cdv A outer s H E b =>
  (ds_cons (s_par b 2 3 (da_cons (d_list b z_list (da_cons (d_v 1) da_nil)) (da_cons (de_lst da_nil) da_nil)))
  (ds_cons (s_while b (t_ne b (d_v 2) (de_lst da_nil)) (ds_cons (s_app b 3 (d_popAt b 2 (d_call b h__law_next (da_cons (d_v 0) (da_cons (d_len b z_len (da_cons (d_v 2) da_nil)) da_nil)))))
  ds_nil))
  (ds_cons (ds_ret (d_v 3))
  ds_nil)))
theorem w__law_forest (z_list : mg "list" = none) (z_max : mg "max" = none) (z_min : mg "min" = none) (z_range : mg "range" = none) (z_sorted : mg "sorted" = none) (z_tuple : mg "tuple" = none) (h__law_next : FnT P w K mg base xc cl k "_law_next" 139 2) (h__law_shuffled : FnT P w K mg base xc cl k "_law_shuffled" 140 2) : WalkB P w K mg base N__law_forest "_law_forest" st__law_forest xc cl k B__law_forest := fun f cdv A outer s H E b =>
  (ds_cons (s_set b 3 (d_add (d_v 1) (d_call b h__law_next (da_cons (d_v 0) (da_cons (d_add (d_sub (d_v 2) (d_v 1)) de_int) da_nil)))))
  (ds_cons (s_par b 5 6 (da_cons (d_call b h__law_shuffled (da_cons (d_v 0) (da_cons (d_lrng b z_list z_range (d_v 3)) da_nil))) (da_cons (de_lst da_nil) da_nil)))
  (ds_cons (s_par b 7 8 (da_cons (d_call b h__law_next (da_cons (d_v 0) (da_cons de_int da_nil))) (da_cons (d_ix b (de_lst (da_cons de_int (da_cons de_int (da_cons de_int da_nil)))) (d_call b h__law_next (da_cons (d_v 0) (da_cons de_int da_nil)))) da_nil)))
  (ds_cons (s_for b (i_rng2 b z_range de_int (d_v 3)) (g_nm b 4) (ds_cons (s_set b 9 (d_ix b (d_v 5) (d_ix b (de_lst (da_cons (d_sub (d_v 4) de_int) (da_cons de_int (da_cons (d_call b h__law_next (da_cons (d_v 0) (da_cons (d_v 4) da_nil))) (da_cons (d_max2 b z_max (da_cons de_int (da_cons (d_sub (d_sub (d_v 4) de_int) (d_call b h__law_next (da_cons (d_v 0) (da_cons de_int da_nil)))) da_nil))) da_nil))))) (d_v 7))))
  (ds_cons (ds_if (dt_pw (dw_or (t_eq b (d_v 8) de_int) (dw_or1 (t_gt b (d_call b h__law_next (da_cons (d_v 0) (da_cons (d_v 8) da_nil))) de_int)))) (ds_cons (s_app b 6 (de_tup (da_cons (d_min2 b z_min (da_cons (d_v 9) (da_cons (d_ix b (d_v 5) (d_v 4)) da_nil))) (da_cons (d_max2 b z_max (da_cons (d_v 9) (da_cons (d_ix b (d_v 5) (d_v 4)) da_nil))) da_nil))))
  ds_nil) ds_nil)
  ds_nil)))
  (ds_cons (ds_ret (de_tup (da_cons (d_v 3) (da_cons (d_tuple b z_tuple (da_cons (d_sorted b z_sorted (da_cons (d_v 6) da_nil)) da_nil)) da_nil))))
  ds_nil)))))
theorem w__law_near : WalkB P w K mg base N__law_near "_law_near" st__law_near xc cl k B__law_near := fun f cdv A outer s H E b =>
  (ds_cons (ds_ret (d_lc b [("_law_a", 2), ("_law_b", 3)] (di_e (d_ix b (d_v 0) de_int)) (fun b' => (g_tp b' (dgs_cons (g_nm b' 2) (dgs_cons (g_nm b' 3) dgs_nil)))) (fun b' => (dts_one (t_in b' (d_v 1) (de_tup (da_cons (d_v 2) (da_cons (d_v 3) da_nil)))))) (fun b' => (d_sub (d_add (d_v 2) (d_v 3)) (d_v 1)))))
  ds_nil)
theorem w__law_setting (z_len : mg "len" = none) (z_list : mg "list" = none) (z_range : mg "range" = none) (z_sorted : mg "sorted" = none) (z_tuple : mg "tuple" = none) (h__law_near : FnT P w K mg base xc cl k "_law_near" 45 2) (h__law_next : FnT P w K mg base xc cl k "_law_next" 139 2) (h__law_shuffled : FnT P w K mg base xc cl k "_law_shuffled" 140 2) : WalkB P w K mg base N__law_setting "_law_setting" st__law_setting xc cl k B__law_setting := fun f cdv A outer s H E b =>
  (ds_cons (s_parN b [3, 4] (da_cons (d_ix b (de_lst (da_cons de_int (da_cons de_int (da_cons de_int da_nil)))) (d_call b h__law_next (da_cons (d_v 0) (da_cons de_int da_nil)))) (da_cons (de_lst da_nil) da_nil)) (gs_cons b 3 (gs_cons b 4 gs_nil)))
  (ds_cons (s_for b (di_e (d_call b h__law_shuffled (da_cons (d_v 0) (da_cons (d_lrng b z_list z_range (d_ix b (d_v 1) de_int)) da_nil)))) (g_nm b 2) (ds_cons (s_set b 5 (d_call b h__law_near (da_cons (d_v 1) (da_cons (d_v 2) da_nil))))
  (ds_cons (ds_if (dt_pw (dw_and (t_lt b (d_len b z_len (da_cons (d_v 4) da_nil)) (d_v 3)) (dw_and1 (t_eq b (d_lc b [("_law_lamp", 6)] (di_e (d_v 5)) (fun b' => (g_nm b' 6)) (fun b' => (dts_one (t_in b' (d_v 6) (d_v 4)))) (fun b' => (d_v 6))) (de_lst da_nil))))) (ds_cons (s_app b 4 (d_v 2))
  ds_nil) ds_nil)
  ds_nil)))
  (ds_cons (ds_ret (d_tuple b z_tuple (da_cons (d_sorted b z_sorted (da_cons (d_v 4) da_nil)) da_nil)))
  ds_nil)))
theorem w__law_slides (z_sorted : mg "sorted" = none) (h__law_near : FnT P w K mg base xc cl k "_law_near" 45 2) : WalkB P w K mg base N__law_slides "_law_slides" st__law_slides xc cl k B__law_slides := fun f cdv A outer s H E b =>
  (ds_cons (s_set b 2 (de_lst da_nil))
  (ds_cons (s_for b (di_e (d_v 1)) (g_nm b 3) (ds_cons (s_for b (di_e (d_sorted b z_sorted (da_cons (d_call b h__law_near (da_cons (d_v 0) (da_cons (d_v 3) da_nil))) da_nil))) (g_nm b 4) (ds_cons (ds_if (t_eq b (d_lc b [("_law_lamp", 5)] (di_e (d_call b h__law_near (da_cons (d_v 0) (da_cons (d_v 4) da_nil)))) (fun b' => (g_nm b' 5)) (fun b' => (dts_one (t_in b' (d_v 5) (d_v 1)))) (fun b' => (d_v 5))) (de_lst (da_cons (d_v 3) da_nil))) (ds_cons (s_app b 2 (de_tup (da_cons (d_v 3) (da_cons (d_v 4) da_nil))))
  ds_nil) ds_nil)
  ds_nil))
  ds_nil))
  (ds_cons (ds_ret (d_v 2))
  ds_nil)))
theorem w__law_moved (z_sorted : mg "sorted" = none) (z_tuple : mg "tuple" = none) : WalkB P w K mg base N__law_moved "_law_moved" st__law_moved xc cl k B__law_moved := fun f cdv A outer s H E b =>
  (ds_cons (ds_ret (d_tuple b z_tuple (da_cons (d_sorted b z_sorted (da_cons (d_add (d_lc b [("_law_lamp", 3)] (di_e (d_v 0)) (fun b' => (g_nm b' 3)) (fun b' => (dts_one (t_ne b' (d_v 3) (d_v 1)))) (fun b' => (d_v 3))) (de_lst (da_cons (d_v 2) da_nil))) da_nil)) da_nil)))
  ds_nil)
theorem w__law_reached (h__law_moved : FnT P w K mg base xc cl k "_law_moved" 266 3) (h__law_slides : FnT P w K mg base xc cl k "_law_slides" 265 2) : WalkB P w K mg base N__law_reached "_law_reached" st__law_reached xc cl k B__law_reached := fun f cdv A outer s H E b =>
  (ds_cons (s_par b 2 3 (da_cons (d_dspT b (d_v 1) de_int) (da_cons (de_lst (da_cons (d_v 1) da_nil)) da_nil)))
  (ds_cons (s_while b (t_ne b (d_v 3) (de_lst da_nil)) (ds_cons (s_set b 4 (de_lst da_nil))
  (ds_cons (s_for b (di_e (d_v 3)) (g_nm b 5) (ds_cons (s_for b (di_e (d_call b h__law_slides (da_cons (d_v 0) (da_cons (d_v 5) da_nil)))) (g_tp b (dgs_cons (g_nm b 6) (dgs_cons (g_nm b 7) dgs_nil))) (ds_cons (s_set b 8 (d_call b h__law_moved (da_cons (d_v 5) (da_cons (d_v 6) (da_cons (d_v 7) da_nil)))))
  (ds_cons (ds_if (t_notin b (d_v 8) (d_v 2)) (ds_cons (s_sub b 2 (d_v 8) (d_add (d_ix b (d_v 2) (d_v 5)) de_int))
  (ds_cons (s_app b 4 (d_v 8))
  ds_nil)) ds_nil)
  ds_nil)))
  ds_nil))
  (ds_cons (s_set b 3 (d_v 4))
  ds_nil))))
  (ds_cons (ds_ret (d_v 2))
  ds_nil)))
theorem w__law_due (z_min : mg "min" = none) (z_sorted : mg "sorted" = none) (h__law_moved : FnT P w K mg base xc cl k "_law_moved" 266 3) (h__law_reached : FnT P w K mg base xc cl k "_law_reached" 145 2) (h__law_slides : FnT P w K mg base xc cl k "_law_slides" 265 2) (LT : LamT K mg base "_law_due" (("_law_due" ++ ".<locals>." : Str) ++ "<lambda>")) (hk4 : 4 ≤ k) : WalkC P w K mg base "_law_due" N__law_due "_law_due" st__law_due xc cl k B__law_due := fun f cdv A outer s H E hm hl b => by
  obtain ⟨cdA, tA, DT, TB, hTB⟩ := LT.ex
  have hc := DT.eq hm hl
  exact (ds_cons (s_set b 3 (d_call b h__law_reached (da_cons (d_v 0) (da_cons (d_v 2) da_nil))))
  (ds_cons (ds_if (t_notin b (d_v 1) (d_v 3)) (ds_cons (ds_ret de_non)
  ds_nil) ds_nil)
  (ds_cons (s_set b 4 (d_dspT b (d_v 2) (de_tup da_nil)))
  (ds_cons (s_for b (di_e (de_sl10 (d_sortL b hk4 z_sorted TB hc hTB 3 (by exact ⟨rfl, rfl, rfl, by decide +kernel, rfl, rfl, (fun y hy e => by simp only [List.mem_cons, List.not_mem_nil, or_false] at hy; rcases hy with rfl | rfl <;> first | rfl | (cases e; done)), rfl⟩)) de_int)) (g_nm b 5) (ds_cons (s_set b 6 (de_lst da_nil))
  (ds_cons (s_for b (di_e (d_call b h__law_slides (da_cons (d_v 0) (da_cons (d_v 5) da_nil)))) (g_tp b (dgs_cons (g_nm b 7) (dgs_cons (g_nm b 8) dgs_nil))) (ds_cons (s_set b 9 (d_call b h__law_moved (da_cons (d_v 5) (da_cons (d_v 7) (da_cons (d_v 8) da_nil)))))
  (ds_cons (ds_if (t_lt b (d_ix b (d_v 3) (d_v 9)) (d_ix b (d_v 3) (d_v 5))) (ds_cons (s_app b 6 (d_add (de_tup (da_cons (de_tup (da_cons (d_v 7) (da_cons (d_v 8) da_nil))) da_nil)) (d_ix b (d_v 4) (d_v 9))))
  ds_nil) ds_nil)
  ds_nil)))
  (ds_cons (s_sub b 4 (d_v 5) (d_minA b z_min (da_cons (d_v 6) da_nil)))
  ds_nil))))
  (ds_cons (ds_ret (d_ix b (d_v 4) (d_v 1)))
  ds_nil)))))
theorem w__law_right (z_repr : mg "repr" = none) (h__law_due : FnT P w K mg base xc cl k "_law_due" 152 3) (h_shortest_plan : FnT P w K mg base xc cl k "shortest_plan" 153 3) : WalkB P w K mg base N__law_right "_law_right" st__law_right xc cl k B__law_right := fun f cdv A outer s H E b =>
  (ds_cons (s_set b 3 (d_repr b z_repr (da_cons (d_call b h__law_due (da_cons (d_v 0) (da_cons (d_v 1) (da_cons (d_v 2) da_nil)))) da_nil)))
  (ds_cons (ds_ret (de_and (d_eq b (d_repr b z_repr (da_cons (d_call b h_shortest_plan (da_cons (d_v 0) (da_cons (d_v 1) (da_cons (d_v 2) da_nil)))) da_nil)) (d_v 3)) (de_one (d_eq b (d_repr b z_repr (da_cons (d_call b h_shortest_plan (da_cons (d_v 0) (da_cons (d_v 1) (da_cons (d_v 2) da_nil)))) da_nil)) (d_v 3)))))
  ds_nil))
theorem w__law_draws (z_abs : mg "abs" = none) (z_int : mg "int" = none) (z_len : mg "len" = none) {f : Addr} {cdv : Value} {A : Around} {outer : List PySem.Env} {s : Shared} {H : Hp} {E : XK} : PSs (CxD P w K mg base N__law_draws "_law_draws" st__law_draws f cdv A outer s H E) (defBody st__law_draws) (tDrawsD K) :=
  pss_cons (ps_asg (pe_op op_cat (pe_lc rfl sc__law_draws.nd (pi_list (pe_slice sl_list (pv 0) po_none (po_some pe_int))) (blkOk_by (own := [("_law_cell", 2)]) (by with_unfolding_all rfl)) (fun s H C cx fp => pg_name (i := 2) sc__law_draws.nd rfl (.inl rfl)) (fun s H C cx fp => pts_nil) (fun s H C cx fp => pe_callB call_abs (by rfl) z_abs (by rfl) (pa_cons (pv 2) pa_nil))) (pe_op op_rep (pe_lst (pa_cons pe_int pa_nil)) (pe_callTy call_int1 (by rfl) z_int (by rfl) (pa_cons (pe_cmpR op_eqI (pe_callB call_len (by rfl) z_len (by rfl) (pa_cons (pv 0) pa_nil)) pe_int (nomark _)) pa_nil)))) (pg_name (i := 1) sc__law_draws.nd rfl (by first | exact .inl rfl | exact .inr rfl)))
  (pss_one (ps_ret (pe_lst (pa_cons (pv 1) (pa_cons pe_int (pa_cons (pe_lc rfl sc__law_draws.nd (pi_list (pv 1)) (blkOk_by (own := [("_law_cell", 2)]) (by with_unfolding_all rfl)) (fun s H C cx fp => pg_name (i := 2) sc__law_draws.nd rfl (.inl rfl)) (fun s H C cx fp => pts_nil) (fun s H C cx fp => pe_op op_mul (pv 2) (pe_callTy call_int1 (by rfl) z_int (by rfl) (pa_cons (pe_cmpR op_ge (pv 2) (pe_op op_pow pe_int pe_int) (nomark _)) pa_nil)))) pa_nil))))))
theorem w__law_next (z_len : mg "len" = none) {f : Addr} {cdv : Value} {A : Around} {outer : List PySem.Env} {s : Shared} {H : Hp} {E : XK} : PSs (CxD P w K mg base N__law_next "_law_next" st__law_next f cdv A outer s H E) (defBody st__law_next) (tDrawD K) := by
  unfold tDrawD tDrawR
  exact pss_cons (ps_asg (pv 0) (pg_lst rfl (pgs_cons (pg_name (i := 4) sc__law_next.nd rfl (.inl rfl)) (pgs_cons (pg_name (i := 5) sc__law_next.nd rfl (.inl rfl)) (pgs_cons (pg_name (i := 6) sc__law_next.nd rfl (.inl rfl)) pgs_nil)))))
        (pss_cons (ps_asg (pe_op op_mod (pv 5) (pe_callB call_len (by rfl) z_len (by rfl) (pa_cons (pv 4) pa_nil))) (pg_name (i := 2) sc__law_next.nd rfl (.inl rfl)))
        (pss_cons (ps_asg (pe_op op_add (pv 5) pe_int) (pg_sub (pv 0) pe_int set_list))
        (pss_cons (ps_if (pt_cmpR op_gt (pe_ix ix_list (pv 6) (pv 2) (by intro _ _; rfl)) pe_int (nomark _))
            (pss_cons (ps_asg (pe_op op_mod (pe_ix ix_list (pv 6) (pv 2) (by intro _ _; rfl)) (pv 1)) (pg_name (i := 7) sc__law_next.nd rfl (.inl rfl)))
            (pss_cons (ps_asg (pe_op op_fdiv (pe_ix ix_list (pv 6) (pv 2) (by intro _ _; rfl)) (pv 1)) (pg_sub (pv 6) (pv 2) set_list)) (pss_one (ps_ret (pv 7))))) pss_nil)
        (pss_cons (ps_asg (pe_op op_mod (pe_op op_pow (pe_op op_add (pe_op op_add (pe_op op_mod (pe_ix ix_list (pv 4) (pv 2) (by intro _ _; rfl)) pe_int) (pe_op op_mul pe_int (pv 5))) pe_int) pe_int) pe_int) (pg_name (i := 3) sc__law_next.nd rfl (.inl rfl)))
        (pss_cons (ps_asg (pe_op op_mod (pe_op op_pow (pe_op op_add (pe_op op_add (pv 3) (pe_op op_mul (pe_op op_mul pe_int (pv 5)) (pv 5))) pe_int) pe_int) pe_int) (pg_name (i := 3) sc__law_next.nd rfl (.inl rfl)))
        (pss_one (ps_ret (pe_op op_mod (pe_op op_fdiv (pe_op op_mod (pe_op op_mul (pv 3) pe_int) pe_int) pe_int) (pv 1)))))))))
end
noncomputable def tb : Nat → Option FSem
  | 19 => some (.df ⟨5, 2, B_neighbours_of⟩)
  | 31 => some (.df ⟨4, 3, B_lamps_beside⟩)
  | 151 => some (.df ⟨4, 3, B_setting_after⟩)
  | 33 => some (.df ⟨5, 2, B_possible_slides⟩)
  | 138 => some (.df ⟨9, 2, B_steps_from⟩)
  | 153 => some (.df ⟨9, 3, B_shortest_plan⟩)
  | 149 => some (.df ⟨2, 2, B__law_one⟩)
  | 140 => some (.df ⟨4, 2, B__law_shuffled⟩)
  | 142 => some (.df ⟨10, 3, B__law_forest⟩)
  | 45 => some (.df ⟨4, 2, B__law_near⟩)
  | 148 => some (.df ⟨7, 2, B__law_setting⟩)
  | 265 => some (.df ⟨6, 2, B__law_slides⟩)
  | 266 => some (.df ⟨4, 3, B__law_moved⟩)
  | 145 => some (.df ⟨9, 2, B__law_reached⟩)
  | 152 => some (.df ⟨10, 3, B__law_due⟩)
  | 154 => some (.df ⟨4, 3, B__law_right⟩)
  | 139 => some (.prim drawD)
  | _ => none
section
variable {P : Program} {w : World} {K : PySem.W.Frag} {mg : Str → Option Value} {base : Heap} {xc : XC}
structure Txt (K : PySem.W.Frag) (mg : Str → Option Value) : Prop where
  f_neighbours_of : ∃ fa fd, Fun K "neighbours_of" "neighbours_of" st_neighbours_of fa fd ∧ mg "neighbours_of" = some (.ref fa) ∧ Binds K fd ["forest", "vertex"] []
  f_lamps_beside : ∃ fa fd, Fun K "lamps_beside" "lamps_beside" st_lamps_beside fa fd ∧ mg "lamps_beside" = some (.ref fa) ∧ Binds K fd ["forest", "setting", "vertex"] []
  f_setting_after : ∃ fa fd, Fun K "setting_after" "setting_after" st_setting_after fa fd ∧ mg "setting_after" = some (.ref fa) ∧ Binds K fd ["setting", "u", "v"] []
  f_possible_slides : ∃ fa fd, Fun K "possible_slides" "possible_slides" st_possible_slides fa fd ∧ mg "possible_slides" = some (.ref fa) ∧ Binds K fd ["forest", "setting"] []
  f_steps_from : ∃ fa fd, Fun K "steps_from" "steps_from" st_steps_from fa fd ∧ mg "steps_from" = some (.ref fa) ∧ Binds K fd ["forest", "setting"] []
  f_shortest_plan : ∃ fa fd, Fun K "shortest_plan" "shortest_plan" st_shortest_plan fa fd ∧ mg "shortest_plan" = some (.ref fa) ∧ Binds K fd ["forest", "first", "second"] []
  f__law_one : ∃ fa fd, Fun K "_law_one" "_law_one" st__law_one fa fd ∧ mg "_law_one" = some (.ref fa) ∧ Binds K fd ["_law_state", "_law_items"] []
  f__law_shuffled : ∃ fa fd, Fun K "_law_shuffled" "_law_shuffled" st__law_shuffled fa fd ∧ mg "_law_shuffled" = some (.ref fa) ∧ Binds K fd ["_law_state", "_law_items"] []
  f__law_forest : ∃ fa fd, Fun K "_law_forest" "_law_forest" st__law_forest fa fd ∧ mg "_law_forest" = some (.ref fa) ∧ Binds K fd ["_law_state", "_law_least", "_law_most"] []
  f__law_near : ∃ fa fd, Fun K "_law_near" "_law_near" st__law_near fa fd ∧ mg "_law_near" = some (.ref fa) ∧ Binds K fd ["_law_forest_here", "_law_vertex"] []
  f__law_setting : ∃ fa fd, Fun K "_law_setting" "_law_setting" st__law_setting fa fd ∧ mg "_law_setting" = some (.ref fa) ∧ Binds K fd ["_law_state", "_law_forest_here"] []
  f__law_slides : ∃ fa fd, Fun K "_law_slides" "_law_slides" st__law_slides fa fd ∧ mg "_law_slides" = some (.ref fa) ∧ Binds K fd ["_law_forest_here", "_law_setting_here"] []
  f__law_moved : ∃ fa fd, Fun K "_law_moved" "_law_moved" st__law_moved fa fd ∧ mg "_law_moved" = some (.ref fa) ∧ Binds K fd ["_law_setting_here", "_law_u", "_law_v"] []
  f__law_reached : ∃ fa fd, Fun K "_law_reached" "_law_reached" st__law_reached fa fd ∧ mg "_law_reached" = some (.ref fa) ∧ Binds K fd ["_law_forest_here", "_law_setting_here"] []
  f__law_due : ∃ fa fd, Fun K "_law_due" "_law_due" st__law_due fa fd ∧ mg "_law_due" = some (.ref fa) ∧ Binds K fd ["_law_forest_here", "_law_first", "_law_second"] []
  f__law_right : ∃ fa fd, Fun K "_law_right" "_law_right" st__law_right fa fd ∧ mg "_law_right" = some (.ref fa) ∧ Binds K fd ["_law_forest_here", "_law_first", "_law_second"] []
  f__law_next : ∃ fa fd, Fun K "_law_next" "_law_next" st__law_next fa fd ∧ mg "_law_next" = some (.ref fa) ∧ Binds K fd ["_law_state", "_law_many"] []
  f__law_draws : ∃ fa fd, Fun K "_law_draws" "_law_draws" st__law_draws fa fd ∧ mg "_law_draws" = some (.ref fa) ∧ Binds K fd ["_law_script"] []
  f_law : ∃ fa fd, Fun K "law" "law" st_law fa fd ∧ mg "law" = some (.ref fa) ∧ Binds K fd ["_law_script"] []
  z_abs : mg "abs" = none
  z_int : mg "int" = none
  z_len : mg "len" = none
  z_list : mg "list" = none
  z_max : mg "max" = none
  z_min : mg "min" = none
  z_range : mg "range" = none
  z_repr : mg "repr" = none
  z_sorted : mg "sorted" = none
  z_tuple : mg "tuple" = none
structure Tab (P : Program) (w : World) (K : PySem.W.Frag) (mg : Str → Option Value) (base : Heap) (xc : XC) (k : Nat) : Prop where
  h_neighbours_of : FnT P w K mg base xc (run tb k) (k + 4) "neighbours_of" 19 2
  h_lamps_beside : FnT P w K mg base xc (run tb k) (k + 4) "lamps_beside" 31 3
  h_setting_after : FnT P w K mg base xc (run tb k) (k + 4) "setting_after" 151 3
  h_possible_slides : FnT P w K mg base xc (run tb k) (k + 4) "possible_slides" 33 2
  h_steps_from : FnT P w K mg base xc (run tb k) (k + 4) "steps_from" 138 2
  h_shortest_plan : FnT P w K mg base xc (run tb k) (k + 4) "shortest_plan" 153 3
  h__law_one : FnT P w K mg base xc (run tb k) (k + 4) "_law_one" 149 2
  h__law_shuffled : FnT P w K mg base xc (run tb k) (k + 4) "_law_shuffled" 140 2
  h__law_forest : FnT P w K mg base xc (run tb k) (k + 4) "_law_forest" 142 3
  h__law_near : FnT P w K mg base xc (run tb k) (k + 4) "_law_near" 45 2
  h__law_setting : FnT P w K mg base xc (run tb k) (k + 4) "_law_setting" 148 2
  h__law_slides : FnT P w K mg base xc (run tb k) (k + 4) "_law_slides" 265 2
  h__law_moved : FnT P w K mg base xc (run tb k) (k + 4) "_law_moved" 266 3
  h__law_reached : FnT P w K mg base xc (run tb k) (k + 4) "_law_reached" 145 2
  h__law_due : FnT P w K mg base xc (run tb k) (k + 4) "_law_due" 152 3
  h__law_right : FnT P w K mg base xc (run tb k) (k + 4) "_law_right" 154 3
  h__law_next : FnT P w K mg base xc (run tb k) (k + 4) "_law_next" 139 2
theorem tab (T : Txt K mg) (LT : LamT K mg base "_law_due" (("_law_due" ++ ".<locals>." : Str) ++ "<lambda>")) : ∀ k, Tab P w K mg base xc k
  | 0 => by
    refine ⟨?_, ?_, ?_, ?_, ?_, ?_, ?_, ?_, ?_, ?_, ?_, ?_, ?_, ?_, ?_, ?_, ?_⟩
    · obtain ⟨fa, fd, F, m, b⟩ := T.f_neighbours_of; exact FnT.zeroJ F m b
    · obtain ⟨fa, fd, F, m, b⟩ := T.f_lamps_beside; exact FnT.zeroJ F m b
    · obtain ⟨fa, fd, F, m, b⟩ := T.f_setting_after; exact FnT.zeroJ F m b
    · obtain ⟨fa, fd, F, m, b⟩ := T.f_possible_slides; exact FnT.zeroJ F m b
    · obtain ⟨fa, fd, F, m, b⟩ := T.f_steps_from; exact FnT.zeroJ F m b
    · obtain ⟨fa, fd, F, m, b⟩ := T.f_shortest_plan; exact FnT.zeroJ F m b
    · obtain ⟨fa, fd, F, m, b⟩ := T.f__law_one; exact FnT.zeroJ F m b
    · obtain ⟨fa, fd, F, m, b⟩ := T.f__law_shuffled; exact FnT.zeroJ F m b
    · obtain ⟨fa, fd, F, m, b⟩ := T.f__law_forest; exact FnT.zeroJ F m b
    · obtain ⟨fa, fd, F, m, b⟩ := T.f__law_near; exact FnT.zeroJ F m b
    · obtain ⟨fa, fd, F, m, b⟩ := T.f__law_setting; exact FnT.zeroJ F m b
    · obtain ⟨fa, fd, F, m, b⟩ := T.f__law_slides; exact FnT.zeroJ F m b
    · obtain ⟨fa, fd, F, m, b⟩ := T.f__law_moved; exact FnT.zeroJ F m b
    · obtain ⟨fa, fd, F, m, b⟩ := T.f__law_reached; exact FnT.zeroJ F m b
    · obtain ⟨fa, fd, F, m, b⟩ := T.f__law_due; exact FnT.zeroJ F m b
    · obtain ⟨fa, fd, F, m, b⟩ := T.f__law_right; exact FnT.zeroJ F m b
    · obtain ⟨fa, fd, F, m, b⟩ := T.f__law_next; exact FnT.zeroJ F m b
  | k + 1 => by
    have I := tab T LT k
    refine ⟨?_, ?_, ?_, ?_, ?_, ?_, ?_, ?_, ?_, ?_, ?_, ?_, ?_, ?_, ?_, ?_, ?_⟩
    · obtain ⟨fa, fd, F, m, b⟩ := T.f_neighbours_of; exact FnT.walkJ F m b sc_neighbours_of rfl (w_neighbours_of T.z_tuple)
    · obtain ⟨fa, fd, F, m, b⟩ := T.f_lamps_beside; exact FnT.walkJ F m b sc_lamps_beside rfl (w_lamps_beside I.h_neighbours_of)
    · obtain ⟨fa, fd, F, m, b⟩ := T.f_setting_after; exact FnT.walkJ F m b sc_setting_after rfl (w_setting_after T.z_sorted T.z_tuple)
    · obtain ⟨fa, fd, F, m, b⟩ := T.f_possible_slides; exact FnT.walkJ F m b sc_possible_slides rfl (w_possible_slides T.z_tuple I.h_lamps_beside I.h_neighbours_of)
    · obtain ⟨fa, fd, F, m, b⟩ := T.f_steps_from; exact FnT.walkJ F m b sc_steps_from rfl (w_steps_from I.h_possible_slides I.h_setting_after)
    · obtain ⟨fa, fd, F, m, b⟩ := T.f_shortest_plan; exact FnT.walkJ F m b sc_shortest_plan rfl (w_shortest_plan T.z_tuple I.h_possible_slides I.h_setting_after I.h_steps_from)
    · obtain ⟨fa, fd, F, m, b⟩ := T.f__law_one; exact FnT.walkJ F m b sc__law_one rfl (w__law_one T.z_len I.h__law_next)
    · obtain ⟨fa, fd, F, m, b⟩ := T.f__law_shuffled; exact FnT.walkJ F m b sc__law_shuffled rfl (w__law_shuffled T.z_len T.z_list I.h__law_next)
    · obtain ⟨fa, fd, F, m, b⟩ := T.f__law_forest; exact FnT.walkJ F m b sc__law_forest rfl (w__law_forest T.z_list T.z_max T.z_min T.z_range T.z_sorted T.z_tuple I.h__law_next I.h__law_shuffled)
    · obtain ⟨fa, fd, F, m, b⟩ := T.f__law_near; exact FnT.walkJ F m b sc__law_near rfl (w__law_near )
    · obtain ⟨fa, fd, F, m, b⟩ := T.f__law_setting; exact FnT.walkJ F m b sc__law_setting rfl (w__law_setting T.z_len T.z_list T.z_range T.z_sorted T.z_tuple I.h__law_near I.h__law_next I.h__law_shuffled)
    · obtain ⟨fa, fd, F, m, b⟩ := T.f__law_slides; exact FnT.walkJ F m b sc__law_slides rfl (w__law_slides T.z_sorted I.h__law_near)
    · obtain ⟨fa, fd, F, m, b⟩ := T.f__law_moved; exact FnT.walkJ F m b sc__law_moved rfl (w__law_moved T.z_sorted T.z_tuple)
    · obtain ⟨fa, fd, F, m, b⟩ := T.f__law_reached; exact FnT.walkJ F m b sc__law_reached rfl (w__law_reached I.h__law_moved I.h__law_slides)
    · obtain ⟨fa, fd, F, m, b⟩ := T.f__law_due; exact FnT.walkC F m b sc__law_due rfl (w__law_due T.z_min T.z_sorted I.h__law_moved I.h__law_reached I.h__law_slides LT (by omega))
    · obtain ⟨fa, fd, F, m, b⟩ := T.f__law_right; exact FnT.walkJ F m b sc__law_right rfl (w__law_right T.z_repr I.h__law_due I.h_shortest_plan)
    · obtain ⟨fa, fd, F, m, b⟩ := T.f__law_next; exact FnT.more (FnT.prim F m b sc__law_next rfl rfl (fun _ _ h => drawR_len h) fun cdv A outer s H E bd => ⟨_, w__law_next T.z_len, fun vs Q h => drawD_body rfl h⟩) (by omega)
noncomputable def LawOk (ns : List Int) : Prop := ∃ m, exs (run tb 9) B_law ⟨(List.replicate 9 Slot.un).set 1 (.dk 0), stR cellsD ns⟩ = .ok (.rt (.v (.bool true))) m
theorem ok_deck (T : Txt K mg) : ∃ fa fd, FnG P w K mg base (L2.CX P w) 1 fa fd ["_law_script"] (spDraws K cellsD) ∧ mg "_law_draws" = some (.ref fa) ∧ PySem.W.keepIn K (.ref fa) = true ∧ Binds K fd ["_law_script"] [] := by
  obtain ⟨fa, fd, F, m, b⟩ := T.f__law_draws
  exact ⟨fa, fd, FnG.walk F sc__law_draws (fun vs H Q E ⟨a, ns, e, _⟩ => by rw [e]; rfl) fun cdv A outer s H E bd => ⟨_, w__law_draws T.z_abs T.z_int T.z_len, fun vs Q h => drawsD_body rfl h⟩, m, F.kp, b⟩
theorem w_law (z_range : mg "range" = none) (z_sorted : mg "sorted" = none) (h__law_forest : FnT P w K mg base xc (run tb 9) 13 "_law_forest" 142 3) (h__law_one : FnT P w K mg base xc (run tb 9) 13 "_law_one" 149 2) (h__law_reached : FnT P w K mg base xc (run tb 9) 13 "_law_reached" 145 2) (h__law_right : FnT P w K mg base xc (run tb 9) 13 "_law_right" 154 3) (h__law_setting : FnT P w K mg base xc (run tb 9) 13 "_law_setting" 148 2) (h_shortest_plan : FnT P w K mg base xc (run tb 9) 13 "shortest_plan" 153 3) {f : Addr} {cdv : Value} {A : Around} {outer : List PySem.Env} {s : Shared} {H : Hp} {E : XK} (b : Bd (CxD P w K mg base N_law "law" st_law f cdv A outer s H E) (fun c d _ H => E c d H) 13) : DSs (CxD P w K mg base N_law "law" st_law f cdv A outer s H E) xc (fun c d _ H => E c d H) (run tb 9) (defBody st_law).tail B_law :=
  (ds_cons (s_for b (i_rng1 b z_range de_int) (g_nm b 2) (ds_cons (s_set b 3 (d_call b h__law_forest (da_cons (d_v 1) (da_cons de_int (da_cons de_int da_nil)))))
  (ds_cons (s_set b 4 (d_call b h__law_setting (da_cons (d_v 1) (da_cons (d_v 3) da_nil))))
  (ds_cons (s_set b 5 (d_sorted b z_sorted (da_cons (d_call b h__law_reached (da_cons (d_v 3) (da_cons (d_v 4) da_nil))) da_nil)))
  (ds_cons (s_set b 7 (d_add (de_lst (da_cons (d_v 4) (da_cons (d_call b h__law_setting (da_cons (d_v 1) (da_cons (d_v 3) da_nil))) (da_cons (de_tup da_nil) da_nil)))) (d_lc b [("_law_k", 6)] (i_rng1 b z_range de_int) (fun b' => (g_nm b' 6)) (fun b' => dts_nil) (fun b' => (d_call b' h__law_one (da_cons (d_v 1) (da_cons (d_v 5) da_nil)))))))
  (ds_cons (ds_if (t_ne b (d_lc b [("_law_second", 8)] (di_e (d_v 7)) (fun b' => (g_nm b' 8)) (fun b' => (dts_one (dt_not (dt_tru (d_call b' h__law_right (da_cons (d_v 3) (da_cons (d_v 4) (da_cons (d_v 8) da_nil)))))))) (fun b' => (d_v 8))) (de_lst da_nil)) (ds_cons (ds_ret de_bl)
  ds_nil) ds_nil)
  ds_nil))))))
  (ds_cons (s_set b 3 (d_call b h__law_forest (da_cons (d_v 1) (da_cons de_int (da_cons de_int da_nil)))))
  (ds_cons (s_set b 4 (de_sl10 (d_call b h__law_setting (da_cons (d_v 1) (da_cons (d_v 3) da_nil))) (de_neg de_int)))
  (ds_cons (s_set b 5 (d_sorted b z_sorted (da_cons (d_call b h__law_reached (da_cons (d_v 3) (da_cons (d_v 4) da_nil))) da_nil)))
  (ds_cons (s_for b (i_rng1 b z_range de_int) (g_nm b 6) (ds_cons (ds_if (dt_not (dt_tru (d_call b h__law_right (da_cons (d_v 3) (da_cons (d_v 4) (da_cons (d_call b h__law_one (da_cons (d_v 1) (da_cons (d_v 5) da_nil))) da_nil)))))) (ds_cons (ds_ret de_bl)
  ds_nil) ds_nil)
  ds_nil))
  (ds_cons (s_set b 3 (de_tup (da_cons de_int (da_cons (de_tup (da_cons (de_tup (da_cons de_int (da_cons de_int da_nil))) (da_cons (de_tup (da_cons de_int (da_cons de_int da_nil))) (da_cons (de_tup (da_cons de_int (da_cons de_int da_nil))) da_nil)))) da_nil))))
  (ds_cons (ds_ret (d_eq b (d_call b h_shortest_plan (da_cons (d_v 3) (da_cons (de_tup (da_cons de_int (da_cons de_int (da_cons de_int da_nil)))) (da_cons (de_tup (da_cons de_int (da_cons de_int (da_cons de_int da_nil)))) da_nil)))) (de_tup (da_cons (de_tup (da_cons de_int (da_cons de_int da_nil))) (da_cons (de_tup (da_cons de_int (da_cons de_int da_nil))) (da_cons (de_tup (da_cons de_int (da_cons de_int da_nil))) da_nil))))))
  ds_nil)))))))
theorem ok_law (T : Txt K mg) (LT : LamT K mg base "_law_due" (("_law_due" ++ ".<locals>." : Str) ++ "<lambda>")) {fa : Addr} {fd : FuncData} (F : Fun K "law" "law" st_law fa fd) : FnG P w K mg base (L2.CX P w) 14 fa fd ["_law_script"] (spLaw K LawOk) := by
  obtain ⟨fd1, fx1, G, hm, hk, hb⟩ := ok_deck (P := P) (w := w) (base := base) T
  have I := tab (P := P) (w := w) (base := base) (xc := fun _ => none) T LT 9
  refine FnG.walk F sc_law (fun vs H Q E ⟨a, ns, e, _⟩ => by rw [e]; rfl) fun cdv A outer s H E b => ⟨_, pss_cons (ps_set (i := 1) sc_law.nd rfl (by first | exact Or.inl rfl | exact Or.inr rfl) (pe_callG (E := fun σ c d H => E c d H) G b.ok.gd (b.room.mono (by decide)) (by rfl) hm hk hb (fun σ => L2.passAt b.takes σ) (pa_cons (pv 0) pa_nil))) (w_law T.z_range T.z_sorted I.h__law_forest I.h__law_one I.h__law_reached I.h__law_right I.h__law_setting I.h_shortest_plan b), fun vs Q h => ?_⟩
  exact law_bodyR (N := N_law) (by decide) (by decide) h
end
theorem all_mk {P : Program} {w : World} {K : PySem.W.Frag} {h : Heap} {mg : Str → Option Value} {fa : Addr} {f0 : Addr} {f1 : Addr} {f2 : Addr} {f3 : Addr} {f4 : Addr} {f5 : Addr} {f6 : Addr} {f7 : Addr} {f8 : Addr} {f9 : Addr} {f10 : Addr} {f11 : Addr} {f12 : Addr} {f13 : Addr} {f14 : Addr} {f15 : Addr} {f16 : Addr} {f17 : Addr} {f18 : Addr} (X : K.In h) (G : h.Ns mainGlobals mg) (hfa : mg "law" = some (.ref fa))
    {od0 an0 : Option Addr} {sl0 : Array (Option Value)} {oc0 kV0 dc0 pm0 cd0 ct0 : Value}
    {od1 an1 : Option Addr} {sl1 : Array (Option Value)} {oc1 kV1 dc1 pm1 cd1 ct1 : Value}
    {od2 an2 : Option Addr} {sl2 : Array (Option Value)} {oc2 kV2 dc2 pm2 cd2 ct2 : Value}
    {od3 an3 : Option Addr} {sl3 : Array (Option Value)} {oc3 kV3 dc3 pm3 cd3 ct3 : Value}
    {od4 an4 : Option Addr} {sl4 : Array (Option Value)} {oc4 kV4 dc4 pm4 cd4 ct4 : Value}
    {od5 an5 : Option Addr} {sl5 : Array (Option Value)} {oc5 kV5 dc5 pm5 cd5 ct5 : Value}
    {od6 an6 : Option Addr} {sl6 : Array (Option Value)} {oc6 kV6 dc6 pm6 cd6 ct6 : Value}
    {od7 an7 : Option Addr} {sl7 : Array (Option Value)} {oc7 kV7 dc7 pm7 cd7 ct7 : Value}
    {od8 an8 : Option Addr} {sl8 : Array (Option Value)} {oc8 kV8 dc8 pm8 cd8 ct8 : Value}
    {od9 an9 : Option Addr} {sl9 : Array (Option Value)} {oc9 kV9 dc9 pm9 cd9 ct9 : Value}
    {od10 an10 : Option Addr} {sl10 : Array (Option Value)} {oc10 kV10 dc10 pm10 cd10 ct10 : Value}
    {od11 an11 : Option Addr} {sl11 : Array (Option Value)} {oc11 kV11 dc11 pm11 cd11 ct11 : Value}
    {od12 an12 : Option Addr} {sl12 : Array (Option Value)} {oc12 kV12 dc12 pm12 cd12 ct12 : Value}
    {od13 an13 : Option Addr} {sl13 : Array (Option Value)} {oc13 kV13 dc13 pm13 cd13 ct13 : Value}
    {od14 an14 : Option Addr} {sl14 : Array (Option Value)} {oc14 kV14 dc14 pm14 cd14 ct14 : Value}
    {od15 an15 : Option Addr} {sl15 : Array (Option Value)} {oc15 kV15 dc15 pm15 cd15 ct15 : Value}
    {od16 an16 : Option Addr} {sl16 : Array (Option Value)} {oc16 kV16 dc16 pm16 cd16 ct16 : Value}
    {od17 an17 : Option Addr} {sl17 : Array (Option Value)} {oc17 kV17 dc17 pm17 cd17 ct17 : Value}
    {od18 an18 : Option Addr} {sl18 : Array (Option Value)} {oc18 kV18 dc18 pm18 cd18 ct18 : Value}
    (a0 : PySem.W.nsIn K mainGlobals "neighbours_of" = some (some (.ref f0))) (l0 : K.lookup f0 = some ⟨oc0, od0, .func (PySem.W.fnOf "neighbours_of" "neighbours_of" (defArgs st_neighbours_of) (defBody st_neighbours_of) (defScope st_neighbours_of) .none kV0 dc0 pm0 an0 cd0 ct0), sl0⟩) (c0 : PySem.W.codeIn K cd0 "neighbours_of" = true) (k0 : PySem.W.keepIn K (.ref f0) = true)
    (a1 : PySem.W.nsIn K mainGlobals "lamps_beside" = some (some (.ref f1))) (l1 : K.lookup f1 = some ⟨oc1, od1, .func (PySem.W.fnOf "lamps_beside" "lamps_beside" (defArgs st_lamps_beside) (defBody st_lamps_beside) (defScope st_lamps_beside) .none kV1 dc1 pm1 an1 cd1 ct1), sl1⟩) (c1 : PySem.W.codeIn K cd1 "lamps_beside" = true) (k1 : PySem.W.keepIn K (.ref f1) = true)
    (a2 : PySem.W.nsIn K mainGlobals "setting_after" = some (some (.ref f2))) (l2 : K.lookup f2 = some ⟨oc2, od2, .func (PySem.W.fnOf "setting_after" "setting_after" (defArgs st_setting_after) (defBody st_setting_after) (defScope st_setting_after) .none kV2 dc2 pm2 an2 cd2 ct2), sl2⟩) (c2 : PySem.W.codeIn K cd2 "setting_after" = true) (k2 : PySem.W.keepIn K (.ref f2) = true)
    (a3 : PySem.W.nsIn K mainGlobals "possible_slides" = some (some (.ref f3))) (l3 : K.lookup f3 = some ⟨oc3, od3, .func (PySem.W.fnOf "possible_slides" "possible_slides" (defArgs st_possible_slides) (defBody st_possible_slides) (defScope st_possible_slides) .none kV3 dc3 pm3 an3 cd3 ct3), sl3⟩) (c3 : PySem.W.codeIn K cd3 "possible_slides" = true) (k3 : PySem.W.keepIn K (.ref f3) = true)
    (a4 : PySem.W.nsIn K mainGlobals "steps_from" = some (some (.ref f4))) (l4 : K.lookup f4 = some ⟨oc4, od4, .func (PySem.W.fnOf "steps_from" "steps_from" (defArgs st_steps_from) (defBody st_steps_from) (defScope st_steps_from) .none kV4 dc4 pm4 an4 cd4 ct4), sl4⟩) (c4 : PySem.W.codeIn K cd4 "steps_from" = true) (k4 : PySem.W.keepIn K (.ref f4) = true)
    (a5 : PySem.W.nsIn K mainGlobals "shortest_plan" = some (some (.ref f5))) (l5 : K.lookup f5 = some ⟨oc5, od5, .func (PySem.W.fnOf "shortest_plan" "shortest_plan" (defArgs st_shortest_plan) (defBody st_shortest_plan) (defScope st_shortest_plan) .none kV5 dc5 pm5 an5 cd5 ct5), sl5⟩) (c5 : PySem.W.codeIn K cd5 "shortest_plan" = true) (k5 : PySem.W.keepIn K (.ref f5) = true)
    (a6 : PySem.W.nsIn K mainGlobals "_law_one" = some (some (.ref f6))) (l6 : K.lookup f6 = some ⟨oc6, od6, .func (PySem.W.fnOf "_law_one" "_law_one" (defArgs st__law_one) (defBody st__law_one) (defScope st__law_one) .none kV6 dc6 pm6 an6 cd6 ct6), sl6⟩) (c6 : PySem.W.codeIn K cd6 "_law_one" = true) (k6 : PySem.W.keepIn K (.ref f6) = true)
    (a7 : PySem.W.nsIn K mainGlobals "_law_shuffled" = some (some (.ref f7))) (l7 : K.lookup f7 = some ⟨oc7, od7, .func (PySem.W.fnOf "_law_shuffled" "_law_shuffled" (defArgs st__law_shuffled) (defBody st__law_shuffled) (defScope st__law_shuffled) .none kV7 dc7 pm7 an7 cd7 ct7), sl7⟩) (c7 : PySem.W.codeIn K cd7 "_law_shuffled" = true) (k7 : PySem.W.keepIn K (.ref f7) = true)
    (a8 : PySem.W.nsIn K mainGlobals "_law_forest" = some (some (.ref f8))) (l8 : K.lookup f8 = some ⟨oc8, od8, .func (PySem.W.fnOf "_law_forest" "_law_forest" (defArgs st__law_forest) (defBody st__law_forest) (defScope st__law_forest) .none kV8 dc8 pm8 an8 cd8 ct8), sl8⟩) (c8 : PySem.W.codeIn K cd8 "_law_forest" = true) (k8 : PySem.W.keepIn K (.ref f8) = true)
    (a9 : PySem.W.nsIn K mainGlobals "_law_near" = some (some (.ref f9))) (l9 : K.lookup f9 = some ⟨oc9, od9, .func (PySem.W.fnOf "_law_near" "_law_near" (defArgs st__law_near) (defBody st__law_near) (defScope st__law_near) .none kV9 dc9 pm9 an9 cd9 ct9), sl9⟩) (c9 : PySem.W.codeIn K cd9 "_law_near" = true) (k9 : PySem.W.keepIn K (.ref f9) = true)
    (a10 : PySem.W.nsIn K mainGlobals "_law_setting" = some (some (.ref f10))) (l10 : K.lookup f10 = some ⟨oc10, od10, .func (PySem.W.fnOf "_law_setting" "_law_setting" (defArgs st__law_setting) (defBody st__law_setting) (defScope st__law_setting) .none kV10 dc10 pm10 an10 cd10 ct10), sl10⟩) (c10 : PySem.W.codeIn K cd10 "_law_setting" = true) (k10 : PySem.W.keepIn K (.ref f10) = true)
    (a11 : PySem.W.nsIn K mainGlobals "_law_slides" = some (some (.ref f11))) (l11 : K.lookup f11 = some ⟨oc11, od11, .func (PySem.W.fnOf "_law_slides" "_law_slides" (defArgs st__law_slides) (defBody st__law_slides) (defScope st__law_slides) .none kV11 dc11 pm11 an11 cd11 ct11), sl11⟩) (c11 : PySem.W.codeIn K cd11 "_law_slides" = true) (k11 : PySem.W.keepIn K (.ref f11) = true)
    (a12 : PySem.W.nsIn K mainGlobals "_law_moved" = some (some (.ref f12))) (l12 : K.lookup f12 = some ⟨oc12, od12, .func (PySem.W.fnOf "_law_moved" "_law_moved" (defArgs st__law_moved) (defBody st__law_moved) (defScope st__law_moved) .none kV12 dc12 pm12 an12 cd12 ct12), sl12⟩) (c12 : PySem.W.codeIn K cd12 "_law_moved" = true) (k12 : PySem.W.keepIn K (.ref f12) = true)
    (a13 : PySem.W.nsIn K mainGlobals "_law_reached" = some (some (.ref f13))) (l13 : K.lookup f13 = some ⟨oc13, od13, .func (PySem.W.fnOf "_law_reached" "_law_reached" (defArgs st__law_reached) (defBody st__law_reached) (defScope st__law_reached) .none kV13 dc13 pm13 an13 cd13 ct13), sl13⟩) (c13 : PySem.W.codeIn K cd13 "_law_reached" = true) (k13 : PySem.W.keepIn K (.ref f13) = true)
    (a14 : PySem.W.nsIn K mainGlobals "_law_due" = some (some (.ref f14))) (l14 : K.lookup f14 = some ⟨oc14, od14, .func (PySem.W.fnOf "_law_due" "_law_due" (defArgs st__law_due) (defBody st__law_due) (defScope st__law_due) .none kV14 dc14 pm14 an14 cd14 ct14), sl14⟩) (c14 : PySem.W.codeIn K cd14 "_law_due" = true) (k14 : PySem.W.keepIn K (.ref f14) = true)
    (a15 : PySem.W.nsIn K mainGlobals "_law_right" = some (some (.ref f15))) (l15 : K.lookup f15 = some ⟨oc15, od15, .func (PySem.W.fnOf "_law_right" "_law_right" (defArgs st__law_right) (defBody st__law_right) (defScope st__law_right) .none kV15 dc15 pm15 an15 cd15 ct15), sl15⟩) (c15 : PySem.W.codeIn K cd15 "_law_right" = true) (k15 : PySem.W.keepIn K (.ref f15) = true)
    (a16 : PySem.W.nsIn K mainGlobals "_law_next" = some (some (.ref f16))) (l16 : K.lookup f16 = some ⟨oc16, od16, .func (PySem.W.fnOf "_law_next" "_law_next" (defArgs st__law_next) (defBody st__law_next) (defScope st__law_next) .none kV16 dc16 pm16 an16 cd16 ct16), sl16⟩) (c16 : PySem.W.codeIn K cd16 "_law_next" = true) (k16 : PySem.W.keepIn K (.ref f16) = true)
    (a17 : PySem.W.nsIn K mainGlobals "_law_draws" = some (some (.ref f17))) (l17 : K.lookup f17 = some ⟨oc17, od17, .func (PySem.W.fnOf "_law_draws" "_law_draws" (defArgs st__law_draws) (defBody st__law_draws) (defScope st__law_draws) .none kV17 dc17 pm17 an17 cd17 ct17), sl17⟩) (c17 : PySem.W.codeIn K cd17 "_law_draws" = true) (k17 : PySem.W.keepIn K (.ref f17) = true)
    (a18 : PySem.W.nsIn K mainGlobals "law" = some (some (.ref f18))) (l18 : K.lookup f18 = some ⟨oc18, od18, .func (PySem.W.fnOf "law" "law" (defArgs st_law) (defBody st_law) (defScope st_law) .none kV18 dc18 pm18 an18 cd18 ct18), sl18⟩) (c18 : PySem.W.codeIn K cd18 "law" = true) (k18 : PySem.W.keepIn K (.ref f18) = true)
    (z0 : PySem.W.nsIn K mainGlobals "abs" = some none)
    (z1 : PySem.W.nsIn K mainGlobals "int" = some none)
    (z2 : PySem.W.nsIn K mainGlobals "len" = some none)
    (z3 : PySem.W.nsIn K mainGlobals "list" = some none)
    (z4 : PySem.W.nsIn K mainGlobals "max" = some none)
    (z5 : PySem.W.nsIn K mainGlobals "min" = some none)
    (z6 : PySem.W.nsIn K mainGlobals "range" = some none)
    (z7 : PySem.W.nsIn K mainGlobals "repr" = some none)
    (z8 : PySem.W.nsIn K mainGlobals "sorted" = some none)
    (z9 : PySem.W.nsIn K mainGlobals "tuple" = some none)
    {cA tA : Addr} {ddA : Option Addr} {vsA : Array Value} {slA : Array (Option Value)} {fileA : Str} {tfA tgA ttA : Tok} {flA txA : Int} {inA : Bool}
    (tcd : cd14 = .ref cA) (tco : K.lookup cA = some ⟨.type "code", ddA, .fields vsA, slA⟩) (tv : vsA[11]? = some (.ref tA)) (tg : vsA.getD 11 .none = .ref tA) (t18 : vsA.getD 18 .none = .str fileA tfA) (t7 : vsA.getD 7 .none = .int flA tgA) (t9 : vsA.getD 9 .none = .bool inA) (t10 : vsA.getD 10 .none = .int txA ttA) (tne : cA ≠ tA) (tno : K.lookup tA = none)
    : ∃ (fd : FuncData) (cd t : Addr), (∀ (s : Shared) (v : Value), BindsTo s fd ⟨[v], []⟩ [("_law_script", v)]) ∧ DefTb K mg "_law_due" cd t ∧ TBL K = [(t, (("_law_due" ++ ".<locals>." : Str) ++ "<lambda>"))] ∧ ∀ base : Heap, K.In base → base.Ns mainGlobals mg → LamX.TabB base mg cd t → FnG P w K mg base (L2.CX P w) 14 fa fd ["_law_script"] (spLaw K LawOk) := by
  have e := hfa.symm.trans (PySem.W.mg_of X G a18)
  cases e
  have T : Txt K mg := ⟨⟨_, _, fun_mk (st := st_neighbours_of) l0 c0 k0, PySem.W.mg_of X G a0, (fun_mk (st := st_neighbours_of) l0 c0 k0).binds (ps := ["forest", "vertex"]) fun _ _ _ _ _ _ us hl => PV.bn2 us hl (fun _ _ => rfl)⟩,
    ⟨_, _, fun_mk (st := st_lamps_beside) l1 c1 k1, PySem.W.mg_of X G a1, (fun_mk (st := st_lamps_beside) l1 c1 k1).binds (ps := ["forest", "setting", "vertex"]) fun _ _ _ _ _ _ us hl => PV.bn3 us hl (fun _ _ _ => rfl)⟩,
    ⟨_, _, fun_mk (st := st_setting_after) l2 c2 k2, PySem.W.mg_of X G a2, (fun_mk (st := st_setting_after) l2 c2 k2).binds (ps := ["setting", "u", "v"]) fun _ _ _ _ _ _ us hl => PV.bn3 us hl (fun _ _ _ => rfl)⟩,
    ⟨_, _, fun_mk (st := st_possible_slides) l3 c3 k3, PySem.W.mg_of X G a3, (fun_mk (st := st_possible_slides) l3 c3 k3).binds (ps := ["forest", "setting"]) fun _ _ _ _ _ _ us hl => PV.bn2 us hl (fun _ _ => rfl)⟩,
    ⟨_, _, fun_mk (st := st_steps_from) l4 c4 k4, PySem.W.mg_of X G a4, (fun_mk (st := st_steps_from) l4 c4 k4).binds (ps := ["forest", "setting"]) fun _ _ _ _ _ _ us hl => PV.bn2 us hl (fun _ _ => rfl)⟩,
    ⟨_, _, fun_mk (st := st_shortest_plan) l5 c5 k5, PySem.W.mg_of X G a5, (fun_mk (st := st_shortest_plan) l5 c5 k5).binds (ps := ["forest", "first", "second"]) fun _ _ _ _ _ _ us hl => PV.bn3 us hl (fun _ _ _ => rfl)⟩,
    ⟨_, _, fun_mk (st := st__law_one) l6 c6 k6, PySem.W.mg_of X G a6, (fun_mk (st := st__law_one) l6 c6 k6).binds (ps := ["_law_state", "_law_items"]) fun _ _ _ _ _ _ us hl => PV.bn2 us hl (fun _ _ => rfl)⟩,
    ⟨_, _, fun_mk (st := st__law_shuffled) l7 c7 k7, PySem.W.mg_of X G a7, (fun_mk (st := st__law_shuffled) l7 c7 k7).binds (ps := ["_law_state", "_law_items"]) fun _ _ _ _ _ _ us hl => PV.bn2 us hl (fun _ _ => rfl)⟩,
    ⟨_, _, fun_mk (st := st__law_forest) l8 c8 k8, PySem.W.mg_of X G a8, (fun_mk (st := st__law_forest) l8 c8 k8).binds (ps := ["_law_state", "_law_least", "_law_most"]) fun _ _ _ _ _ _ us hl => PV.bn3 us hl (fun _ _ _ => rfl)⟩,
    ⟨_, _, fun_mk (st := st__law_near) l9 c9 k9, PySem.W.mg_of X G a9, (fun_mk (st := st__law_near) l9 c9 k9).binds (ps := ["_law_forest_here", "_law_vertex"]) fun _ _ _ _ _ _ us hl => PV.bn2 us hl (fun _ _ => rfl)⟩,
    ⟨_, _, fun_mk (st := st__law_setting) l10 c10 k10, PySem.W.mg_of X G a10, (fun_mk (st := st__law_setting) l10 c10 k10).binds (ps := ["_law_state", "_law_forest_here"]) fun _ _ _ _ _ _ us hl => PV.bn2 us hl (fun _ _ => rfl)⟩,
    ⟨_, _, fun_mk (st := st__law_slides) l11 c11 k11, PySem.W.mg_of X G a11, (fun_mk (st := st__law_slides) l11 c11 k11).binds (ps := ["_law_forest_here", "_law_setting_here"]) fun _ _ _ _ _ _ us hl => PV.bn2 us hl (fun _ _ => rfl)⟩,
    ⟨_, _, fun_mk (st := st__law_moved) l12 c12 k12, PySem.W.mg_of X G a12, (fun_mk (st := st__law_moved) l12 c12 k12).binds (ps := ["_law_setting_here", "_law_u", "_law_v"]) fun _ _ _ _ _ _ us hl => PV.bn3 us hl (fun _ _ _ => rfl)⟩,
    ⟨_, _, fun_mk (st := st__law_reached) l13 c13 k13, PySem.W.mg_of X G a13, (fun_mk (st := st__law_reached) l13 c13 k13).binds (ps := ["_law_forest_here", "_law_setting_here"]) fun _ _ _ _ _ _ us hl => PV.bn2 us hl (fun _ _ => rfl)⟩,
    ⟨_, _, fun_mk (st := st__law_due) l14 c14 k14, PySem.W.mg_of X G a14, (fun_mk (st := st__law_due) l14 c14 k14).binds (ps := ["_law_forest_here", "_law_first", "_law_second"]) fun _ _ _ _ _ _ us hl => PV.bn3 us hl (fun _ _ _ => rfl)⟩,
    ⟨_, _, fun_mk (st := st__law_right) l15 c15 k15, PySem.W.mg_of X G a15, (fun_mk (st := st__law_right) l15 c15 k15).binds (ps := ["_law_forest_here", "_law_first", "_law_second"]) fun _ _ _ _ _ _ us hl => PV.bn3 us hl (fun _ _ _ => rfl)⟩,
    ⟨_, _, fun_mk (st := st__law_next) l16 c16 k16, PySem.W.mg_of X G a16, (fun_mk (st := st__law_next) l16 c16 k16).binds (ps := ["_law_state", "_law_many"]) fun _ _ _ _ _ _ us hl => PV.bn2 us hl (fun _ _ => rfl)⟩,
    ⟨_, _, fun_mk (st := st__law_draws) l17 c17 k17, PySem.W.mg_of X G a17, (fun_mk (st := st__law_draws) l17 c17 k17).binds (ps := ["_law_script"]) fun _ _ _ _ _ _ us hl => PV.bn1 us hl (fun _ => rfl)⟩,
    ⟨_, _, fun_mk (st := st_law) l18 c18 k18, PySem.W.mg_of X G a18, (fun_mk (st := st_law) l18 c18 k18).binds (ps := ["_law_script"]) fun _ _ _ _ _ _ us hl => PV.bn1 us hl (fun _ => rfl)⟩,
    PySem.W.mg_none_of X G z0,
    PySem.W.mg_none_of X G z1,
    PySem.W.mg_none_of X G z2,
    PySem.W.mg_none_of X G z3,
    PySem.W.mg_none_of X G z4,
    PySem.W.mg_none_of X G z5,
    PySem.W.mg_none_of X G z6,
    PySem.W.mg_none_of X G z7,
    PySem.W.mg_none_of X G z8,
    PySem.W.mg_none_of X G z9⟩
  subst tcd
  have hTB : TBL K = [(tA, (("_law_due" ++ ".<locals>." : Str) ++ "<lambda>"))] := by
    have e : tblAt K ("_law_due", (("_law_due" ++ ".<locals>." : Str) ++ "<lambda>")) = some (tA, (("_law_due" ++ ".<locals>." : Str) ++ "<lambda>")) := by
      unfold tblAt
      simp only [a14, l14, tco, tv]
    unfold TBL lamNs
    rw [List.filterMap_cons_some e]; rfl
  have DT : DefTb K mg "_law_due" cA tA := ⟨⟨_, _, _, PySem.W.mg_of X G a14, l14, rfl, rfl⟩, ⟨_, _, _, _, tco, tv⟩, fun h KX => ⟨_, vsA, fileA, tfA, flA, tgA, inA, txA, ttA, KX _ _ tco, rfl, rfl, tv, tg, t18, t7, t9, t10, tne⟩, tno⟩
  exact ⟨_, _, _, fun s v => .of_eq rfl, DT, hTB, fun base _ _ TB => ok_law T ⟨_, _, DT, TB, hTB⟩ (fun_mk (st := st_law) l18 c18 k18)⟩
/-- a forest: its vertices, its edges -/
structure Fr where
  n : Int
  es : List (Int × Int)
noncomputable def Fr.d (F : Fr) : PyData := .tuple [.int F.n, .tuple (F.es.map pr)]
theorem idxD_F0 {F : Fr} : idxD [F.d, .int 0] = some (.v (.int F.n)) := by
  unfold Fr.d; rw [idxD_t, pick_0]; rfl
theorem idxD_F1 {F : Fr} : idxD [F.d, .int 1] = some (.v (.tuple (F.es.map pr))) := by
  unfold Fr.d; rw [idxD_t, pick_1]; rfl
local macro_rules
  | `(tactic| simp! only) => `(tactic| simp! only [PV.truth_none])
  | `(tactic| simp! only [$xs,*]) => do
    let ls ← ("PV.truth_none PV.truth_bool PV.truth_int PV.truth_str PV.truth_list PV.truth_tuple PV.truth_dict PV.strFits_none PV.strFits_bool PV.strFits_int PV.strFits_str PV.strFits_list PV.strFits_tuple PV.strFits_dict PV.slR_sh PV.slR_ol PV.slR_od PV.slR_dk PV.vOf_v PV.bOf_b PV.noPD_v PV.noPD_fl PV.noPD_fd PV.deref_v PV.deref_fl PV.deref_fd PV.slotD_ol PV.slotD_od PV.slotD_sh PV.derefs_nil PV.derefs_c PV.esc_v PV.esc_fl PV.esc_fd PV.esc_pl PV.escS_ol PV.escS_od PV.escS_sh PV.escs_nil PV.escs_c PV.toArgs_nil PV.toArgs_dk PV.toArgs_v PV.toArgs_fl PV.toArgs_fd PV.toArgs_pl PV.setR_v PV.setR_fl PV.setR_fd PV.setR_dk PV.setR_pl PV.setRs_nil PV.setRs_c PV.items_l PV.items_t PV.items_fl PV.items_pl PV.itS_ol PV.itS_sh PV.isOwn_ol PV.isOwn_od PV.isOwn_sh PV.isOwn_un PV.isOwn_dk PV.isOwn_no PV.olAt_ol PV.finS_ol PV.finS_od PV.finS_sh PV.zipR_tt PV.zipR_ll PV.zipR_ff PV.zipR_lf PV.zipR_fl PV.zipL_ll PV.zipL_ff PV.zipL_lf PV.zipL_fl PV.noPl_nil PV.noPl_v PV.noPl_fl PV.noPl_fd PV.noPl_dk PV.hasPl_nil PV.hasPl_v PV.hasPl_fl PV.hasPl_fd PV.hasPl_dk PV.hasPl_pl PV.flatR_v PV.bind1_nm PV.bind1_tp PV.bind1_tl PV.bindL_nil PV.bindL_c PV.deref_pl PV.eq_str PV.ne_str PV.flat_b PV.flat_i PV.flat_s PV.flat_n PV.V_c PV.V_x PV.V_op PV.V_call PV.V_tup PV.V_lst PV.V_emp PV.V_and PV.V_or PV.V_ite PV.V_mut PV.M_app PV.M_pop PV.M_popAt PV.M_ext PV.M_rem PV.M_ins PV.V_ofT PV.V_dsp PV.V_chn PV.V_lc PV.V_dc PV.bdT_eq PV.bdS_eq PV.ownOk PV.VI_zip PV.VI_zpl PV.VI_zp3 PV.zip3R_t PV.X_raise1 PV.V_xf PV.xfR_s PV.exSlot_s PV.X_sub PV.X_swp PV.subR PV.Vs_nil PV.Vs_cons PV.VT_yes PV.VT_e PV.VT_and PV.VT_or PV.VT_not PV.VI_e PV.VI_rng PV.VI_enm PV.X_nil PV.X_cons PV.X_set PV.X_unp PV.X_par PV.X_ex PV.X_ret PV.X_retN PV.X_ite PV.X_lop PV.X_pass PV.X_brk PV.X_cont PV.V_dcT PV.V_updT PV.VI_txt PV.VI_rg3 PV.odTAt_od PV.fdTOf_fd PV.strOf_s PV.nxt_nx PV.nxt_brk PV.nxt_ct PV.nxt_rt PV.finF_nx PV.finF_v PV.finF_fl PV.finF_fd PV.finF_pl PV.RS_ok PV.RS_rz PV.RS_bad PV.FS_ok PV.FS_rz PV.FS_bad PV.OS_some PV.OS_none PV.OS_map PV.OS_ite PV.callOk PV.rzOk PV.flatO PV.opE_v2 PV.opE_vf PV.opE_fv PV.opE_ff PV.opE_n_add PV.opE_n_sub PV.opE_n_mul PV.opE_n_fdiv PV.opE_n_mod PV.opE_n_pow PV.opE_n_neg PV.opE_n_eq PV.opE_n_ne PV.opE_n_lt PV.opE_n_le PV.opE_n_gt PV.opE_n_ge PV.opE_n_isN PV.opE_n_notN PV.opE_n_len PV.opE_n_tuple PV.opE_n_list PV.opE_n_lrng PV.opE_n_sorted PV.opE_n_abs PV.opE_n_min2 PV.opE_n_max2 PV.opE_n_min1 PV.opE_n_max1 PV.opE_n_sum PV.opE_n_any PV.opE_n_all PV.opE_n_int PV.opE_n_str PV.opE_n_repr PV.opE_n_not PV.opE_n_idi PV.opE_n_rev PV.opE_n_sl PV.opE_n_isi PV.opE_n_g PV.opE_inp PV.opE_notinp PV.opE_idxp PV.pidx_ol PV.pinn_ol PV.pnin_ol PV.opD PV.clear PV.back PV.mutOk PV.srcFree PV.slotA PV.keyOk PV.toKey PV.addD PV.subD PV.negD PV.cmpR PV.cmpD PV.isND PV.notND PV.isiD PV.isKind PV.notD PV.lenD PV.tupleD PV.listD PV.inD PV.notinD PV.idxD_t PV.idxD_l PV.eqD_nil0 PV.neD_nil0 PV.eqD_lI0 PV.neD_lI0 PV.eqD_lP0 PV.neD_lP0 PV.eqD_tI0 PV.neD_tI0 PV.eqD_tP0 PV.neD_tP0 PV.eqD_p PV.neD_p PV.eqD_b2 PV.neD_b2 PV.eqD_int PV.neD_int PV.eqD_tI PV.neD_tI PV.eqD_lI PV.neD_lI PV.eqD_tP PV.neD_tP PV.eqD_lP PV.neD_lP PV.gD PV.isBD PV.hasD_tI PV.hasD_lI PV.hasD_tP' PV.hasD_lP' PV.lim0 PV.lim1 PV.lim2 PV.lim3 PV.lim4 PV.lim5 PV.lim6 PV.lim7 PV.lim8 PV.lim9 PV.lim10 PV.lim11 PV.lim12 PV.lim17 PV.lim26 PV.pr PV.srcOk PV.min2D PV.max2D PV.rng_1 PV.rng_2 PV.lrng_1 PV.slD PV.cut_1 PV.cut_m1 PV.zip_ints PV.enum_map PV.allD PV.anyD PV.toBls_map PV.pick_0 PV.pick_1 PV.pick_2 PV.pick_3 PV.srt_ints PV.srt_prs PV.sortedD PV.toInts_ints Option.isSome_some Option.isSome_none List.all_cons List.all_nil List.getElem?_cons_zero List.getElem?_cons_succ List.set_cons_zero List.set_cons_succ List.map_cons List.map_nil List.length_cons List.length_nil List.replicate_succ List.replicate_zero List.append_nil List.nil_append List.cons_append Option.map_some Option.map_none Option.bind_some Option.bind_none Option.getD_some Bool.not_true Bool.not_false Bool.false_or Bool.true_or Bool.or_true Bool.or_false Bool.true_and Bool.false_and Bool.and_true Bool.and_false BEq.rfl not_true_eq_false forall_const true_implies false_implies and_true true_and and_self Bool.false_eq_true reduceCtorEq ne_eq not_false_eq_true decide_true decide_false decide_eq_true_eq decide_eq_false_iff_not PV.cast0 PV.cast1 PV.cast2 PV.cast3 PV.cast4 PV.cast5 PV.cast6 PV.cast7 PV.cast8 PV.cast9 PV.cast10 PV.cast11 PV.cast12 Int.reduceEq Int.reduceLT Int.reduceLE Int.reduceGT Int.reduceGE Int.reduceAdd Int.reduceSub Int.reduceNeg Int.reduceNe Nat.reduceSub Nat.reduceAdd if_true if_false ite_true ite_false reduceIte implies_true Rk.idxD_F0 Rk.idxD_F1".splitOn " ").toArray.mapM fun s => `(Lean.Parser.Tactic.simpLemma| $(Lean.mkIdent s.toName):term)
    `(tactic| simp only [$xs,*, $ls,*])
/-- the neighbours -/
noncomputable def nb (F : Fr) (v : Int) : List Int := (F.es.filter fun e => decide (e.2 = v)).map (·.1) ++ (F.es.filter fun e => decide (e.1 = v)).map (·.2)
/-- the lamps beside a vertex -/
noncomputable def lb (F : Fr) (S : List Int) (v : Int) : List Int := (nb F v).filter fun o => decide (o ∈ S)
noncomputable def sAft (S : List Int) (u v : Int) : List Int := (S.map fun l => if l = u then v else l).mergeSort leI
noncomputable def psl1 (F : Fr) (S : List Int) (u : Int) : List (Int × Int) := ((nb F u).filter fun v => decide (lb F S v = [u])).map fun v => (u, v)
noncomputable def psl (F : Fr) (S : List Int) : List (Int × Int) := S.flatMap (psl1 F S)
structure Fr.Wf (F : Fr) : Prop where
  n0 : 0 ≤ F.n
  n1 : F.n ≤ 12
  lo : ∀ e ∈ F.es, 0 ≤ e.1 ∧ e.1 < e.2 ∧ e.2 < F.n
  pw : F.es.Pairwise fun a b => a.1 < b.1 ∨ a.1 = b.1 ∧ a.2 < b.2
theorem neighbours_ok (k : Nat) (F : Fr) (hl : F.es.length ≤ 1000) (v : Int) (s : DS) : PV.runI tb (k + 1) 19 [.sh F.d, .sh (.int v)] s = .ok (.v (.tuple ((nb F v).map .int))) s := by
  have l1 : (F.es.filter fun e => decide (e.2 = v)).length ≤ F.es.length := List.length_filter_le _ _
  have l2 : (F.es.filter fun e => decide (e.1 = v)).length ≤ F.es.length := List.length_filter_le _ _
  refine FS.eq (F_call (fd := ⟨5, 2, B_neighbours_of⟩) rfl rfl ?_)
  unfold B_neighbours_of
  simp! only
  refine ⟨(by simp only [List.length_map, List.length_append, List.length_cons, List.length_nil, LIM]; omega), RS_lc (fun e => decide (e.2 = v)) (fun e => .int e.1) trivial (fun x hx => ?a) ?b⟩
  case a => simp! only
  case b =>
    simp! only
    refine ⟨(by simp only [List.length_map, List.length_append, List.length_cons, List.length_nil, LIM]; omega), RS_lc (fun e => decide (e.1 = v)) (fun e => .int e.2) trivial (fun x hx => ?a) ?b⟩
    case a => simp! only
    case b =>
      simp! only
      refine ⟨(by simp only [List.length_map, List.length_append, List.length_cons, List.length_nil, LIM]; omega), ?_⟩
      simp only [nb, List.map_append, List.map_map]
      rfl
theorem lamps_beside_ok (k : Nat) (F : Fr) (hl : F.es.length ≤ 1000) (S : List Int) (v : Int) (s : DS) : PV.runI tb (k + 2) 31 [.sh F.d, .sh (.tuple (S.map .int)), .sh (.int v)] s = .ok (.fl ((lb F S v).map .int)) s := by
  refine FS.eq (F_call (fd := ⟨4, 3, B_lamps_beside⟩) rfl rfl ?_)
  unfold B_lamps_beside
  have l1 : (F.es.filter fun e => decide (e.2 = v)).length ≤ F.es.length := List.length_filter_le _ _
  have l2 : (F.es.filter fun e => decide (e.1 = v)).length ≤ F.es.length := List.length_filter_le _ _
  have l3 : (nb F v).length ≤ 2000 := by simp only [nb, List.length_append, List.length_map]; omega
  simp! only [neighbours_ok k F hl]
  refine ⟨(by simp only [List.length_map, List.length_append, List.length_cons, List.length_nil, LIM]; omega), RS_lc (fun o => decide (o ∈ S)) (fun e => .int e) trivial (fun x hx => ?a) ?b⟩
  case a => simp! only
  case b =>
    simp! only
    rfl
theorem setting_after_ok (k : Nat) (S : List Int) (hS : S.length ≤ 1000) (u v : Int) (s : DS) : PV.runI tb (k + 1) 151 [.sh (.tuple (S.map .int)), .sh (.int u), .sh (.int v)] s = .ok (.v (.tuple ((sAft S u v).map .int))) s := by
  refine FS.eq (F_call (fd := ⟨4, 3, B_setting_after⟩) rfl rfl ?_)
  unfold B_setting_after
  simp! only
  refine ⟨(by simp only [List.length_map, List.length_append, List.length_cons, List.length_nil, LIM]; omega), RS_map (fun l => .int (if l = u then v else l)) trivial (fun x hx => ?a) ?b⟩
  case a =>
    simp! only
    refine ⟨fun h => ?_, fun h => ?_⟩ <;> simp [h]
  case b =>
    have e : S.map (fun l => PyData.int (if l = u then v else l)) = (S.map fun l => if l = u then v else l).map .int := by rw [List.map_map]; rfl
    rw [e]
    simp! only
    rfl
theorem possible_slides_ok (k : Nat) (F : Fr) (hl : F.es.length ≤ 1000) (S : List Int) (hS : S.length ≤ 1000) (s : DS) : PV.runI tb (k + 3) 33 [.sh F.d, .sh (.tuple (S.map .int))] s = .ok (.v (.tuple ((psl F S).map pr))) s := by
  refine FS.eq (F_call (fd := ⟨5, 2, B_possible_slides⟩) rfl rfl ?_)
  unfold B_possible_slides
  simp! only
  have l3 : ∀ v, (nb F v).length ≤ 2000 := fun v => by
    have l1 : (F.es.filter fun e => decide (e.2 = v)).length ≤ F.es.length := List.length_filter_le _ _
    have l2 : (F.es.filter fun e => decide (e.1 = v)).length ≤ F.es.length := List.length_filter_le _ _
    simp only [nb, List.length_append, List.length_map]; omega
  have l4 : ∀ u, (psl1 F S u).length ≤ 2000 := fun u => by
    have := List.length_filter_le (fun v => decide (lb F S v = [u])) (nb F u)
    have := l3 u
    simp only [psl1, List.length_map]; omega
  refine RS_lop (fun done rest m => ∃ a3 a4, m = ⟨[.sh F.d, .sh (.tuple (S.map .int)), .ol ((done.flatMap (psl1 F S)).map pr), a3, a4], s⟩) ⟨_, _, rfl⟩ (fun _ _ _ _ => trivial) (fun done u rest m hS' hj => ?a) (fun m hj => ?b)
  case a =>
    obtain ⟨a3, a4, rfl⟩ := hj
    have lS : done.length ≤ 1000 := by rw [hS', List.length_append] at hS; omega
    have l5 : (done.flatMap (psl1 F S)).length ≤ done.length * 2000 := by
      clear hS' 
      induction done with
      | nil => simp
      | cons x xs ih =>
        have := l4 x
        rw [List.flatMap_cons, List.length_append, List.length_cons]
        have := ih (by simp at lS; omega)
        omega
    simp! only [neighbours_ok (k + 1) F hl]
    refine RS_lop (fun d2 rest m => ∃ a4, m = ⟨[.sh F.d, .sh (.tuple (S.map .int)), .ol ((done.flatMap (psl1 F S) ++ (d2.filter fun v => decide (lb F S v = [u])).map fun v => (u, v)).map pr), .sh (.int u), a4], s⟩) ⟨a4, by simp⟩ (fun _ _ _ _ => trivial) (fun d2 v r2 m he hj => ?c) (fun m hj => ?d)
    case c =>
      obtain ⟨a4, rfl⟩ := hj
      have l6 : (d2.filter fun v => decide (lb F S v = [u])).length ≤ 2000 := by
        have := List.length_filter_le (fun v => decide (lb F S v = [u])) d2
        have h2 := l3 u
        rw [he, List.length_append] at h2; omega
      have e1 : ([PyData.int u] : List PyData) = [u].map .int := rfl
      simp! only [lamps_beside_ok k F hl]
      rw [e1, eqD_lI]
      simp! only
      refine ⟨fun h => ?_, fun h => ?_⟩
      · refine ⟨(by simp only [List.length_map, List.length_append, List.length_cons, List.length_nil, LIM]; omega), .sh (.int v), ?_⟩
        rw [List.filter_append]
        simp [h, pr]
      · refine ⟨.sh (.int v), ?_⟩
        rw [List.filter_append]
        simp [h]
    case d =>
      obtain ⟨a4, rfl⟩ := hj
      exact ⟨.sh (.int u), a4, by rw [List.flatMap_append]; simp [psl1]⟩
  case b =>
    obtain ⟨a3, a4, rfl⟩ := hj
    simp! only
    rfl
/-- a setting, of whole numbers -/
noncomputable def isSet (F : Fr) (xs : List Int) : Bool := xs.all (fun i => decide (0 ≤ i) && decide (i ≤ F.n - 1)) && ((xs.zip (xs.drop 1)).all fun p => decide (p.1 < p.2)) && !(F.es.any fun e => decide (e.1 ∈ xs) && decide (e.2 ∈ xs))
noncomputable def edg (a b : Int) : Int × Int := if a ≤ b then (a, b) else (b, a)
noncomputable def aftL (S : List Int) (p : Int × Int) : List Int := ((S.filter fun l => !decide (l = p.1)) ++ [p.2]).mergeSort leI
noncomputable def eL (ns : List Int) (ks : List (Int × Int)) : List (Int × Int) := ks.map fun p => edg (ns.getD p.1.toNat 0) (ns.getD p.2.toNat 0)
/-- a drawn forest: what it is -/
structure FWf (m : Int) (F : Fr) (ns : List Int) (ks : List (Int × Int)) : Prop where
  n0 : 0 ≤ F.n
  n1 : F.n ≤ m
  names : ns.Perm (rI F.n)
  /-- each edge: a place, an earlier place -/
  ed : F.es.Perm (eL ns ks)
  pl : ∀ p ∈ ks, 0 ≤ p.2 ∧ p.2 < p.1 ∧ p.1 < F.n
  up : (ks.map (·.1)).Pairwise (· < ·)
  srt : F.es.Pairwise fun a b => leP a b = true
theorem edg_le (a b : Int) : (edg a b).1 ≤ (edg a b).2 := by unfold edg; split <;> simp <;> omega
theorem edg_comm (a b : Int) : edg a b = edg b a := by
  unfold edg
  split
  · split
    · have : a = b := by omega
      rw [this]
    · rfl
  · rw [if_pos (by omega)]
theorem edg_eq {a b c d : Int} (h : edg a b = edg c d) : (a = c ∧ b = d) ∨ (a = d ∧ b = c) := by
  unfold edg at h
  split at h <;> split at h <;> (cases h; omega)
theorem edg_of {a b : Int} (h : a ≤ b) : edg a b = (a, b) := if_pos h
theorem edg_cases (a b : Int) : edg a b = (a, b) ∨ edg a b = (b, a) := by unfold edg; split <;> simp
theorem FWf.wf {m : Int} {F : Fr} {ns : List Int} {ks : List (Int × Int)} (h : FWf m F ns ks) (hm : m ≤ 12) : F.Wf := by
  have hl : ns.length = F.n.toNat := by rw [h.names.length_eq, rI_len]
  have nd : ns.Nodup := h.names.nodup_iff.mpr ((rI_pw F.n).imp fun h => by omega)
  have get : ∀ i : Int, 0 ≤ i → i < F.n → ∃ hi : i.toNat < ns.length, ns.getD i.toNat 0 = ns[i.toNat] := fun i h0 h1 => ⟨by omega, getD_of (List.getElem?_eq_getElem (by omega))⟩
  have rg : ∀ i : Int, 0 ≤ i → i < F.n → 0 ≤ ns.getD i.toNat 0 ∧ ns.getD i.toNat 0 < F.n := fun i h0 h1 => by
    obtain ⟨hi, e⟩ := get i h0 h1
    rw [e]
    exact mem_rI.mp (h.names.mem_iff.mp (List.getElem_mem hi))
  have inj : ∀ i j : Int, 0 ≤ i → i < F.n → 0 ≤ j → j < F.n → ns.getD i.toNat 0 = ns.getD j.toNat 0 → i = j := fun i j h0 h1 h2 h3 e => by
    obtain ⟨hi, e1⟩ := get i h0 h1
    obtain ⟨hj, e2⟩ := get j h2 h3
    rw [e1, e2] at e
    have := nodup_inj nd hi hj e
    omega
  have lo : ∀ e ∈ F.es, 0 ≤ e.1 ∧ e.1 < e.2 ∧ e.2 < F.n := fun e he => by
    obtain ⟨p, hp, rfl⟩ := List.mem_map.mp (h.ed.mem_iff.mp he)
    obtain ⟨a1, a2, a3⟩ := h.pl p hp
    have b1 := rg p.1 (by omega) a3
    have b2 := rg p.2 a1 (by omega)
    have ne : ns.getD p.1.toNat 0 ≠ ns.getD p.2.toNat 0 := fun e => by
      have := inj _ _ (by omega) a3 a1 (by omega) e
      omega
    rcases edg_cases (ns.getD p.1.toNat 0) (ns.getD p.2.toNat 0) with e | e
    · have := edg_le (ns.getD p.1.toNat 0) (ns.getD p.2.toNat 0)
      rw [e] at this ⊢
      exact ⟨b1.1, by show ns.getD p.1.toNat 0 < ns.getD p.2.toNat 0; simp only at this; omega, b2.2⟩
    · have := edg_le (ns.getD p.1.toNat 0) (ns.getD p.2.toNat 0)
      rw [e] at this ⊢
      exact ⟨b2.1, by show ns.getD p.2.toNat 0 < ns.getD p.1.toNat 0; simp only at this; omega, b1.2⟩
  have nde : (eL ns ks).Pairwise (· ≠ ·) := by
    unfold eL
    rw [List.pairwise_map]
    have up := h.up
    rw [List.pairwise_map] at up
    refine (List.Pairwise.and_mem.mp up).imp fun {p q} z e => ?_
    obtain ⟨hp, hq, lt⟩ := z
    obtain ⟨a1, a2, a3⟩ := h.pl p hp
    obtain ⟨c1, c2, c3⟩ := h.pl q hq
    rcases edg_eq e with ⟨e1, _⟩ | ⟨e1, e2⟩
    · have := inj _ _ (by omega) a3 (by omega) c3 e1
      omega
    · have := inj _ _ (by omega) a3 c1 (by omega) e1
      have := inj _ _ a1 (by omega) (by omega) c3 e2
      omega
  have nd2 : F.es.Nodup := h.ed.nodup_iff.mpr nde
  refine ⟨h.n0, by have := h.n1; omega, lo, ?_⟩
  refine (List.pairwise_and_iff.mpr ⟨h.srt, nd2⟩).imp fun {a b} z => ?_
  obtain ⟨z1, z2⟩ := z
  rcases leP_iff.mp z1 with z | ⟨z, y⟩
  · exact .inl z
  · refine .inr ⟨z, ?_⟩
    by_cases q : a.2 = b.2
    · exact absurd (Prod.ext z q) z2
    · omega
/-- a setting -/
structure SetWf (F : Fr) (S : List Int) : Prop where
  rg : ∀ v ∈ S, 0 ≤ v ∧ v < F.n
  pw : S.Pairwise (· < ·)
  ind : ∀ u ∈ S, ∀ v ∈ S, edg u v ∉ F.es
theorem asc_eq : ∀ {xs ys : List Int}, xs.Pairwise (· < ·) → ys.Pairwise (· < ·) → (∀ a, a ∈ xs ↔ a ∈ ys) → xs = ys := by
  intro xs ys hx hy h
  refine sorted_eq (le := leI) (fun _ _ => leI_anti) (hx.imp fun z => by simp [leI]; omega) (hy.imp fun z => by simp [leI]; omega) ?_
  exact (List.perm_ext_iff_of_nodup (hx.imp fun z => by omega) (hy.imp fun z => by omega)).mpr h
theorem mem_nb {F : Fr} {v o : Int} : o ∈ nb F v ↔ (o, v) ∈ F.es ∨ (v, o) ∈ F.es := by
  unfold nb
  rw [List.mem_append, List.mem_map, List.mem_map]
  constructor
  · rintro (⟨⟨a, b⟩, h, rfl⟩ | ⟨⟨a, b⟩, h, rfl⟩)
    · rw [List.mem_filter] at h
      obtain ⟨h1, h2⟩ := h
      simp at h2; subst h2
      exact .inl h1
    · rw [List.mem_filter] at h
      obtain ⟨h1, h2⟩ := h
      simp at h2; subst h2
      exact .inr h1
  · rintro (h | h)
    · exact .inl ⟨(o, v), by rw [List.mem_filter]; exact ⟨h, by simp⟩, rfl⟩
    · exact .inr ⟨(v, o), by rw [List.mem_filter]; exact ⟨h, by simp⟩, rfl⟩
theorem nb_comm {F : Fr} {v o : Int} : o ∈ nb F v ↔ v ∈ nb F o := by rw [mem_nb, mem_nb]; exact Or.comm
theorem nb_pw {F : Fr} (h : F.Wf) (v : Int) : (nb F v).Pairwise (· < ·) := by
  unfold nb
  rw [List.pairwise_append, List.pairwise_map, List.pairwise_map]
  refine ⟨?_, ?_, ?_⟩
  · refine (List.Pairwise.and_mem.mp (h.pw.filter _)).imp fun {a b} z => ?_
    obtain ⟨z1, z2, z3⟩ := z
    have y1 := (List.mem_filter.mp z1).2
    have y2 := (List.mem_filter.mp z2).2
    simp at y1 y2
    rcases z3 with z3 | z3
    · exact z3
    · omega
  · refine (List.Pairwise.and_mem.mp (h.pw.filter _)).imp fun {a b} z => ?_
    obtain ⟨z1, z2, z3⟩ := z
    have y1 := (List.mem_filter.mp z1).2
    have y2 := (List.mem_filter.mp z2).2
    simp at y1 y2
    rcases z3 with z3 | z3
    · omega
    · exact z3.2
  · intro a ha b hb
    obtain ⟨p, hp, rfl⟩ := List.mem_map.mp ha
    obtain ⟨q, hq, rfl⟩ := List.mem_map.mp hb
    obtain ⟨p1, p2⟩ := List.mem_filter.mp hp
    obtain ⟨q1, q2⟩ := List.mem_filter.mp hq
    simp at p2 q2
    have := (h.lo _ p1).2.1
    have := (h.lo _ q1).2.1
    omega
theorem edg_mem {F : Fr} (h : F.Wf) {o v : Int} : edg o v ∈ F.es ↔ (o, v) ∈ F.es ∨ (v, o) ∈ F.es := by
  constructor
  · intro z
    rcases edg_cases o v with e | e
    · rw [e] at z; exact .inl z
    · rw [e] at z; exact .inr z
  · rintro (z | z)
    · have := (h.lo _ z).2.1
      simp only at this
      rw [edg_of (by omega)]; exact z
    · have := (h.lo _ z).2.1
      simp only at this
      rw [edg_comm, edg_of (by omega)]; exact z
theorem nb_rg {F : Fr} (h : F.Wf) {o v : Int} (z : o ∈ nb F v) : 0 ≤ o ∧ o < F.n := by
  rcases mem_nb.mp z with z | z
  · have := h.lo _ z
    simp only at this; omega
  · have := h.lo _ z
    simp only at this; omega
theorem lb_pw {F : Fr} (h : F.Wf) (S : List Int) (v : Int) : (lb F S v).Pairwise (· < ·) := (nb_pw h v).filter _
theorem mem_lb {F : Fr} {S : List Int} {v o : Int} : o ∈ lb F S v ↔ o ∈ nb F v ∧ o ∈ S := by unfold lb; rw [List.mem_filter]; simp
theorem mem_psl1 {F : Fr} {S : List Int} {u : Int} {p : Int × Int} : p ∈ psl1 F S u ↔ p.1 = u ∧ p.2 ∈ nb F u ∧ lb F S p.2 = [u] := by
  unfold psl1
  rw [List.mem_map]
  constructor
  · rintro ⟨v, hv, rfl⟩
    rw [List.mem_filter] at hv
    exact ⟨rfl, hv.1, by simpa using hv.2⟩
  · rintro ⟨rfl, h1, h2⟩
    exact ⟨p.2, by rw [List.mem_filter]; exact ⟨h1, by simpa using h2⟩, rfl⟩
theorem mem_psl {F : Fr} {S : List Int} {p : Int × Int} : p ∈ psl F S ↔ p.1 ∈ S ∧ p.2 ∈ nb F p.1 ∧ lb F S p.2 = [p.1] := by
  unfold psl
  rw [List.mem_flatMap]
  constructor
  · rintro ⟨u, hu, h⟩
    obtain ⟨rfl, h1, h2⟩ := mem_psl1.mp h
    exact ⟨hu, h1, h2⟩
  · rintro ⟨h1, h2, h3⟩
    exact ⟨p.1, h1, mem_psl1.mpr ⟨rfl, h2, h3⟩⟩
theorem psl_pw {F : Fr} (h : F.Wf) {S : List Int} (hS : S.Pairwise (· < ·)) : (psl F S).Pairwise fun a b => leP a b = true := by
  unfold psl
  rw [List.pairwise_flatMap]
  refine ⟨fun u _ => ?_, hS.imp fun {a b} z x hx y hy => ?_⟩
  · unfold psl1
    rw [List.pairwise_map]
    refine ((nb_pw h u).filter _).imp fun {a b} z => ?_
    exact leP_iff.mpr (.inr ⟨rfl, Int.le_of_lt z⟩)
  · rw [leP_iff, (mem_psl1.mp hx).1, (mem_psl1.mp hy).1]
    exact .inl z
theorem repl_perm : ∀ {S : List Int} {u v : Int}, S.Nodup → u ∈ S → (S.map fun l => if l = u then v else l).Perm ((S.filter fun l => !decide (l = u)) ++ [v])
  | [], _, _, _, h => nomatch h
  | x :: S, u, v, nd, h => by
    obtain ⟨n1, n2⟩ := List.nodup_cons.mp nd
    by_cases q : x = u
    · subst q
      have e1 : (S.map fun l => if l = x then v else l) = S := by
        conv => rhs; rw [← List.map_id S]
        refine List.map_congr_left fun y hy => ?_
        rw [if_neg fun z => n1 (by rw [← z]; exact hy)]; rfl
      have e2 : (S.filter fun l => !decide (l = x)) = S := by
        rw [List.filter_eq_self]
        intro y hy
        simp
        exact fun z => n1 (by rw [← z]; exact hy)
      rw [List.map_cons, if_pos rfl, e1, List.filter_cons, if_neg (by simp), e2]
      exact List.perm_append_comm (l₁ := [v]) (l₂ := S)
    · rw [List.map_cons, if_neg q, List.filter_cons, if_pos (by simp [q])]
      refine List.Perm.cons x (repl_perm n2 ?_)
      rcases List.mem_cons.mp h with z | z
      · exact absurd z.symm q
      · exact z
theorem sAft_eq {S : List Int} {u v : Int} (nd : S.Nodup) (hu : u ∈ S) : sAft S u v = aftL S (u, v) := sortI_eq (repl_perm nd hu)
theorem mem_sAft {S : List Int} {u v w : Int} (nd : S.Nodup) (hu : u ∈ S) : w ∈ sAft S u v ↔ (w ∈ S ∧ w ≠ u) ∨ w = v := by
  rw [sAft_eq nd hu]
  unfold aftL
  rw [(List.mergeSort_perm _ _).mem_iff, List.mem_append, List.mem_filter]
  simp
theorem SetWf.nd {F : Fr} {S : List Int} (h : SetWf F S) : S.Nodup := h.pw.imp fun z => by omega
theorem SetWf.no {F : Fr} (hF : F.Wf) {S : List Int} (h : SetWf F S) {u v : Int} (hu : u ∈ S) (hv : v ∈ nb F u) : v ∉ S := fun z =>
  h.ind u hu v z ((edg_mem hF).mpr (mem_nb.mp (nb_comm.mp hv)))
theorem SetWf.sl {F : Fr} (hF : F.Wf) {S : List Int} (h : SetWf F S) {p : Int × Int} (hp : p ∈ psl F S) : SetWf F (sAft S p.1 p.2) := by
  obtain ⟨h1, h2, h3⟩ := mem_psl.mp hp
  have nd := h.nd
  have hv : p.2 ∉ S := h.no hF h1 h2
  have mm := fun w => mem_sAft (v := p.2) (w := w) nd h1
  have key : ∀ w ∈ S, w ≠ p.1 → edg w p.2 ∉ F.es := fun w hw ne z => by
    have : w ∈ lb F S p.2 := mem_lb.mpr ⟨mem_nb.mpr ((edg_mem hF).mp z), hw⟩
    rw [h3] at this
    exact ne (List.mem_singleton.mp this)
  refine ⟨fun w hw => ?_, ?_, fun a ha b hb => ?_⟩
  · rcases (mm w).mp hw with ⟨z, _⟩ | rfl
    · exact h.rg w z
    · exact nb_rg hF h2
  · have n2 : (sAft S p.1 p.2).Nodup := by
      unfold sAft
      rw [(List.mergeSort_perm _ _).nodup_iff, (repl_perm nd h1).nodup_iff, List.Nodup, List.pairwise_append]
      refine ⟨List.Pairwise.filter _ nd, by simp, fun a ha b hb e => ?_⟩
      rw [List.mem_singleton.mp hb] at e
      subst e
      exact hv (List.mem_filter.mp ha).1
    refine (List.pairwise_and_iff.mpr ⟨sortI_pw _, n2⟩).imp fun {a b} z => ?_
    have := z.1
    simp only [leI, decide_eq_true_eq] at this
    have := z.2
    omega
  · rcases (mm a).mp ha with ⟨a1, a2⟩ | rfl <;> rcases (mm b).mp hb with ⟨b1, b2⟩ | rfl
    · exact h.ind a a1 b b1
    · exact key a a1 a2
    · rw [edg_comm]; exact key b b1 b2
    · intro z
      have := hF.lo _ z
      rw [edg_of (Int.le_refl _)] at this
      simp at this
theorem zip_asc {xs : List Int} (h : xs.Pairwise (· < ·)) : ((xs.zip (xs.drop 1)).all fun p => decide (p.1 < p.2)) = true := by
  cases xs with
  | nil => rfl
  | cons x xs =>
    induction xs generalizing x with
    | nil => rfl
    | cons y ys ih =>
      have h1 := List.pairwise_cons.mp h
      have := ih y h1.2
      simp only [List.drop_succ_cons, List.drop_zero, List.zip_cons_cons, List.all_cons] at this ⊢
      rw [this, Bool.and_true]
      simpa using h1.1 y List.mem_cons_self
theorem SetWf.is {F : Fr} (hF : F.Wf) {S : List Int} (h : SetWf F S) : isSet F S = true := by
  unfold isSet
  rw [Bool.and_eq_true, Bool.and_eq_true, zip_asc h.pw]
  refine ⟨⟨?_, rfl⟩, ?_⟩
  · rw [List.all_eq_true]
    intro v hv
    have := h.rg v hv
    simp; omega
  · rw [Bool.not_eq_true', Bool.eq_false_iff]
    intro z
    rw [List.any_eq_true] at z
    obtain ⟨e, he, z⟩ := z
    simp at z
    exact h.ind e.1 z.1 e.2 z.2 ((edg_mem hF).mpr (.inl he))
theorem SetWf.len {F : Fr} (hF : F.Wf) {S : List Int} (h : SetWf F S) : S.length ≤ 12 := by
  have := nodup_len h.nd (ys := PV.rI F.n) fun v hv => mem_rI.mpr (h.rg v hv)
  rw [rI_len] at this
  have := hF.n1
  omega
theorem psl_len {F : Fr} (hF : F.Wf) {S : List Int} (h : SetWf F S) : (psl F S).length ≤ 144 := by
  have h1 : ∀ u, (psl1 F S u).length ≤ 12 := fun u => by
    have := List.length_filter_le (fun v => decide (lb F S v = [u])) (nb F u)
    have l := nodup_len ((nb_pw hF u).imp fun z => by omega) (ys := PV.rI F.n) fun v hv => mem_rI.mpr (nb_rg hF hv)
    rw [rI_len] at l
    have := hF.n1
    unfold psl1
    rw [List.length_map]; omega
  have : ∀ xs : List Int, (xs.flatMap (psl1 F S)).length ≤ xs.length * 12 := fun xs => by
    induction xs with
    | nil => simp
    | cons x xs ih =>
      have := h1 x
      rw [List.flatMap_cons, List.length_append, List.length_cons]; omega
  have := this S
  have := h.len hF
  unfold psl
  omega
theorem Fr.Wf.len {F : Fr} (h : F.Wf) : F.es.length ≤ 144 := by
  have l := nodup_len (xs := F.es) (ys := (PV.rI 12).flatMap fun a => (PV.rI 12).map fun b => (a, b)) (h.pw.imp fun {a b} z e => by subst e; omega) fun e he => by
    have := h.lo e he
    have := h.n1
    rw [List.mem_flatMap]
    exact ⟨e.1, mem_rI.mpr (by omega), List.mem_map.mpr ⟨e.2, mem_rI.mpr (by omega), rfl⟩⟩
  exact Nat.le_trans l (by decide)
noncomputable def Chain (F : Fr) : List Int → List (Int × Int) → List Int → Prop
  | S, [], T => T = S
  | S, p :: ps, T => p ∈ psl F S ∧ Chain F (sAft S p.1 p.2) ps T
theorem Chain.wf {F : Fr} (hF : F.Wf) : ∀ {ps : List (Int × Int)} {S T : List Int}, SetWf F S → Chain F S ps T → SetWf F T
  | [], _, _, h, c => by cases c; exact h
  | _ :: _, _, _, h, ⟨c1, c2⟩ => Chain.wf hF (h.sl hF c1) c2
theorem Chain.app {F : Fr} : ∀ {ps qs : List (Int × Int)} {S T U : List Int}, Chain F S ps T → Chain F T qs U → Chain F S (ps ++ qs) U
  | [], _, _, _, _, c, d => by cases c; exact d
  | _ :: _, _, _, _, _, ⟨c1, c2⟩, d => ⟨c1, Chain.app c2 d⟩
noncomputable def DB (b : Nat) (s : DS) : Prop := (0 ≤ s.cnt ∧ s.cnt ≤ b) ∧ 0 < s.cells.length ∧ s.rests.length = s.cells.length
theorem DB.mono {a b : Nat} {s : DS} (h : DB a s) (l : a ≤ b) : DB b s := ⟨⟨h.1.1, by have := h.1.2; omega⟩, h.2⟩
theorem DB.start (ns : List Int) : DB 0 (stR cellsD ns) := by
  refine ⟨⟨Int.le_refl _, Int.le_refl _⟩, ?_, ?_⟩
  · show 0 < (cellsD ns).length
    unfold cellsD
    cases ns with
    | nil => decide
    | cons n ns => simp
  · show ((cellsD ns).map bigD).length = (cellsD ns).length
    simp
theorem draw_db {fin : Int → DS → Int} {n : Int} {s : DS} {b : Nat} (h1 : 0 < n) (h2 : n < 1073741824) (h : DB b s) (hb : b ≤ 1000000) : ∃ r s', drawR fin [(.dk 0), .sh (.int n)] s = .ok (.v (.int r)) s' ∧ (0 ≤ r ∧ r < n) ∧ DB (b + 1) s' := by
  obtain ⟨⟨c1, c2⟩, c3, c4⟩ := h
  obtain ⟨r, s', q1, q2, q3, q4, q5⟩ := drawR_ok (fin := fin) (n := n) (s := s) ⟨⟨h1, h2⟩, ⟨c1, by omega⟩, c3, c4⟩
  exact ⟨r, s', q1, q2, ⟨by omega, by omega⟩, by omega, by omega⟩
theorem next_ok (k : Nat) {n : Int} {b : Nat} {s : DS} (h1 : 0 < n) (h2 : n < 1000000) (hs : DB b s) (hb : b ≤ 1000000) : FS (PV.runI tb (k + 1) 139 [(.dk 0), .sh (.int n)] s) (fun r s' => ∃ x : Int, r = .v (.int x) ∧ (0 ≤ x ∧ x < n) ∧ DB (b + 1) s') neverF := by
  have e1 : PV.runI tb (k + 1) 139 = drawD := by rw [runI_eq]; rfl
  obtain ⟨r, s', e, q1, q2⟩ := draw_db (fin := fun _ s => mixD2 s * 65537 % 2305843009213693951 / 8) h1 (by omega) hs hb
  have e2 : drawD [(.dk 0), .sh (.int n)] s = _ := e
  rw [e1, e2, FS_ok]
  exact ⟨r, rfl, q1, q2⟩
theorem shuf_ok (k : Nat) (xs : List Int) (hx : xs.length ≤ 100) {b : Nat} {s : DS} (hs : DB b s) (hb : b ≤ 900000) : FS (PV.runI tb (k + 2) 140 [(.dk 0), .sh (.list (xs.map .int))] s) (fun r s' => ∃ ys : List Int, r = .fl (ys.map .int) ∧ ys.Perm xs ∧ DB (b + xs.length) s') neverF := by
  refine F_call (fd := ⟨4, 2, B__law_shuffled⟩) rfl rfl ?_
  unfold B__law_shuffled
  simp! only [X_wh]
  refine RS_wh (fun n m => ∃ (ls ys : List Int) (s' : DS), m = ⟨[(.dk 0), .sh (.list (xs.map .int)), .ol (ls.map .int), .ol (ys.map .int)], s'⟩ ∧ (ys ++ ls).Perm xs ∧ ls.length = n ∧ DB (b + ys.length) s') xs.length ⟨xs, [], s, rfl, List.Perm.refl _, rfl, hs⟩ (by omega) (fun n m hj => ?_)
  obtain ⟨ls, ys, s', rfl, hp, hl, hs'⟩ := hj
  have hl2 := hp.length_eq
  rw [List.length_append] at hl2
  simp! only
  refine ⟨fun h => ?_, fun h => ?_⟩
  · have hne : ls ≠ [] := by simpa using h
    have hpos : 0 < ls.length := List.length_pos_iff.mpr hne
    rw [List.length_map]
    refine (next_ok (k := k) (n := (ls.length : Int)) (by omega) (by omega) hs' (by omega)).use fun r s2 h => ?_
    obtain ⟨x, rfl, ⟨h1, h2⟩, h3⟩ := h
    simp! only
    have hx : x.toNat < ls.length := by omega
    have e : x = ((x.toNat : Nat) : Int) := by omega
    have e2 : L2.ixN ls.length x = some x.toNat := by rw [e]; exact ixN_nat hx
    rw [List.length_map, e2]
    simp! only
    rw [List.getElem?_map, List.getElem?_eq_getElem hx]
    simp! only
    refine ⟨by rw [List.length_map]; simp only [LIM]; omega, ls.length - 1, by omega, ls.eraseIdx x.toNat, ys ++ [ls[x.toNat]], s2, by rw [map_erI]; simp, ?_, by rw [List.length_eraseIdx_of_lt hx], by rw [List.length_append]; exact h3⟩
    refine List.Perm.trans ?_ hp
    rw [List.append_assoc]
    exact List.Perm.append_left _ (erI_perm ls _ hx)
  · have hne : ls = [] := by simpa using h
    subst hne
    rw [List.append_nil] at hp
    exact ⟨ys, rfl, hp, hs'.mono (by rw [hp.length_eq]; exact Nat.le_refl _)⟩
theorem mm_edg (a b : Int) : [PyData.int (if b < a then b else a), .int (if a < b then b else a)] = [.int (edg a b).1, .int (edg a b).2] := by
  unfold edg
  by_cases h : a ≤ b
  · rw [if_pos h, if_neg (by omega)]
    by_cases h2 : a < b
    · rw [if_pos h2]
    · have : a = b := by omega
      subst this
      rw [if_neg h2]
  · rw [if_neg h, if_pos (by omega), if_neg (by omega)]
structure GJ (n : Int) (b : Nat) (done : List Int) (ks : List (Int × Int)) (s : DS) : Prop where
  k : ∀ p ∈ ks, (0 ≤ p.2 ∧ p.2 < p.1 ∧ p.1 < n) ∧ p.1 ∈ done
  up : (ks.map (·.1)).Pairwise (· < ·)
  l : ks.length ≤ done.length
  cb : DB (b + 3 * done.length) s
noncomputable def GM (n le mo kind lack : Int) (ns : List Int) (b : Nat) (done : List Int) (mm : PV.M) : Prop := ∃ (ks : List (Int × Int)) (a4 a9 : PV.Slot) (s : DS), mm = ⟨[(.dk 0), .sh (.int le), .sh (.int mo), .sh (.int n), a4, .ol (ns.map .int), .ol ((eL ns ks).map pr), .sh (.int kind), .sh (.int lack), a9], s⟩ ∧ GJ n b done ks s
theorem forestD_ok (k : Nat) (le mo : Int) (h0 : 0 ≤ le ∧ le ≤ mo) (h1 : mo ≤ 12) {b : Nat} {s : DS} (hs : DB b s) (hb : b ≤ 800000) : FS (PV.runI tb (k + 3) 142 [(.dk 0), .sh (.int le), .sh (.int mo)] s) (fun r s' => ∃ F ns ks, r = .v (Fr.d F) ∧ le ≤ F.n ∧ FWf mo F ns ks ∧ DB (b + 60) s') neverF := by
  refine F_call (fd := ⟨10, 3, B__law_forest⟩) rfl rfl ?_
  unfold B__law_forest
  simp! only
  refine (next_ok (k := k + 1) (n := mo - le + 1) (by omega) (by omega) hs (by omega)).use fun r s1 h => ?_
  obtain ⟨n', rfl, ⟨n0, n1⟩, hs1⟩ := h
  simp! only
  generalize hn : le + n' = n
  have q0 : 0 ≤ n := by omega
  have q1 : n ≤ mo := by omega
  refine ⟨⟨q0, by omega⟩, ?_⟩
  refine (shuf_ok (k := k) (PV.rI n) (by rw [rI_len]; omega) hs1 (by omega)).use fun r s2 h => ?_
  obtain ⟨ns, rfl, hp, hs2⟩ := h
  have hs2 := hs2.mono (b := b + 14) (by rw [rI_len]; omega)
  simp! only
  refine (next_ok (k := k + 1) (n := 4) (by omega) (by omega) hs2 (by omega)).use fun r s3 h => ?_
  obtain ⟨way, rfl, ⟨w0, w1⟩, hs3⟩ := h
  simp! only
  refine (next_ok (k := k + 1) (n := 3) (by omega) (by omega) hs3 (by omega)).use fun r s4 h => ?_
  obtain ⟨lk, rfl, ⟨l0, l1⟩, hs4⟩ := h
  simp! only
  refine OS_pickL (f := .int) [0, 0, 4] rfl l0 (by simp; omega) fun lack _ hlack => ?_
  have hlack : lack = 0 ∨ lack = 4 := by simpa using hlack
  simp! only
  have hnl : ns.length = n.toNat := by rw [hp.length_eq, rI_len]
  refine ⟨⟨B62.of (by omega) (by omega), B62.of (by omega) (by omega)⟩, RS_lop (fun done rest mm => GM n le mo way lack ns (b + 16) done mm) ⟨[], _, _, s4, rfl, ⟨(fun _ z => nomatch z), List.Pairwise.nil, Nat.le_refl _, hs4⟩⟩ (fun _ _ _ _ => trivial) (fun done x rest mm hx hj => ?a) (fun mm hj => ?b)⟩
  case a =>
    obtain ⟨ks, a4, a9, s5, rfl, ⟨hk, hup, hkl, hs5⟩⟩ := hj
    have hx1 : x ∈ rI2 1 n := by rw [hx]; simp
    obtain ⟨x1, x2⟩ := mem_rI2.mp hx1
    have hdl : done.length ≤ 12 := by
      have := congrArg List.length hx
      rw [rI2_len, List.length_append] at this
      simp at this; omega
    have hlt : ∀ y ∈ done, y < x := by
      have h := rI2_pw 1 n
      rw [hx, List.pairwise_append] at h
      exact fun y hy => h.2.2 y hy x List.mem_cons_self
    simp! only
    refine (next_ok (k := k + 1) (n := x) (by omega) (by omega) hs5 (by omega)).use fun r s6 h => ?_
    obtain ⟨c, rfl, ⟨c0, c1⟩, hs6⟩ := h
    simp! only
    refine (next_ok (k := k + 1) (n := 3) (by omega) (by omega) hs6 (by omega)).use fun r s6' h => ?_
    obtain ⟨c2, rfl, ⟨c20, c21⟩, hs6'⟩ := h
    simp! only
    refine OS_pickL [x - 1, 0, c, if 0 < x - 1 - c2 then x - 1 - c2 else 0] rfl w0 (by simp; omega) fun o _ ho => ?_
    have ho' : 0 ≤ o ∧ o < x := by
      simp only [List.mem_cons, List.mem_nil_iff, or_false] at ho
      rcases ho with rfl | rfl | rfl | rfl
      · omega
      · omega
      · omega
      · split <;> omega
    clear ho
    have skip : ∀ {s7 : DS} {a4 a9 : PV.Slot}, DB (b + 16 + 3 * done.length + 3) s7 → GM n le mo way lack ns (b + 16) (done ++ [x]) ⟨[(.dk 0), .sh (.int le), .sh (.int mo), .sh (.int n), a4, .ol (ns.map .int), .ol ((eL ns ks).map pr), .sh (.int way), .sh (.int lack), a9], s7⟩ := fun {s7 a4 a9} h7 =>
      ⟨ks, a4, a9, s7, rfl, ⟨fun p hp => ⟨(hk p hp).1, List.mem_append_left _ (hk p hp).2⟩, hup, by simp; omega, h7.mono (by simp; omega)⟩⟩
    have app : ∀ {s7 : DS} {a4 a9 : PV.Slot}, DB (b + 16 + 3 * done.length + 3) s7 → GM n le mo way lack ns (b + 16) (done ++ [x]) ⟨[(.dk 0), .sh (.int le), .sh (.int mo), .sh (.int n), a4, .ol (ns.map .int), .ol ((eL ns ks).map pr ++ [pr (edg (ns.getD o.toNat 0) (ns.getD x.toNat 0))]), .sh (.int way), .sh (.int lack), a9], s7⟩ := by
      intro s7 a4 a9 h7
      refine ⟨ks ++ [(x, o)], a4, a9, s7, by simp [eL, edg_comm], ⟨fun p hp => ?_, ?_, by simp; omega, h7.mono (by simp; omega)⟩⟩
      · rcases List.mem_append.mp hp with hp | hp
        · exact ⟨(hk p hp).1, List.mem_append_left _ (hk p hp).2⟩
        · rw [List.mem_singleton.mp hp]
          exact ⟨⟨ho'.1, ho'.2, x2⟩, by simp⟩
      · rw [List.map_append, List.pairwise_append]
        refine ⟨hup, by simp, fun a ha b hb => ?_⟩
        obtain ⟨p, hp, rfl⟩ := List.mem_map.mp ha
        simp at hb
        subst hb
        exact hlt _ (hk p hp).2
    simp! only
    refine OS_pick (by omega) (by omega) fun y hy _ => ?_
    simp! only
    refine ⟨fun _ => ?_, fun hl0 => ?_⟩
    · have := trivial
      refine OS_pick (by omega) (by omega) fun z hz _ => ?_
      simp! only
      refine OS_pick (by omega) (by omega) fun z' hz' _ => ?_
      obtain rfl : z = z' := Option.some.inj (hz.symm.trans hz')
      simp! only
      rw [mm_edg]
      refine ⟨by simp only [eL]; rw [List.length_map, List.length_map]; simp only [LIM]; omega, ?_⟩
      have := @app s6' (.sh (.int x)) (.sh (.int y)) (hs6'.mono (by omega))
      rw [getD_of hy, getD_of hz] at this
      exact this
    · refine (next_ok (k := k + 1) (n := lack) (by omega) (by omega) hs6' (by omega)).use fun r s7 h => ?_
      obtain ⟨w, rfl, _, hs7⟩ := h
      simp! only
      refine ⟨fun _ => ?_, fun _ => ?_⟩
      · have := trivial
        refine OS_pick (by omega) (by omega) fun z hz _ => ?_
        simp! only
        refine OS_pick (by omega) (by omega) fun z' hz' _ => ?_
        obtain rfl : z = z' := Option.some.inj (hz.symm.trans hz')
        simp! only
        rw [mm_edg]
        refine ⟨by simp only [eL]; rw [List.length_map, List.length_map]; simp only [LIM]; omega, ?_⟩
        have := @app s7 (.sh (.int x)) (.sh (.int y)) (hs7.mono (by omega))
        rw [getD_of hy, getD_of hz] at this
        exact this
      · exact skip (hs7.mono (by omega))
  case b =>
    obtain ⟨ks, a4, a9, s5, rfl, ⟨hk, hup, hkl, hs5⟩⟩ := hj
    have hdl : (rI2 1 n).length ≤ 12 := by rw [rI2_len]; omega
    simp! only
    refine ⟨⟨n, (eL ns ks).mergeSort leP⟩, ns, ks, rfl, by show le ≤ n; omega, ⟨q0, q1, hp, List.mergeSort_perm _ _, fun p hp => (hk p hp).1, hup, sortP_pw _⟩, hs5.mono (by omega)⟩
/-- all sets of the vertices -/
noncomputable def sub (vs : List Int) : List (List Int) := vs.foldl (fun fs v => fs ++ fs.map (· ++ [v])) [[]]
noncomputable def ind (F : Fr) (S : List Int) : Bool := !(F.es.any fun e => decide (e.1 ∈ S) && decide (e.2 ∈ S))
theorem sub_snoc (vs : List Int) (v : Int) : sub (vs ++ [v]) = sub vs ++ (sub vs).map (· ++ [v]) := by simp [sub, List.foldl_append]
theorem snoc_ind {P : List Int → Prop} (h0 : P []) (h : ∀ vs v, P vs → P (vs ++ [v])) : ∀ vs, P vs := fun vs => by
  rw [← List.reverse_reverse vs]
  induction vs.reverse with
  | nil => exact h0
  | cons x xs ih => rw [List.reverse_cons]; exact h _ _ ih
theorem sub_len : ∀ vs, (sub vs).length = 2 ^ vs.length := snoc_ind rfl fun vs v ih => by
  rw [sub_snoc, List.length_append, List.length_map, ih, List.length_append, List.length_singleton, Nat.pow_succ]; omega
noncomputable def BB (b : Nat) (s : DS) : Prop := (0 ≤ s.cnt ∧ s.cnt ≤ b) ∧ s.cells.length ≤ 1000
theorem BB.mono {a b : Nat} {s : DS} (h : BB a s) (l : a ≤ b) : BB b s := ⟨⟨h.1.1, by have := h.1.2; omega⟩, h.2⟩
theorem BB.start (ns : List Int) : BB 0 ⟨(ns.take 60).map absI, 0, [], []⟩ := ⟨⟨Int.le_refl _, Int.le_refl _⟩, by
  show ((ns.take 60).map absI).length ≤ 1000
  rw [List.length_map, List.length_take]; omega⟩
theorem hasD_t2 (v a b : Int) : hasD (.int v) (.tuple [.int a, .int b]) = some (decide (v ∈ [a, b])) := hasD_tI v [a, b]
noncomputable def nearB (F : Fr) (v : Int) : List Int := (F.es.filter fun e => decide (v ∈ [e.1, e.2])).map fun e => e.1 + e.2 - v
theorem nearB_eq {F : Fr} (hF : F.Wf) (v : Int) : nearB F v = nb F v := by
  refine asc_eq ?_ (nb_pw hF v) fun o => ?_
  · unfold nearB
    rw [List.pairwise_map]
    refine (List.Pairwise.and_mem.mp (hF.pw.filter _)).imp fun {a b} z => ?_
    obtain ⟨z1, z2, z3⟩ := z
    obtain ⟨a1, y1⟩ := List.mem_filter.mp z1
    obtain ⟨b1, y2⟩ := List.mem_filter.mp z2
    have := hF.lo _ a1
    have := hF.lo _ b1
    simp at y1 y2
    omega
  · rw [mem_nb]
    unfold nearB
    rw [List.mem_map]
    constructor
    · rintro ⟨e, he, rfl⟩
      obtain ⟨h1, h2⟩ := List.mem_filter.mp he
      simp at h2
      obtain ⟨a, b⟩ := e
      rcases h2 with h2 | h2
      · subst h2
        right
        have : v + b - v = b := by omega
        show (v, v + b - v) ∈ F.es
        rw [this]; exact h1
      · subst h2
        left
        have : a + v - v = a := by omega
        show (a + v - v, v) ∈ F.es
        rw [this]; exact h1
    · rintro (h | h)
      · exact ⟨(o, v), List.mem_filter.mpr ⟨h, by simp⟩, by show o + v - v = o; omega⟩
      · exact ⟨(v, o), List.mem_filter.mpr ⟨h, by simp⟩, by show v + o - v = o; omega⟩
theorem nearB_ok (k : Nat) (F : Fr) (hF : F.Wf) (v : Int) (s : DS) : PV.runI tb (k + 1) 45 [.sh F.d, .sh (.int v)] s = .ok (.fl ((nb F v).map .int)) s := by
  have hl := hF.len
  refine FS.eq (F_call (fd := ⟨4, 2, B__law_near⟩) rfl rfl ?_)
  unfold B__law_near
  simp! only
  refine ⟨(by simp only [List.length_map, List.length_append, List.length_cons, List.length_nil, LIM]; omega), RS_lc (fun e => decide (v ∈ [e.1, e.2])) (fun e => .int (e.1 + e.2 - v)) trivial (fun x hx => ?a) ?b⟩
  case a => simp! only [hasD_t2]
  case b =>
    have e1 : (F.es.filter fun e => decide (v ∈ [e.1, e.2])).map (fun e => PyData.int (e.1 + e.2 - v)) = (nb F v).map .int := by
      rw [← nearB_eq hF]; unfold nearB; rw [List.map_map]; rfl
    rw [e1]
    simp! only
structure PJ (n : Int) (d : List Int) (ps : List (Option Int)) : Prop where
  l : ps.length = n.toNat
  v : ∀ x ∈ ps, x = none ∨ x = some 0 ∨ x = some 1
  s : ∀ i ∈ d, ∃ j, ps[i.toNat]? = some (some j)
theorem PJ.set {n : Int} {d : List Int} {ps : List (Option Int)} (h : PJ n d ps) {i : Int} (hi : 0 ≤ i ∧ i < n) {j : Int} (hj : j = 0 ∨ j = 1) : PJ n (i :: d) (ps.set i.toNat (some j)) := by
  have hl := h.l
  refine ⟨by rw [List.length_set]; exact hl, fun x hx => ?_, fun k hk => ?_⟩
  · rcases List.mem_or_eq_of_mem_set hx with hx | rfl
    · exact h.v x hx
    · rcases hj with rfl | rfl
      · exact .inr (.inl rfl)
      · exact .inr (.inr rfl)
  · by_cases e : i.toNat = k.toNat
    · exact ⟨j, by rw [← e, List.getElem?_set_self (by omega)]⟩
    · rcases List.mem_cons.mp hk with rfl | hk
      · exact absurd rfl e
      · obtain ⟨y, hy⟩ := h.s k hk
        exact ⟨y, by rw [List.getElem?_set_ne e]; exact hy⟩
theorem PJ.weak {n : Int} {d d' : List Int} {ps : List (Option Int)} (h : PJ n d ps) (l : ∀ i ∈ d', i ∈ d) : PJ n d' ps := ⟨h.l, h.v, fun i hi => h.s i (l i hi)⟩
/-- the exit of a lamp -/
noncomputable def exO (F : Fr) (L : List Int) (l : Int) : Option Int := (nb F l).find? fun v => decide ((lb F L v).length = 1)
/-- the lamps with an exit -/
noncomputable def lv (F : Fr) (L : List Int) : List Int := L.filter fun l => (exO F L l).isSome
theorem mem_sub {T : List Int} : ∀ vs, T.Sublist vs → T ∈ sub vs := fun vs => by
  revert T
  refine snoc_ind (P := fun vs => ∀ {T : List Int}, T.Sublist vs → T ∈ sub vs) ?_ (fun vs v ih => ?_) vs
  · intro T h
    have := List.sublist_nil.mp h
    subst this
    exact List.mem_singleton_self _
  · intro T h
    rw [List.sublist_append_iff] at h
    obtain ⟨a, b, rfl, h1, h2⟩ := h
    rw [sub_snoc, List.mem_append]
    cases b with
    | nil => rw [List.append_nil]; exact .inl (ih h1)
    | cons y ys =>
      have hl := h2.length_le
      have hy : ys = [] := List.eq_nil_of_length_eq_zero (by simpa using hl)
      subst hy
      have : y = v := by simpa using h2.subset List.mem_cons_self
      subst this
      exact .inr (List.mem_map_of_mem (ih h1))
/-- roots -/
structure UFI (n : Int) (done : List (Int × Int)) (r : List Int) : Prop where
  l : r.length = n.toNat
  h : ∀ D : Int → Prop, (∀ e ∈ done, (D e.1 ↔ D e.2)) → ∀ i j : Int, 0 ≤ i → i < n → 0 ≤ j → j < n → r[i.toNat]? = r[j.toNat]? → (D i ↔ D j)
theorem UFI.start (n : Int) : UFI n [] (PV.rI n) := ⟨rI_len, fun D _ i j i0 i1 j0 j1 e => by
  have g : ∀ i : Int, 0 ≤ i → i < n → (PV.rI n)[i.toNat]? = some i := fun i h0 h1 => by
    unfold PV.rI
    rw [List.getElem?_map, List.getElem?_range (by omega)]
    show some ((i.toNat : Nat) : Int) = some i
    congr 1; omega
  rw [g i i0 i1, g j j0 j1] at e
  rw [Option.some.inj e]⟩
theorem UFI.step {n : Int} {done : List (Int × Int)} {r : List Int} (u : UFI n done r) {e : Int × Int} (h1 : 0 ≤ e.1 ∧ e.1 < n) (h2 : 0 ≤ e.2 ∧ e.2 < n) {f s : Int} (hf : r[e.1.toNat]? = some f) (hs : r[e.2.toNat]? = some s) : UFI n (done ++ [e]) (r.map fun x => if x = s then f else x) := by
  refine ⟨by rw [List.length_map]; exact u.l, fun D hD i j i0 i1 j0 j1 z => ?_⟩
  have hd : ∀ e ∈ done, (D e.1 ↔ D e.2) := fun e he => hD e (List.mem_append_left _ he)
  have he : D e.1 ↔ D e.2 := hD e (List.mem_append_right _ (List.mem_singleton_self _))
  have hl := u.l
  have gi : r[i.toNat]? = some r[i.toNat] := List.getElem?_eq_getElem (by omega)
  have gj : r[j.toNat]? = some r[j.toNat] := List.getElem?_eq_getElem (by omega)
  rw [List.getElem?_map, List.getElem?_map, gi, gj] at z
  simp only [Option.map_some, Option.some.injEq] at z
  generalize r[i.toNat] = x at gi z
  generalize r[j.toNat] = y at gj z
  have U := u.h D hd
  by_cases hx : x = s
  · by_cases hy : y = s
    · exact U i j i0 i1 j0 j1 (by rw [gi, gj, hx, hy])
    · rw [if_pos hx, if_neg hy] at z
      have e1 := U i e.2 i0 i1 h2.1 h2.2 (by rw [gi, hs, hx])
      have e2 := U j e.1 j0 j1 h1.1 h1.2 (by rw [gj, hf, z])
      exact e1.trans (he.symm.trans e2.symm)
  · by_cases hy : y = s
    · rw [if_neg hx, if_pos hy] at z
      have e1 := U j e.2 j0 j1 h2.1 h2.2 (by rw [gj, hs, hy])
      have e2 := U i e.1 i0 i1 h1.1 h1.2 (by rw [gi, hf, z])
      exact e2.trans (he.trans e1.symm)
    · rw [if_neg hx, if_neg hy] at z
      exact U i j i0 i1 j0 j1 (by rw [gi, gj, z])
noncomputable def vis1 (k : Int) (here : List Int) (p : List (List Int × Int) × List (List Int)) (q : Int × Int) : List (List Int × Int) × List (List Int) :=
  if sAft here q.1 q.2 ∈ p.1.map (·.1) then p else (p.1 ++ [(sAft here q.1 q.2, k + 1)], p.2 ++ [sAft here q.1 q.2])
noncomputable def visH (F : Fr) (k : Int) (p : List (List Int × Int) × List (List Int)) (here : List Int) : List (List Int × Int) × List (List Int) := (psl F here).foldl (vis1 k here) p
noncomputable def visL (F : Fr) (k : Int) (st : List (List Int × Int)) (lev : List (List Int)) : List (List Int × Int) × List (List Int) := lev.foldl (visH F k) (st, [])
inductive Bfs (F : Fr) : Nat → Int → List (List Int × Int) → List (List Int) → List (List Int × Int) → Prop
  | stop {k : Int} {st : List (List Int × Int)} : Bfs F 0 k st [] st
  | step {n : Nat} {k : Int} {st : List (List Int × Int)} {lev : List (List Int)} {out : List (List Int × Int)} : lev ≠ [] → Bfs F n (k + 1) (visL F k st lev).1 (visL F k st lev).2 out → Bfs F (n + 1) k st lev out
structure BI (F : Fr) (l : Nat) (k : Int) (st : List (List Int × Int)) (lev : List (List Int)) : Prop where
  wf : ∀ p ∈ st, SetWf F p.1 ∧ p.1.length = l
  nd : (st.map (·.1)).Nodup
  lv : ∀ h ∈ lev, (h, k) ∈ st
  ll : lev.length ≤ st.length
theorem sAft_len {S : List Int} {u v : Int} : (sAft S u v).length = S.length := by
  unfold sAft
  rw [List.length_mergeSort, List.length_map]
theorem vis1_ok {F : Fr} (hF : F.Wf) {l : Nat} {k : Int} {here : List Int} (hh : SetWf F here) (hl : here.length = l) {q : Int × Int} (hq : q ∈ psl F here) {p : List (List Int × Int) × List (List Int)} (b : BI F l (k + 1) p.1 p.2) :
    BI F l (k + 1) (vis1 k here p q).1 (vis1 k here p q).2 ∧ ∃ add, (vis1 k here p q).1 = p.1 ++ add ∧ (vis1 k here p q).2.length = p.2.length + add.length := by
  unfold vis1
  split
  · exact ⟨b, [], by simp, rfl⟩
  · rename_i hn
    refine ⟨⟨fun r hr => ?_, ?_, fun h hm => ?_, ?_⟩, [_], rfl, by simp⟩
    · rcases List.mem_append.mp hr with hr | hr
      · exact b.wf r hr
      · rw [List.mem_singleton.mp hr]
        exact ⟨hh.sl hF hq, by rw [sAft_len]; exact hl⟩
    · rw [List.map_append, List.Nodup, List.pairwise_append]
      refine ⟨b.nd, by simp, fun a ha c hc e => ?_⟩
      have hc : c = sAft here q.1 q.2 := by simpa using hc
      rw [e, hc] at ha
      exact hn ha
    · rcases List.mem_append.mp hm with hm | hm
      · exact List.mem_append_left _ (b.lv h hm)
      · rw [List.mem_singleton.mp hm]; simp
    · have := b.ll
      rw [List.length_append, List.length_append, List.length_singleton, List.length_singleton]; omega
theorem visQ_ok {F : Fr} (hF : F.Wf) {l : Nat} {k : Int} {here : List Int} (hh : SetWf F here) (hl : here.length = l) : ∀ (qs : List (Int × Int)), (∀ q ∈ qs, q ∈ psl F here) → ∀ (p : List (List Int × Int) × List (List Int)), BI F l (k + 1) p.1 p.2 →
    BI F l (k + 1) (qs.foldl (vis1 k here) p).1 (qs.foldl (vis1 k here) p).2 ∧ ∃ add, (qs.foldl (vis1 k here) p).1 = p.1 ++ add ∧ (qs.foldl (vis1 k here) p).2.length = p.2.length + add.length
  | [], _, p, b => ⟨b, [], by simp, rfl⟩
  | q :: qs, hq, p, b => by
    obtain ⟨b1, a1, e1, f1⟩ := vis1_ok hF hh hl (hq q List.mem_cons_self) b
    obtain ⟨b2, a2, e2, f2⟩ := visQ_ok hF hh hl qs (fun r hr => hq r (List.mem_cons_of_mem _ hr)) _ b1
    exact ⟨b2, a1 ++ a2, by rw [List.foldl_cons, e2, e1, List.append_assoc], by rw [List.foldl_cons, f2, f1, List.length_append]; omega⟩
theorem visH_ok {F : Fr} (hF : F.Wf) {l : Nat} {k : Int} {here : List Int} (hh : SetWf F here) (hl : here.length = l) (p : List (List Int × Int) × List (List Int)) (b : BI F l (k + 1) p.1 p.2) :
    BI F l (k + 1) (visH F k p here).1 (visH F k p here).2 ∧ ∃ add, (visH F k p here).1 = p.1 ++ add ∧ (visH F k p here).2.length = p.2.length + add.length := visQ_ok hF hh hl _ (fun _ z => z) p b
theorem visF_ok {F : Fr} (hF : F.Wf) {l : Nat} {k : Int} : ∀ (lev : List (List Int)), (∀ h ∈ lev, SetWf F h ∧ h.length = l) → ∀ (p : List (List Int × Int) × List (List Int)), BI F l (k + 1) p.1 p.2 →
    BI F l (k + 1) (lev.foldl (visH F k) p).1 (lev.foldl (visH F k) p).2 ∧ ∃ add, (lev.foldl (visH F k) p).1 = p.1 ++ add ∧ (lev.foldl (visH F k) p).2.length = p.2.length + add.length
  | [], _, p, b => ⟨b, [], by simp, rfl⟩
  | h :: lev, hq, p, b => by
    obtain ⟨z1, z2⟩ := hq h List.mem_cons_self
    obtain ⟨b1, a1, e1, f1⟩ := visH_ok hF z1 z2 p b
    obtain ⟨b2, a2, e2, f2⟩ := visF_ok hF lev (fun r hr => hq r (List.mem_cons_of_mem _ hr)) _ b1
    exact ⟨b2, a1 ++ a2, by rw [List.foldl_cons, e2, e1, List.append_assoc], by rw [List.foldl_cons, f2, f1, List.length_append]; omega⟩
theorem BI.lvw {F : Fr} {l : Nat} {k : Int} {st : List (List Int × Int)} {lev : List (List Int)} (b : BI F l k st lev) : ∀ h ∈ lev, SetWf F h ∧ h.length = l := fun h hh => b.wf _ (b.lv h hh)
theorem visL_ok {F : Fr} (hF : F.Wf) {l : Nat} {k : Int} {st : List (List Int × Int)} {lev : List (List Int)} (b : BI F l k st lev) :
    BI F l (k + 1) (visL F k st lev).1 (visL F k st lev).2 ∧ ∃ add, (visL F k st lev).1 = st ++ add ∧ (visL F k st lev).2.length = add.length := by
  obtain ⟨b2, add, e1, e2⟩ := visF_ok (k := k) hF lev b.lvw (st, []) ⟨b.wf, b.nd, (fun _ z => nomatch z), Nat.zero_le _⟩
  exact ⟨b2, add, e1, by rw [show (visL F k st lev).2 = (lev.foldl (visH F k) (st, [])).2 from rfl, e2]; simp⟩
/-- a setting is a part of all vertices -/
theorem asc_sub : ∀ {ys xs : List Int}, xs.Pairwise (· < ·) → ys.Pairwise (· < ·) → (∀ x ∈ xs, x ∈ ys) → xs.Sublist ys
  | [], xs, _, _, h => by
    cases xs with
    | nil => exact List.Sublist.refl _
    | cons x _ => exact nomatch h x List.mem_cons_self
  | y :: ys, [], _, _, _ => List.nil_sublist _
  | y :: ys, x :: xs, hx, hy, h => by
    obtain ⟨x1, x2⟩ := List.pairwise_cons.mp hx
    obtain ⟨y1, y2⟩ := List.pairwise_cons.mp hy
    by_cases e : x = y
    · subst e
      refine List.Sublist.cons₂ x (asc_sub x2 y2 fun z hz => ?_)
      rcases List.mem_cons.mp (h z (List.mem_cons_of_mem _ hz)) with e | h
      · have := x1 z hz; omega
      · exact h
    · refine List.Sublist.cons y (asc_sub hx y2 fun z hz => ?_)
      rcases List.mem_cons.mp (h z hz) with e2 | h2
      · have hxy : x ∈ ys := by
          rcases List.mem_cons.mp (h x List.mem_cons_self) with e3 | h3
          · exact absurd e3 e
          · exact h3
        have := y1 x hxy
        rcases List.mem_cons.mp hz with e3 | h3
        · omega
        · have := x1 z h3
          omega
      · exact h2
theorem SetWf.inSub {F : Fr} {S : List Int} (h : SetWf F S) : S ∈ sub (PV.rI F.n) := mem_sub _ (asc_sub h.pw (rI_pw F.n) fun x hx => mem_rI.mpr (h.rg x hx))
theorem BI.len {F : Fr} {l : Nat} {k : Int} {st : List (List Int × Int)} {lev : List (List Int)} (b : BI F l k st lev) : st.length ≤ 2 ^ F.n.toNat := by
  have := nodup_len b.nd (ys := sub (PV.rI F.n)) fun x hx => by
    obtain ⟨p, hp, rfl⟩ := List.mem_map.mp hx
    exact (b.wf p hp).1.inSub
  rw [List.length_map, sub_len, rI_len] at this
  exact this
theorem pow_le {n : Nat} (h : n ≤ 12) : 2 ^ n ≤ 4096 := Nat.pow_le_pow_right (n := 2) (by omega) h
theorem BI.len' {F : Fr} (hF : F.Wf) {l : Nat} {k : Int} {st : List (List Int × Int)} {lev : List (List Int)} (b : BI F l k st lev) : st.length ≤ 4096 := by
  have h1 := b.len
  have n1 := hF.n1
  have := pow_le (n := F.n.toNat) (by omega)
  omega
theorem bfs_ex {F : Fr} (hF : F.Wf) {l : Nat} : ∀ (c : Nat) (k : Int) (st : List (List Int × Int)) (lev : List (List Int)), 4096 - st.length ≤ c → BI F l k st lev → ∃ n out k', n ≤ c + 1 ∧ Bfs F n k st lev out ∧ BI F l k' out [] ∧ ∃ add, out = st ++ add
  | c, k, st, [], _, b => ⟨0, st, k, by omega, .stop, b, [], by simp⟩
  | 0, k, st, h :: lev, hc, b => by
    obtain ⟨b1, add, e1, e2⟩ := visL_ok hF b
    have h1 := b1.len' hF
    rw [e1, List.length_append] at h1
    have : add = [] := List.eq_nil_of_length_eq_zero (by omega)
    subst this
    have e3 : (visL F k st (h :: lev)).2 = [] := List.eq_nil_of_length_eq_zero e2
    refine ⟨1, st, k + 1, by omega, .step (by simp) ?_, ⟨b.wf, b.nd, (fun _ z => nomatch z), Nat.zero_le _⟩, [], by simp⟩
    rw [e3, e1, List.append_nil]
    exact .stop
  | c + 1, k, st, h :: lev, hc, b => by
    obtain ⟨b1, add, e1, e2⟩ := visL_ok hF b
    by_cases ha : add = []
    · subst ha
      have e3 : (visL F k st (h :: lev)).2 = [] := List.eq_nil_of_length_eq_zero e2
      refine ⟨1, st, k + 1, by omega, .step (by simp) ?_, ⟨b.wf, b.nd, (fun _ z => nomatch z), Nat.zero_le _⟩, [], by simp⟩
      rw [e3, e1, List.append_nil]
      exact .stop
    · have := List.length_pos_iff.mpr ha
      obtain ⟨n, out, k', hn, hb, hi, add', e4⟩ := bfs_ex hF c (k + 1) _ _ (by rw [e1, List.length_append]; omega) b1
      exact ⟨n + 1, out, k', by omega, .step (by simp) hb, hi, add ++ add', by rw [e4, e1, List.append_assoc]⟩
theorem Bfs.det {F : Fr} {n m : Nat} {k : Int} {st : List (List Int × Int)} {lev : List (List Int)} {out out' : List (List Int × Int)} (h : Bfs F n k st lev out) (h' : Bfs F m k st lev out') : n = m ∧ out = out' := by
  induction h generalizing m out' with
  | stop =>
    cases h' with
    | stop => exact ⟨rfl, rfl⟩
    | step hne _ => exact absurd rfl hne
  | step hne _ ih =>
    cases h' with
    | stop => exact absurd rfl hne
    | step _ h2 =>
      obtain ⟨e1, e2⟩ := ih h2
      exact ⟨by rw [e1], e2⟩
/-- a dict from each setting that is reached to the least number of slides -/
noncomputable def stp (F : Fr) (S : List Int) : List (List Int × Int) := open Classical in if h : ∃ out n, Bfs F n 0 [(S, 0)] [S] out then h.choose else []
theorem BI.one {F : Fr} {S : List Int} (h : SetWf F S) : BI F S.length 0 [(S, 0)] [S] := ⟨fun p hp => by rw [List.mem_singleton.mp hp]; exact ⟨h, rfl⟩, by simp, (fun x hx => by rw [List.mem_singleton.mp hx]; simp), Nat.le_refl _⟩
theorem stp_bfs {F : Fr} (hF : F.Wf) {S : List Int} (h : SetWf F S) : ∃ n, n ≤ 5000 ∧ Bfs F n 0 [(S, 0)] [S] (stp F S) := by
  obtain ⟨n, out, k', hn, hb, hi, add, e⟩ := bfs_ex hF 4096 0 _ _ (by omega) (BI.one h)
  have hx : ∃ out n, Bfs F n 0 [(S, 0)] [S] out := ⟨out, n, hb⟩
  unfold stp
  rw [dif_pos hx]
  obtain ⟨m, hm⟩ := hx.choose_spec
  obtain ⟨e1, _⟩ := hb.det hm
  exact ⟨m, by omega, hm⟩
theorem stp_bi {F : Fr} (hF : F.Wf) {S : List Int} (h : SetWf F S) : (∃ k, BI F S.length k (stp F S) []) ∧ ∃ add, stp F S = (S, 0) :: add := by
  obtain ⟨n, out, k', hn, hb, hi, add, e⟩ := bfs_ex hF 4096 0 _ _ (by omega) (BI.one h)
  obtain ⟨m, _, hm⟩ := stp_bfs hF h
  obtain ⟨_, e2⟩ := hb.det hm
  rw [← e2]
  exact ⟨⟨k', hi⟩, add, e⟩
theorem eqvAll_nilT (xs : List (List Int)) : neD [.list (xs.map tuI), .list []] = some (.v (.bool (!decide (xs = [])))) := by
  have h : Sp 2 (.list (xs.map tuI)) := Sp.list fun d hd => by obtain ⟨i, _, rfl⟩ := List.mem_map.mp hd; exact Sp.tuI
  rw [neD_nil h (by decide)]
  congr 4
  cases xs <;> simp
noncomputable abbrev bfsC : T := (.e (.op .ne (.cons (.x 3) (.cons (.lst .nil) .nil))))
noncomputable abbrev bfsB (cs ca : Nat) : Ss := (.cons (.set (.nm 4) (.lst .nil)) (.cons (.lop (.nm 5) (.e (.x 3)) (.cons (.lop (.tp (.cons (.nm 6) (.cons (.nm 7) .nil))) (.e (.call cs (.cons (.x 0) (.cons (.x 5) .nil)))) (.cons (.set (.nm 8) (.call ca (.cons (.x 5) (.cons (.x 6) (.cons (.x 7) .nil))))) (.cons (.ite (.e (.op .notin (.cons (.x 8) (.cons (.x 2) .nil)))) (.cons (.sub 2 (.x 8) (.op .add (.cons (.op .idx (.cons (.x 2) (.cons (.x 5) .nil))) (.cons (.c (.int 1)) .nil)))) (.cons (.ex (.mut .app 4 (.cons (.x 8) .nil))) .nil)) .nil) .nil))) .nil)) (.cons (.set (.nm 3) (.x 4)) .nil)))
theorem bfs_wh {cl : Nat → List PV.Arg → DS → FRes} {cs ca : Nat} (F : Fr) (hF : F.Wf) (S : List Int) (hS : SetWf F S) (s : DS)
    (hcs : ∀ T, SetWf F T → cl cs [.sh F.d, .sh (.tuple (T.map .int))] s = .ok (.v (.tuple ((psl F T).map pr))) s ∨ cl cs [.sh F.d, .sh (.tuple (T.map .int))] s = .ok (.fl ((psl F T).map pr)) s)
    (hca : ∀ T u v, SetWf F T → (u, v) ∈ psl F T → cl ca [.sh (.tuple (T.map .int)), .sh (.int u), .sh (.int v)] s = .ok (.v (.tuple ((sAft T u v).map .int))) s)
    {Q : PV.Flow → PV.M → Prop} {E : Nat → Option PyData → PV.M → Prop} (d0 : PyData) (a4 : PV.Slot) (hQ : ∀ a3 a4 a5 a6 a7 a8, Q .nx ⟨[.sh F.d, .sh d0, .od true ((stp F S).map (enP tuI .int)), a3, a4, a5, a6, a7, a8], s⟩) :
    RS (whL (fun m => evT cl bfsC m) (fun m => exs cl (bfsB cs ca) m) 100000 ⟨[.sh F.d, .sh d0, .od true [(tuI S, .int 0)], .ol [tuI S], a4, .un, .un, .un, .un], s⟩) Q E := by
  obtain ⟨n0, hn0, hb0⟩ := stp_bfs hF hS
  refine RS_wh (fun n m => ∃ (k : Int) (st : List (List Int × Int)) (lev : List (List Int)) (a3 a4 a5 a6 a7 a8 : PV.Slot), m = ⟨[.sh F.d, .sh d0, .od true (st.map (enP tuI .int)), a3, a4, a5, a6, a7, a8], s⟩ ∧ (a3 = .ol (lev.map tuI) ∨ a3 = .sh (.list (lev.map tuI))) ∧ BI F S.length k st lev ∧ Bfs F n k st lev (stp F S)) n0
    ⟨0, [(S, 0)], [S], _, _, _, _, _, _, rfl, .inl rfl, BI.one hS, hb0⟩ (by omega) (fun n m hj => ?_)
  obtain ⟨k, st, lev, a3, a4, a5, a6, a7, a8, rfl, ha3, hbi, hb⟩ := hj
  have hc : RS (evT cl bfsC ⟨[.sh F.d, .sh d0, .od true (st.map (enP tuI .int)), a3, a4, a5, a6, a7, a8], s⟩) (fun z m1 => z = !decide (lev = []) ∧ m1 = ⟨[.sh F.d, .sh d0, .od true (st.map (enP tuI .int)), a3, a4, a5, a6, a7, a8], s⟩) (fun _ _ _ => False) := by
    rcases ha3 with rfl | rfl <;> simp! only [eqvAll_nilT]
  obtain ⟨z, m1, e1, rfl, rfl⟩ := hc.ex
  rw [e1, RS_ok]
  refine ⟨fun hz => ?_, fun hz => ?_⟩
  rotate_left
  · have hl : lev = [] := by simpa using hz
    subst hl
    cases hb with
    | stop => exact hQ _ _ _ _ _ _
    | step hne _ => exact absurd rfl hne
  · have hne : lev ≠ [] := by simpa using hz
    cases hb with
    | stop => exact absurd rfl hne
    | @step n' _ _ _ _ _ hb =>
    have hlen := hbi.len' hF
    have key : ∀ {src : Src}, (∀ (x4 x5 x6 x7 x8 : PV.Slot) st', srcOk ⟨[.sh F.d, .sh d0, .od true st', a3, x4, x5, x6, x7, x8], s⟩ src) → RS (lopL src (bdS cl (.nm 5) (.cons (.lop (.tp (.cons (.nm 6) (.cons (.nm 7) .nil))) (.e (.call cs (.cons (.x 0) (.cons (.x 5) .nil)))) (.cons (.set (.nm 8) (.call ca (.cons (.x 5) (.cons (.x 6) (.cons (.x 7) .nil))))) (.cons (.ite (.e (.op .notin (.cons (.x 8) (.cons (.x 2) .nil)))) (.cons (.sub 2 (.x 8) (.op .add (.cons (.op .idx (.cons (.x 2) (.cons (.x 5) .nil))) (.cons (.c (.int 1)) .nil)))) (.cons (.ex (.mut .app 4 (.cons (.x 8) .nil))) .nil)) .nil) .nil))) .nil)) (lev.map tuI) ⟨[.sh F.d, .sh d0, .od true (st.map (enP tuI .int)), a3, .ol [], a5, a6, a7, a8], s⟩)
        (fun fl m2 => fl = .nx ∧ ∃ x5 x6 x7 x8, m2 = ⟨[.sh F.d, .sh d0, .od true ((visL F k st lev).1.map (enP tuI .int)), a3, .ol ((visL F k st lev).2.map tuI), x5, x6, x7, x8], s⟩) E := by
      intro src hsrc
      refine RS_lop (enc := tuI) (fun done rest m => ∃ (x5 x6 x7 x8 : PV.Slot), m = ⟨[.sh F.d, .sh d0, .od true ((visL F k st done).1.map (enP tuI .int)), a3, .ol ((visL F k st done).2.map tuI), x5, x6, x7, x8], s⟩) ⟨_, _, _, _, rfl⟩ (fun _ _ m hj => by obtain ⟨x5, x6, x7, x8, rfl⟩ := hj; exact hsrc _ _ _ _ _ _) (fun done here rest m hv hj => ?a) (fun m hj => ?b)
      case b => obtain ⟨x5, x6, x7, x8, rfl⟩ := hj; exact ⟨rfl, _, _, _, _, rfl⟩
      case a =>
        obtain ⟨x5, x6, x7, x8, rfl⟩ := hj
        have hhm : here ∈ lev := by rw [hv]; simp
        obtain ⟨hw, hwl⟩ := hbi.lvw here hhm
        have hdone : ∀ h ∈ done, SetWf F h ∧ h.length = S.length := fun h hh => hbi.lvw h (by rw [hv]; exact List.mem_append_left _ hh)
        obtain ⟨bd, addd, ed, _⟩ := visF_ok (k := k) hF done hdone (st, []) ⟨hbi.wf, hbi.nd, (fun _ z => nomatch z), Nat.zero_le _⟩
        have hkst : (here, k) ∈ (visL F k st done).1 := by
          show (here, k) ∈ (done.foldl (visH F k) (st, [])).1
          rw [ed]
          exact List.mem_append_left _ (hbi.lv here hhm)
        have ev : visL F k st (done ++ [here]) = visH F k (visL F k st done) here := by unfold visL; rw [List.foldl_append]; rfl
        have bd : BI F S.length (k + 1) (visL F k st done).1 (visL F k st done).2 := bd
        generalize visL F k st done = P at hkst ev bd
        have inner : ∀ {src : Src}, src = none → RS (lopL src (bdS cl (.tp (.cons (.nm 6) (.cons (.nm 7) .nil))) (.cons (.set (.nm 8) (.call ca (.cons (.x 5) (.cons (.x 6) (.cons (.x 7) .nil))))) (.cons (.ite (.e (.op .notin (.cons (.x 8) (.cons (.x 2) .nil)))) (.cons (.sub 2 (.x 8) (.op .add (.cons (.op .idx (.cons (.x 2) (.cons (.x 5) .nil))) (.cons (.c (.int 1)) .nil)))) (.cons (.ex (.mut .app 4 (.cons (.x 8) .nil))) .nil)) .nil) .nil))) ((psl F here).map pr) ⟨[.sh F.d, .sh d0, .od true (P.1.map (enP tuI .int)), a3, .ol (P.2.map tuI), .sh (.tuple (here.map .int)), x6, x7, x8], s⟩)
            (fun fl m2 => fl = .nx ∧ ∃ x6 x7 x8, m2 = ⟨[.sh F.d, .sh d0, .od true ((visH F k P here).1.map (enP tuI .int)), a3, .ol ((visH F k P here).2.map tuI), .sh (.tuple (here.map .int)), x6, x7, x8], s⟩) E := by
          intro src hsr
          subst hsr
          refine RS_lop (fun d2 r2 m => ∃ (x6 x7 x8 : PV.Slot), m = ⟨[.sh F.d, .sh d0, .od true ((d2.foldl (vis1 k here) P).1.map (enP tuI .int)), a3, .ol ((d2.foldl (vis1 k here) P).2.map tuI), .sh (.tuple (here.map .int)), x6, x7, x8], s⟩) ⟨_, _, _, rfl⟩ (fun _ _ _ _ => trivial) (fun d2 q r2 m hq hj => ?c) (fun m hj => ?d)
          case d => obtain ⟨x6, x7, x8, rfl⟩ := hj; exact ⟨rfl, _, _, _, rfl⟩
          case c =>
            obtain ⟨x6, x7, x8, rfl⟩ := hj
            have hqm : q ∈ psl F here := by rw [hq]; simp
            obtain ⟨b2, add2, e2, _⟩ := visQ_ok (k := k) hF hw hwl d2 (fun r hr => by rw [hq]; exact List.mem_append_left _ hr) P bd
            have hk2 : (here, k) ∈ (d2.foldl (vis1 k here) P).1 := by rw [e2]; exact List.mem_append_left _ hkst
            have ev2 : (d2 ++ [q]).foldl (vis1 k here) P = vis1 k here (d2.foldl (vis1 k here) P) q := by rw [List.foldl_append]; rfl
            generalize d2.foldl (vis1 k here) P = P2 at b2 hk2 ev2
            have hl2 := b2.len' hF
            have hfl := b2.ll
            have hg : aget P2.1 here = some k := aget_of b2.nd hk2
            have hca' := hca here q.1 q.2 hw hqm
            simp! only [hca', pnin_tI]
            refine ⟨fun hn => ?_, fun hn => ?_⟩
            · have hn' : sAft here q.1 q.2 ∉ P2.1.map (·.1) := by simpa using hn
              simp! only [opE_idxp, pidx_tI hg]
              have e4 : putD (P2.1.map (enP tuI .int)) (.tuple ((sAft here q.1 q.2).map .int)) (.int (k + 1)) = (P2.1 ++ [(sAft here q.1 q.2, k + 1)]).map (enP tuI .int) := putD_new tuI_inj (aget_none.mpr hn')
              refine OS.of (if_pos ⟨by rw [toKeys_ints]; rfl, by rw [List.length_map]; simp only [LIM]; omega⟩) ?_
              rw [e4]
              simp! only
              refine ⟨by rw [List.length_map]; simp only [LIM]; omega, .sh (.int q.1), .sh (.int q.2), .sh (.tuple ((sAft here q.1 q.2).map .int)), ?_⟩
              rw [ev2]
              unfold vis1
              rw [if_neg hn']
              simp only [List.map_append]
              rfl
            · have hn' : sAft here q.1 q.2 ∈ P2.1.map (·.1) := by simpa using hn
              refine ⟨.sh (.int q.1), .sh (.int q.2), .sh (.tuple ((sAft here q.1 q.2).map .int)), ?_⟩
              rw [ev2]
              unfold vis1
              rw [if_pos hn']
        rcases hcs here hw with h1 | h1
        · simp! only [h1]
          refine (inner rfl).imp fun fl m2 h => ?_
          obtain ⟨rfl, x6, x7, x8, rfl⟩ := h
          simp! only
          exact ⟨_, _, _, _, by rw [ev]⟩
        · simp! only [h1]
          refine (inner rfl).imp fun fl m2 h => ?_
          obtain ⟨rfl, x6, x7, x8, rfl⟩ := h
          simp! only
          exact ⟨_, _, _, _, by rw [ev]⟩
    obtain ⟨b1, _⟩ := visL_ok hF hbi
    rcases ha3 with rfl | rfl
    · simp! only
      refine ⟨rfl, (key (src := some (3, lev.map tuI)) fun _ _ _ _ _ _ => rfl).imp fun fl m2 h => ?_⟩
      obtain ⟨rfl, x6, x7, x8, x9, rfl⟩ := h
      simp! only
      exact ⟨n', by omega, k + 1, _, _, _, _, _, _, _, _, rfl, .inr rfl, b1, hb⟩
    · simp! only
      refine (key (src := none) fun _ _ _ _ _ _ => trivial).imp fun fl m2 h => ?_
      obtain ⟨rfl, x6, x7, x8, x9, rfl⟩ := h
      simp! only
      exact ⟨n', by omega, k + 1, _, _, _, _, _, _, _, _, rfl, .inr rfl, b1, hb⟩
theorem sortedD_stp {F : Fr} (hF : F.Wf) {S : List Int} (h : SetWf F S) : sortedD [.dict ((stp F S).map (enP tuI .int))] = some (.fl ((((stp F S).map (·.1)).mergeSort leL).map tuI)) := by
  obtain ⟨⟨k, b⟩, add, e⟩ := stp_bi hF h
  have hl := b.len' hF
  refine sortedD_tI (by rw [e]; simp) (by simp only [LIM]; omega) ?_
  by_cases hS : S = []
  · subst hS
    right
    have := nodup_len b.nd (ys := [[]]) fun x hx => by
      obtain ⟨p, hp, rfl⟩ := List.mem_map.mp hx
      have := List.eq_nil_of_length_eq_zero (b.wf p hp).2
      rw [this]; simp
    simpa using this
  · left
    intro p hp z
    have := (b.wf p hp).2
    rw [z] at this
    exact hS (List.eq_nil_of_length_eq_zero this.symm)
/-- the class, in ascending order -/
noncomputable def cls (F : Fr) (S : List Int) : List (List Int) := ((stp F S).map (·.1)).mergeSort leL
theorem steps_ok (k : Nat) (F : Fr) (hF : F.Wf) (S : List Int) (hS : SetWf F S) (s : DS) : PV.runI tb (k + 4) 138 [.sh F.d, .sh (.tuple (S.map .int))] s = .ok (.fd true ((stp F S).map (enP tuI .int))) s := by
  have hel := hF.len
  refine FS.eq (F_call (fd := ⟨9, 2, B_steps_from⟩) rfl rfl ?_)
  unfold B_steps_from
  simp only [X_wh, keyOk_tI, PV.truth_none, PV.truth_bool, PV.truth_int, PV.truth_str, PV.truth_list, PV.truth_tuple, PV.truth_dict, PV.strFits_none, PV.strFits_bool, PV.strFits_int, PV.strFits_str, PV.strFits_list, PV.strFits_tuple, PV.strFits_dict, PV.slR_sh, PV.slR_ol, PV.slR_od, PV.slR_dk, PV.vOf_v, PV.bOf_b, PV.noPD_v, PV.noPD_fl, PV.noPD_fd, PV.deref_v, PV.deref_fl, PV.deref_fd, PV.slotD_ol, PV.slotD_od, PV.slotD_sh, PV.derefs_nil, PV.derefs_c, PV.esc_v, PV.esc_fl, PV.esc_fd, PV.esc_pl, PV.escS_ol, PV.escS_od, PV.escS_sh, PV.escs_nil, PV.escs_c, PV.toArgs_nil, PV.toArgs_dk, PV.toArgs_v, PV.toArgs_fl, PV.toArgs_fd, PV.toArgs_pl, PV.setR_v, PV.setR_fl, PV.setR_fd, PV.setR_dk, PV.setR_pl, PV.setRs_nil, PV.setRs_c, PV.items_l, PV.items_t, PV.items_fl, PV.items_pl, PV.itS_ol, PV.itS_sh, PV.isOwn_ol, PV.isOwn_od, PV.isOwn_sh, PV.isOwn_un, PV.isOwn_dk, PV.isOwn_no, PV.olAt_ol, PV.finS_ol, PV.finS_od, PV.finS_sh, PV.zipR_tt, PV.zipR_ll, PV.zipR_ff, PV.zipR_lf, PV.zipR_fl, PV.zipL_ll, PV.zipL_ff, PV.zipL_lf, PV.zipL_fl, PV.noPl_nil, PV.noPl_v, PV.noPl_fl, PV.noPl_fd, PV.noPl_dk, PV.hasPl_nil, PV.hasPl_v, PV.hasPl_fl, PV.hasPl_fd, PV.hasPl_dk, PV.hasPl_pl, PV.flatR_v, PV.bind1_nm, PV.bind1_tp, PV.bind1_tl, PV.bindL_nil, PV.bindL_c, PV.deref_pl, PV.eq_str, PV.ne_str, PV.flat_b, PV.flat_i, PV.flat_s, PV.flat_n, PV.V_c, PV.V_x, PV.V_op, PV.V_call, PV.V_tup, PV.V_lst, PV.V_emp, PV.V_and, PV.V_or, PV.V_ite, PV.V_mut, PV.M_app, PV.M_pop, PV.M_popAt, PV.M_ext, PV.M_rem, PV.M_ins, PV.V_ofT, PV.V_dsp, PV.V_chn, PV.V_lc, PV.V_dc, PV.bdT_eq, PV.bdS_eq, PV.ownOk, PV.VI_zip, PV.VI_zpl, PV.VI_zp3, PV.zip3R_t, PV.X_raise1, PV.V_xf, PV.xfR_s, PV.exSlot_s, PV.X_sub, PV.X_swp, PV.subR, PV.Vs_nil, PV.Vs_cons, PV.VT_yes, PV.VT_e, PV.VT_and, PV.VT_or, PV.VT_not, PV.VI_e, PV.VI_rng, PV.VI_enm, PV.X_nil, PV.X_cons, PV.X_set, PV.X_unp, PV.X_par, PV.X_ex, PV.X_ret, PV.X_retN, PV.X_ite, PV.X_lop, PV.X_pass, PV.X_brk, PV.X_cont, PV.V_dcT, PV.V_updT, PV.VI_txt, PV.VI_rg3, PV.odTAt_od, PV.fdTOf_fd, PV.strOf_s, PV.nxt_nx, PV.nxt_brk, PV.nxt_ct, PV.nxt_rt, PV.finF_nx, PV.finF_v, PV.finF_fl, PV.finF_fd, PV.finF_pl, PV.RS_ok, PV.RS_rz, PV.RS_bad, PV.FS_ok, PV.FS_rz, PV.FS_bad, PV.OS_some, PV.OS_none, PV.OS_map, PV.OS_ite, PV.callOk, PV.rzOk, PV.flatO, PV.opE_v2, PV.opE_vf, PV.opE_fv, PV.opE_ff, PV.opE_n_add, PV.opE_n_sub, PV.opE_n_mul, PV.opE_n_fdiv, PV.opE_n_mod, PV.opE_n_pow, PV.opE_n_neg, PV.opE_n_eq, PV.opE_n_ne, PV.opE_n_lt, PV.opE_n_le, PV.opE_n_gt, PV.opE_n_ge, PV.opE_n_isN, PV.opE_n_notN, PV.opE_n_len, PV.opE_n_tuple, PV.opE_n_list, PV.opE_n_lrng, PV.opE_n_sorted, PV.opE_n_abs, PV.opE_n_min2, PV.opE_n_max2, PV.opE_n_min1, PV.opE_n_max1, PV.opE_n_sum, PV.opE_n_any, PV.opE_n_all, PV.opE_n_int, PV.opE_n_str, PV.opE_n_repr, PV.opE_n_not, PV.opE_n_idi, PV.opE_n_rev, PV.opE_n_sl, PV.opE_n_isi, PV.opE_n_g, PV.opE_inp, PV.opE_notinp, PV.opE_idxp, PV.pidx_ol, PV.pinn_ol, PV.pnin_ol, PV.opD, PV.clear, PV.back, PV.mutOk, PV.srcFree, PV.slotA, PV.keyOk, PV.toKey, PV.addD, PV.subD, PV.negD, PV.cmpR, PV.cmpD, PV.isND, PV.notND, PV.isiD, PV.isKind, PV.notD, PV.lenD, PV.tupleD, PV.listD, PV.inD, PV.notinD, PV.idxD_t, PV.idxD_l, PV.eqD_nil0, PV.neD_nil0, PV.eqD_lI0, PV.neD_lI0, PV.eqD_lP0, PV.neD_lP0, PV.eqD_tI0, PV.neD_tI0, PV.eqD_tP0, PV.neD_tP0, PV.eqD_p, PV.neD_p, PV.eqD_b2, PV.neD_b2, PV.eqD_int, PV.neD_int, PV.eqD_tI, PV.neD_tI, PV.eqD_lI, PV.neD_lI, PV.eqD_tP, PV.neD_tP, PV.eqD_lP, PV.neD_lP, PV.gD, PV.isBD, PV.hasD_tI, PV.hasD_lI, PV.hasD_tP', PV.hasD_lP', PV.lim0, PV.lim1, PV.lim2, PV.lim3, PV.lim4, PV.lim5, PV.lim6, PV.lim7, PV.lim8, PV.lim9, PV.lim10, PV.lim11, PV.lim12, PV.lim17, PV.lim26, PV.pr, PV.srcOk, PV.min2D, PV.max2D, PV.rng_1, PV.rng_2, PV.lrng_1, PV.slD, PV.cut_1, PV.cut_m1, PV.zip_ints, PV.enum_map, PV.allD, PV.anyD, PV.toBls_map, PV.pick_0, PV.pick_1, PV.pick_2, PV.pick_3, PV.srt_ints, PV.srt_prs, PV.sortedD, PV.toInts_ints, Option.isSome_some, Option.isSome_none, List.all_cons, List.all_nil, List.getElem?_cons_zero, List.getElem?_cons_succ, List.set_cons_zero, List.set_cons_succ, List.map_cons, List.map_nil, List.length_cons, List.length_nil, List.replicate_succ, List.replicate_zero, List.append_nil, List.nil_append, List.cons_append, Option.map_some, Option.map_none, Option.bind_some, Option.bind_none, Option.getD_some, Bool.not_true, Bool.not_false, Bool.false_or, Bool.true_or, Bool.or_true, Bool.or_false, Bool.true_and, Bool.false_and, Bool.and_true, Bool.and_false, BEq.rfl, not_true_eq_false, forall_const, true_implies, false_implies, and_true, true_and, and_self, Bool.false_eq_true, reduceCtorEq, ne_eq, not_false_eq_true, decide_true, decide_false, decide_eq_true_eq, decide_eq_false_iff_not, PV.cast0, PV.cast1, PV.cast2, PV.cast3, PV.cast4, PV.cast5, PV.cast6, PV.cast7, PV.cast8, PV.cast9, PV.cast10, PV.cast11, PV.cast12, Int.reduceEq, Int.reduceLT, Int.reduceLE, Int.reduceGT, Int.reduceGE, Int.reduceAdd, Int.reduceSub, Int.reduceNeg, Int.reduceNe, Nat.reduceSub, Nat.reduceAdd, if_true, if_false, ite_true, ite_false, reduceIte, implies_true, Rk.idxD_F0, Rk.idxD_F1, -PV.keyOk]
  refine bfs_wh F hF S hS s (fun T hT => .inl ?_) (fun T u v hT hq => ?_) _ _ fun a3 a4 a5 a6 a7 a8 => ?_
  · exact possible_slides_ok k F (by omega) T (by have := hT.len hF; omega) s
  · exact setting_after_ok (k + 2) T (by have := hT.len hF; omega) u v s
  · simp! only
/-- the law's slides -/
theorem slides265_ok (k : Nat) (F : Fr) (hF : F.Wf) (S : List Int) (hS : SetWf F S) (s : DS) : PV.runI tb (k + 2) 265 [.sh F.d, .sh (.tuple (S.map .int))] s = .ok (.fl ((psl F S).map pr)) s := by
  have hel := hF.len
  have hSl := hS.len hF
  refine FS.eq (F_call (fd := ⟨6, 2, B__law_slides⟩) rfl rfl ?_)
  unfold B__law_slides
  have lnb : ∀ v, (nb F v).length ≤ 12 := fun v => by
    have l := nodup_len ((nb_pw hF v).imp fun z => by omega) (ys := PV.rI F.n) fun w hw => mem_rI.mpr (nb_rg hF hw)
    rw [rI_len] at l
    have := hF.n1
    omega
  have l4 : ∀ u, (psl1 F S u).length ≤ 12 := fun u => by
    have := List.length_filter_le (fun v => decide (lb F S v = [u])) (nb F u)
    have := lnb u
    simp only [psl1, List.length_map]; omega
  have esort : ∀ u, (nb F u).mergeSort leI = nb F u := fun u => sortI_id ((nb_pw hF u).imp fun z => by simp [leI]; omega)
  simp! only
  refine RS_lop (fun done rest m => ∃ a3 a4, m = ⟨[.sh F.d, .sh (.tuple (S.map .int)), .ol ((done.flatMap (psl1 F S)).map pr), a3, a4, .un], s⟩) ⟨_, _, rfl⟩ (fun _ _ _ _ => trivial) (fun done u rest m hS' hj => ?a) (fun m hj => ?b)
  case a =>
    obtain ⟨a3, a4, rfl⟩ := hj
    have lS : done.length ≤ 12 := by rw [hS', List.length_append] at hSl; omega
    have l5 : (done.flatMap (psl1 F S)).length ≤ done.length * 12 := by
      clear hS'
      induction done with
      | nil => simp
      | cons x xs ih =>
        have := l4 x
        rw [List.flatMap_cons, List.length_append, List.length_cons]
        have := ih (by simp at lS; omega)
        omega
    simp! only [nearB_ok k F hF, esort]
    refine RS_lop (fun d2 rest m => ∃ a4, m = ⟨[.sh F.d, .sh (.tuple (S.map .int)), .ol ((done.flatMap (psl1 F S) ++ (d2.filter fun v => decide (lb F S v = [u])).map fun v => (u, v)).map pr), .sh (.int u), a4, .un], s⟩) ⟨a4, by simp⟩ (fun _ _ _ _ => trivial) (fun d2 v r2 m he hj => ?c) (fun m hj => ?d)
    case c =>
      obtain ⟨a4, rfl⟩ := hj
      have l6 : (d2.filter fun v => decide (lb F S v = [u])).length ≤ 12 := by
        have := List.length_filter_le (fun v => decide (lb F S v = [u])) d2
        have h2 := lnb u
        rw [he, List.length_append] at h2; omega
      have e1 : ([PyData.int u] : List PyData) = [u].map .int := rfl
      have hlv := lnb v
      simp! only [nearB_ok k F hF]
      refine ⟨(by simp only [List.length_map, List.length_append, List.length_cons, List.length_nil, LIM]; omega), RS_lc (fun o => decide (o ∈ S)) (fun e => .int e) trivial (fun x hx => ?g1) ?g2⟩
      case g1 => simp! only
      case g2 =>
        have e2 : ((nb F v).filter fun o => decide (o ∈ S)).map (fun e => PyData.int e) = (lb F S v).map .int := rfl
        rw [e2]
        simp! only
        rw [e1, eqD_lI]
        simp! only
        refine ⟨fun h => ?_, fun h => ?_⟩
        · refine ⟨(by simp only [List.length_map, List.length_append, List.length_cons, List.length_nil, LIM]; omega), .sh (.int v), ?_⟩
          rw [List.filter_append]
          simp [h, pr]
        · refine ⟨.sh (.int v), ?_⟩
          rw [List.filter_append]
          simp [h]
    case d =>
      obtain ⟨a4, rfl⟩ := hj
      exact ⟨.sh (.int u), a4, by rw [List.flatMap_append]; simp [psl1]⟩
  case b =>
    obtain ⟨a3, a4, rfl⟩ := hj
    simp! only
    rfl
theorem moved_ok (k : Nat) (F : Fr) (hF : F.Wf) (S : List Int) (hS : SetWf F S) (u v : Int) (hu : u ∈ S) (s : DS) : PV.runI tb (k + 1) 266 [.sh (.tuple (S.map .int)), .sh (.int u), .sh (.int v)] s = .ok (.v (.tuple ((sAft S u v).map .int))) s := by
  have hSl := hS.len hF
  refine FS.eq (F_call (fd := ⟨4, 3, B__law_moved⟩) rfl rfl ?_)
  unfold B__law_moved
  have := List.length_filter_le (fun l => !decide (l = u)) S
  simp! only
  refine ⟨(by simp only [List.length_map, List.length_append, List.length_cons, List.length_nil, LIM]; omega), RS_lc (fun l => !decide (l = u)) (fun e => .int e) trivial (fun x hx => ?a) ?b⟩
  case a => simp! only
  case b =>
    have e : ((S.filter fun l => !decide (l = u)).map fun e => PyData.int e) ++ [PyData.int v] = ((S.filter fun l => !decide (l = u)) ++ [v]).map .int := by simp
    simp! only
    refine ⟨(by simp only [List.length_map, List.length_append, List.length_cons, List.length_nil, LIM]; omega), ?_⟩
    rw [e]
    simp! only
    rw [sAft_eq hS.nd hu]
    rfl
theorem reached_ok (k : Nat) (F : Fr) (hF : F.Wf) (S : List Int) (hS : SetWf F S) (s : DS) : PV.runI tb (k + 3) 145 [.sh F.d, .sh (.tuple (S.map .int))] s = .ok (.fd true ((stp F S).map (enP tuI .int))) s := by
  refine FS.eq (F_call (fd := ⟨9, 2, B__law_reached⟩) rfl rfl ?_)
  unfold B__law_reached
  simp only [X_wh, keyOk_tI, PV.truth_none, PV.truth_bool, PV.truth_int, PV.truth_str, PV.truth_list, PV.truth_tuple, PV.truth_dict, PV.strFits_none, PV.strFits_bool, PV.strFits_int, PV.strFits_str, PV.strFits_list, PV.strFits_tuple, PV.strFits_dict, PV.slR_sh, PV.slR_ol, PV.slR_od, PV.slR_dk, PV.vOf_v, PV.bOf_b, PV.noPD_v, PV.noPD_fl, PV.noPD_fd, PV.deref_v, PV.deref_fl, PV.deref_fd, PV.slotD_ol, PV.slotD_od, PV.slotD_sh, PV.derefs_nil, PV.derefs_c, PV.esc_v, PV.esc_fl, PV.esc_fd, PV.esc_pl, PV.escS_ol, PV.escS_od, PV.escS_sh, PV.escs_nil, PV.escs_c, PV.toArgs_nil, PV.toArgs_dk, PV.toArgs_v, PV.toArgs_fl, PV.toArgs_fd, PV.toArgs_pl, PV.setR_v, PV.setR_fl, PV.setR_fd, PV.setR_dk, PV.setR_pl, PV.setRs_nil, PV.setRs_c, PV.items_l, PV.items_t, PV.items_fl, PV.items_pl, PV.itS_ol, PV.itS_sh, PV.isOwn_ol, PV.isOwn_od, PV.isOwn_sh, PV.isOwn_un, PV.isOwn_dk, PV.isOwn_no, PV.olAt_ol, PV.finS_ol, PV.finS_od, PV.finS_sh, PV.zipR_tt, PV.zipR_ll, PV.zipR_ff, PV.zipR_lf, PV.zipR_fl, PV.zipL_ll, PV.zipL_ff, PV.zipL_lf, PV.zipL_fl, PV.noPl_nil, PV.noPl_v, PV.noPl_fl, PV.noPl_fd, PV.noPl_dk, PV.hasPl_nil, PV.hasPl_v, PV.hasPl_fl, PV.hasPl_fd, PV.hasPl_dk, PV.hasPl_pl, PV.flatR_v, PV.bind1_nm, PV.bind1_tp, PV.bind1_tl, PV.bindL_nil, PV.bindL_c, PV.deref_pl, PV.eq_str, PV.ne_str, PV.flat_b, PV.flat_i, PV.flat_s, PV.flat_n, PV.V_c, PV.V_x, PV.V_op, PV.V_call, PV.V_tup, PV.V_lst, PV.V_emp, PV.V_and, PV.V_or, PV.V_ite, PV.V_mut, PV.M_app, PV.M_pop, PV.M_popAt, PV.M_ext, PV.M_rem, PV.M_ins, PV.V_ofT, PV.V_dsp, PV.V_chn, PV.V_lc, PV.V_dc, PV.bdT_eq, PV.bdS_eq, PV.ownOk, PV.VI_zip, PV.VI_zpl, PV.VI_zp3, PV.zip3R_t, PV.X_raise1, PV.V_xf, PV.xfR_s, PV.exSlot_s, PV.X_sub, PV.X_swp, PV.subR, PV.Vs_nil, PV.Vs_cons, PV.VT_yes, PV.VT_e, PV.VT_and, PV.VT_or, PV.VT_not, PV.VI_e, PV.VI_rng, PV.VI_enm, PV.X_nil, PV.X_cons, PV.X_set, PV.X_unp, PV.X_par, PV.X_ex, PV.X_ret, PV.X_retN, PV.X_ite, PV.X_lop, PV.X_pass, PV.X_brk, PV.X_cont, PV.V_dcT, PV.V_updT, PV.VI_txt, PV.VI_rg3, PV.odTAt_od, PV.fdTOf_fd, PV.strOf_s, PV.nxt_nx, PV.nxt_brk, PV.nxt_ct, PV.nxt_rt, PV.finF_nx, PV.finF_v, PV.finF_fl, PV.finF_fd, PV.finF_pl, PV.RS_ok, PV.RS_rz, PV.RS_bad, PV.FS_ok, PV.FS_rz, PV.FS_bad, PV.OS_some, PV.OS_none, PV.OS_map, PV.OS_ite, PV.callOk, PV.rzOk, PV.flatO, PV.opE_v2, PV.opE_vf, PV.opE_fv, PV.opE_ff, PV.opE_n_add, PV.opE_n_sub, PV.opE_n_mul, PV.opE_n_fdiv, PV.opE_n_mod, PV.opE_n_pow, PV.opE_n_neg, PV.opE_n_eq, PV.opE_n_ne, PV.opE_n_lt, PV.opE_n_le, PV.opE_n_gt, PV.opE_n_ge, PV.opE_n_isN, PV.opE_n_notN, PV.opE_n_len, PV.opE_n_tuple, PV.opE_n_list, PV.opE_n_lrng, PV.opE_n_sorted, PV.opE_n_abs, PV.opE_n_min2, PV.opE_n_max2, PV.opE_n_min1, PV.opE_n_max1, PV.opE_n_sum, PV.opE_n_any, PV.opE_n_all, PV.opE_n_int, PV.opE_n_str, PV.opE_n_repr, PV.opE_n_not, PV.opE_n_idi, PV.opE_n_rev, PV.opE_n_sl, PV.opE_n_isi, PV.opE_n_g, PV.opE_inp, PV.opE_notinp, PV.opE_idxp, PV.pidx_ol, PV.pinn_ol, PV.pnin_ol, PV.opD, PV.clear, PV.back, PV.mutOk, PV.srcFree, PV.slotA, PV.keyOk, PV.toKey, PV.addD, PV.subD, PV.negD, PV.cmpR, PV.cmpD, PV.isND, PV.notND, PV.isiD, PV.isKind, PV.notD, PV.lenD, PV.tupleD, PV.listD, PV.inD, PV.notinD, PV.idxD_t, PV.idxD_l, PV.eqD_nil0, PV.neD_nil0, PV.eqD_lI0, PV.neD_lI0, PV.eqD_lP0, PV.neD_lP0, PV.eqD_tI0, PV.neD_tI0, PV.eqD_tP0, PV.neD_tP0, PV.eqD_p, PV.neD_p, PV.eqD_b2, PV.neD_b2, PV.eqD_int, PV.neD_int, PV.eqD_tI, PV.neD_tI, PV.eqD_lI, PV.neD_lI, PV.eqD_tP, PV.neD_tP, PV.eqD_lP, PV.neD_lP, PV.gD, PV.isBD, PV.hasD_tI, PV.hasD_lI, PV.hasD_tP', PV.hasD_lP', PV.lim0, PV.lim1, PV.lim2, PV.lim3, PV.lim4, PV.lim5, PV.lim6, PV.lim7, PV.lim8, PV.lim9, PV.lim10, PV.lim11, PV.lim12, PV.lim17, PV.lim26, PV.pr, PV.srcOk, PV.min2D, PV.max2D, PV.rng_1, PV.rng_2, PV.lrng_1, PV.slD, PV.cut_1, PV.cut_m1, PV.zip_ints, PV.enum_map, PV.allD, PV.anyD, PV.toBls_map, PV.pick_0, PV.pick_1, PV.pick_2, PV.pick_3, PV.srt_ints, PV.srt_prs, PV.sortedD, PV.toInts_ints, Option.isSome_some, Option.isSome_none, List.all_cons, List.all_nil, List.getElem?_cons_zero, List.getElem?_cons_succ, List.set_cons_zero, List.set_cons_succ, List.map_cons, List.map_nil, List.length_cons, List.length_nil, List.replicate_succ, List.replicate_zero, List.append_nil, List.nil_append, List.cons_append, Option.map_some, Option.map_none, Option.bind_some, Option.bind_none, Option.getD_some, Bool.not_true, Bool.not_false, Bool.false_or, Bool.true_or, Bool.or_true, Bool.or_false, Bool.true_and, Bool.false_and, Bool.and_true, Bool.and_false, BEq.rfl, not_true_eq_false, forall_const, true_implies, false_implies, and_true, true_and, and_self, Bool.false_eq_true, reduceCtorEq, ne_eq, not_false_eq_true, decide_true, decide_false, decide_eq_true_eq, decide_eq_false_iff_not, PV.cast0, PV.cast1, PV.cast2, PV.cast3, PV.cast4, PV.cast5, PV.cast6, PV.cast7, PV.cast8, PV.cast9, PV.cast10, PV.cast11, PV.cast12, Int.reduceEq, Int.reduceLT, Int.reduceLE, Int.reduceGT, Int.reduceGE, Int.reduceAdd, Int.reduceSub, Int.reduceNeg, Int.reduceNe, Nat.reduceSub, Nat.reduceAdd, if_true, if_false, ite_true, ite_false, reduceIte, implies_true, Rk.idxD_F0, Rk.idxD_F1, -PV.keyOk]
  refine bfs_wh F hF S hS s (fun T hT => .inr ?_) (fun T u v hT hq => ?_) _ _ fun a3 a4 a5 a6 a7 a8 => ?_
  · exact slides265_ok k F hF T hT s
  · exact moved_ok (k + 1) F hF T hT u v (mem_psl.mp hq).1 s
  · simp! only
/-- a drawn setting -/
theorem settingD_ok (k : Nat) (F : Fr) (hF : F.Wf) {b : Nat} {s : DS} (hs : DB b s) (hb : b ≤ 800000) : FS (PV.runI tb (k + 3) 148 [(.dk 0), .sh F.d] s) (fun r s' => ∃ S : List Int, r = .v (.tuple (S.map .int)) ∧ SetWf F S ∧ DB (b + 14) s') neverF := by
  have n0 := hF.n0
  have n1 := hF.n1
  refine F_call (fd := ⟨7, 2, B__law_setting⟩) rfl rfl ?_
  unfold B__law_setting
  simp! only
  refine (next_ok (k := k + 1) (n := 3) (by omega) (by omega) hs (by omega)).use fun r s1 h => ?_
  obtain ⟨lk, rfl, ⟨l0, l1⟩, hs1⟩ := h
  simp! only
  refine OS_pickL (f := .int) [2, 4, 12] rfl l0 (by simp; omega) fun lim _ hlim => ?_
  simp! only
  refine ⟨⟨n0, by omega⟩, ?_⟩
  refine (shuf_ok (k := k) (PV.rI F.n) (by rw [rI_len]; omega) hs1 (by omega)).use fun r s2 h => ?_
  obtain ⟨ns, rfl, hp, hs2⟩ := h
  have hs2 := hs2.mono (b := b + 13) (by rw [rI_len]; omega)
  have hnl : ns.length = F.n.toNat := by rw [hp.length_eq, rI_len]
  have nd : ns.Nodup := hp.nodup_iff.mpr ((rI_pw F.n).imp fun h => by omega)
  have hrg : ∀ v ∈ ns, 0 ≤ v ∧ v < F.n := fun v hv => mem_rI.mp (hp.mem_iff.mp hv)
  simp! only
  refine RS_lop (fun done rest mm => ∃ (ls : List Int) (a2 a5 : PV.Slot), mm = ⟨[(.dk 0), .sh F.d, a2, .sh (.int lim), .ol (ls.map .int), a5, .un], s2⟩ ∧ (∀ l ∈ ls, l ∈ done) ∧ ls.Nodup ∧ (∀ u ∈ ls, ∀ v ∈ ls, edg u v ∉ F.es) ∧ ls.length ≤ done.length) ⟨[], _, _, rfl, (fun _ z => nomatch z), List.Pairwise.nil, (fun _ z => nomatch z), Nat.le_refl _⟩ (fun _ _ _ _ => trivial) (fun done x rest mm hx hj => ?a) (fun mm hj => ?b)
  case a =>
    obtain ⟨ls, a2, a5, rfl, hld, hln, hli, hll⟩ := hj
    have hdl : done.length + 1 ≤ 12 := by
      have := congrArg List.length hx
      rw [List.length_append, List.length_cons] at this
      omega
    have hxd : x ∉ done := fun z => by
      rw [hx] at nd
      exact (List.pairwise_append.mp nd).2.2 x z x List.mem_cons_self rfl
    have hnb : (nb F x).length ≤ 12 := by
      have l := nodup_len ((nb_pw hF x).imp fun z => by omega) (ys := PV.rI F.n) fun w hw => mem_rI.mpr (nb_rg hF hw)
      rw [rI_len] at l
      omega
    simp! only [nearB_ok (k + 1) F hF]
    rw [List.length_map]
    refine ⟨fun _ => ⟨(by simp only [List.length_map, List.length_append, List.length_cons, List.length_nil, LIM]; omega), RS_lc (fun o => decide (o ∈ ls)) (fun e => .int e) rfl (fun y hy => ?c) ?d⟩, fun _ => ?e⟩
    case c => simp! only
    case e => exact ⟨ls, _, _, rfl, fun l hl => List.mem_append_left _ (hld l hl), hln, hli, by simp; omega⟩
    case d =>
      simp! only
      refine ⟨fun he => ?_, fun he => ?_⟩
      · refine ⟨by rw [List.length_map]; simp only [LIM]; omega, ls ++ [x], _, _, by rw [List.map_append]; rfl, fun l hl => ?_, ?_, fun u hu v hv => ?_, by simp; omega⟩
        · rcases List.mem_append.mp hl with hl | hl
          · exact List.mem_append_left _ (hld l hl)
          · exact List.mem_append_right _ hl
        · rw [List.Nodup, List.pairwise_append]
          exact ⟨hln, by simp, fun a ha c hc e => by
            rw [List.mem_singleton.mp hc] at e
            exact hxd (e ▸ hld a ha)⟩
        · have no : ∀ l ∈ ls, edg l x ∉ F.es := fun l hl z => by
            have : l ∈ (nb F x).filter fun o => decide (o ∈ ls) := List.mem_filter.mpr ⟨mem_nb.mpr ((edg_mem hF).mp z), by simpa using hl⟩
            have he' : (nb F x).filter (fun o => decide (o ∈ ls)) = [] := by simpa using he
            rw [he'] at this
            exact nomatch this
          have nx : edg x x ∉ F.es := fun z => by
            have := hF.lo _ z
            rw [edg_of (Int.le_refl _)] at this
            simp at this
          rcases List.mem_append.mp hu with hu | hu <;> rcases List.mem_append.mp hv with hv | hv
          · exact hli u hu v hv
          · rw [List.mem_singleton.mp hv]; exact no u hu
          · rw [List.mem_singleton.mp hu, edg_comm]; exact no v hv
          · rw [List.mem_singleton.mp hu, List.mem_singleton.mp hv]; exact nx
      · exact ⟨ls, _, _, rfl, fun l hl => List.mem_append_left _ (hld l hl), hln, hli, by simp; omega⟩
  case b =>
    obtain ⟨ls, a2, a5, rfl, hld, hln, hli, hll⟩ := hj
    simp! only
    have mem : ∀ v, v ∈ ls.mergeSort leI ↔ v ∈ ls := fun v => (List.mergeSort_perm _ _).mem_iff
    refine ⟨ls.mergeSort leI, rfl, ⟨fun v hv => hrg v (hld v ((mem v).mp hv)), ?_, fun u hu v hv => hli u ((mem u).mp hu) v ((mem v).mp hv)⟩, hs2.mono (by omega)⟩
    have nd2 : (ls.mergeSort leI).Nodup := (List.mergeSort_perm _ _).nodup_iff.mpr hln
    refine (List.pairwise_and_iff.mpr ⟨sortI_pw ls, nd2⟩).imp fun {a b} z => ?_
    have := z.1
    simp only [leI, decide_eq_true_eq] at this
    have := z.2
    omega
theorem cls_mem {F : Fr} (hF : F.Wf) {S : List Int} (h : SetWf F S) : ∀ T ∈ cls F S, SetWf F T := fun T hT => by
  obtain ⟨⟨k, b⟩, _⟩ := stp_bi hF h
  unfold cls at hT
  obtain ⟨p, hp, rfl⟩ := List.mem_map.mp (List.mem_mergeSort.mp hT)
  exact (b.wf p hp).1
theorem cls_len {F : Fr} {S : List Int} : (cls F S).length = (stp F S).length := by unfold cls; rw [List.length_mergeSort, List.length_map]
theorem stp_len {F : Fr} (hF : F.Wf) {n : Nat} (hn : F.n ≤ n) {S : List Int} (h : SetWf F S) : (stp F S).length ≤ 2 ^ n := by
  obtain ⟨⟨k, b⟩, _⟩ := stp_bi hF h
  have h1 := b.len
  have n0 := hF.n0
  have : 2 ^ F.n.toNat ≤ 2 ^ n := Nat.pow_le_pow_right (by omega) (by omega)
  omega
noncomputable def insI' (x : Int) : List Int → List Int
  | [] => [x]
  | y :: ys => if x ≤ y then x :: y :: ys else y :: insI' x ys
noncomputable def isort (xs : List Int) : List Int := xs.foldr insI' []
theorem insI'_perm (x : Int) : ∀ ys, (insI' x ys).Perm (x :: ys)
  | [] => List.Perm.refl _
  | y :: ys => by
    unfold insI'
    split
    · exact List.Perm.refl _
    · exact (List.Perm.cons y (insI'_perm x ys)).trans (List.Perm.swap _ _ _)
theorem isort_perm : ∀ xs, (isort xs).Perm xs
  | [] => List.Perm.refl _
  | x :: xs => (insI'_perm x _).trans (List.Perm.cons x (isort_perm xs))
theorem insI'_pw (x : Int) : ∀ ys, ys.Pairwise (fun a b => leI a b = true) → (insI' x ys).Pairwise (fun a b => leI a b = true)
  | [], _ => List.pairwise_singleton _ _
  | y :: ys, h => by
    obtain ⟨h1, h2⟩ := List.pairwise_cons.mp h
    unfold insI'
    split
    · rename_i hx
      refine List.pairwise_cons.mpr ⟨fun z hz => ?_, h⟩
      rcases List.mem_cons.mp hz with rfl | hz
      · simp [leI, hx]
      · have := h1 z hz
        simp only [leI, decide_eq_true_eq] at *
        omega
    · rename_i hx
      refine List.pairwise_cons.mpr ⟨fun z hz => ?_, insI'_pw x ys h2⟩
      rcases List.mem_cons.mp ((insI'_perm x ys).mem_iff.mp hz) with rfl | hz
      · simp only [leI, decide_eq_true_eq]; omega
      · exact h1 z hz
theorem isort_pw : ∀ xs, (isort xs).Pairwise (fun a b => leI a b = true)
  | [] => List.Pairwise.nil
  | x :: xs => insI'_pw x _ (isort_pw xs)
theorem isort_eq (xs : List Int) : isort xs = xs.mergeSort leI := sorted_eq (fun _ _ => leI_anti) (isort_pw xs) (sortI_pw xs) ((isort_perm xs).trans (List.mergeSort_perm _ _).symm)
noncomputable def sAftX (S : List Int) (u v : Int) : List Int := isort (S.map fun l => if l = u then v else l)
theorem sAftX_eq (S : List Int) (u v : Int) : sAftX S u v = sAft S u v := isort_eq _
noncomputable def vis1X (k : Int) (here : List Int) (p : List (List Int × Int) × List (List Int)) (q : Int × Int) : List (List Int × Int) × List (List Int) :=
  if sAftX here q.1 q.2 ∈ p.1.map (·.1) then p else (p.1 ++ [(sAftX here q.1 q.2, k + 1)], p.2 ++ [sAftX here q.1 q.2])
noncomputable def visHX (F : Fr) (k : Int) (p : List (List Int × Int) × List (List Int)) (here : List Int) : List (List Int × Int) × List (List Int) := (psl F here).foldl (vis1X k here) p
noncomputable def bfsX (F : Fr) : Nat → Int → List (List Int × Int) → List (List Int) → Option (List (List Int × Int))
  | 0, _, _, _ => none
  | n + 1, k, st, lev => match lev with
    | [] => some st
    | l :: lev => let r := (l :: lev).foldl (visHX F k) (st, []); bfsX F n (k + 1) r.1 r.2
theorem visHX_eq (F : Fr) (k : Int) : visHX F k = visH F k := by
  have e : ∀ here, vis1X k here = vis1 k here := fun here => by
    funext p q
    unfold vis1X vis1
    rw [sAftX_eq]
  funext p here
  unfold visHX visH
  rw [e]
theorem bfsX_ok (F : Fr) : ∀ (n : Nat) (k : Int) (st : List (List Int × Int)) (lev : List (List Int)) (out : List (List Int × Int)), bfsX F n k st lev = some out → ∃ m, Bfs F m k st lev out
  | 0, _, _, _, _, h => nomatch h
  | n + 1, k, st, [], out, h => by cases h; exact ⟨0, .stop⟩
  | n + 1, k, st, l :: lev, out, h => by
    have h : bfsX F n (k + 1) ((l :: lev).foldl (visHX F k) (st, [])).1 ((l :: lev).foldl (visHX F k) (st, [])).2 = some out := h
    rw [visHX_eq] at h
    obtain ⟨m, hm⟩ := bfsX_ok F n _ _ _ _ h
    exact ⟨m + 1, .step (by simp) hm⟩
theorem stp_of {F : Fr} (hF : F.Wf) {S : List Int} (h : SetWf F S) {n : Nat} {out : List (List Int × Int)} (e : bfsX F n 0 [(S, 0)] [S] = some out) : stp F S = out := by
  obtain ⟨m, hm⟩ := bfsX_ok F n _ _ _ _ e
  obtain ⟨n', _, hb⟩ := stp_bfs hF h
  exact (hb.det hm).2
/-- one of some things -/
theorem one_ok (k : Nat) {d : PyData} {ds : List PyData} (hd : d = .list ds ∨ d = .tuple ds) (hl : ds ≠ []) (hl2 : ds.length < 100000) {b : Nat} {s : DS} (hs : DB b s) (hb : b ≤ 900000) : FS (PV.runI tb (k + 2) 149 [(.dk 0), .sh d] s) (fun r s' => ∃ x ∈ ds, r = .v x ∧ DB (b + 1) s') neverF := by
  have hpos := List.length_pos_iff.mpr hl
  have key : ∀ x : Int, 0 ≤ x → x < (ds.length : Int) → ∃ y ∈ ds, pick ds x = some y := fun x h0 h1 =>
    ⟨ds[x.toNat], List.getElem_mem (by omega), pick_k h0 (List.getElem?_eq_getElem (by omega))⟩
  refine F_call (fd := ⟨2, 2, B__law_one⟩) rfl rfl ?_
  unfold B__law_one
  rcases hd with rfl | rfl
  · simp! only
    refine (next_ok (k := k) (n := (ds.length : Int)) (by omega) (by omega) hs (by omega)).use fun r s2 h => ?_
    obtain ⟨x, rfl, ⟨h1, h2⟩, h3⟩ := h
    obtain ⟨y, hy, e⟩ := key x h1 h2
    simp! only [e]
    exact ⟨y, hy, rfl, h3⟩
  · simp! only
    refine (next_ok (k := k) (n := (ds.length : Int)) (by omega) (by omega) hs (by omega)).use fun r s2 h => ?_
    obtain ⟨x, rfl, ⟨h1, h2⟩, h3⟩ := h
    obtain ⟨y, hy, e⟩ := key x h1 h2
    simp! only [e]
    exact ⟨y, hy, rfl, h3⟩
noncomputable def pStep (A : List Int) (pv : List Int) (p : List (Int × List Int) × List Int) (o : Int) : List (Int × List Int) × List Int :=
  if o ∈ A ∧ o ∉ p.1.map (·.1) then (p.1 ++ [(o, pv ++ [o])], p.2 ++ [o]) else p
inductive Dfs (F : Fr) (A : List Int) : Nat → List (Int × List Int) → List Int → List (Int × List Int) → Prop
  | stop {st : List (Int × List Int)} : Dfs F A 0 st [] st
  | step {n : Nat} {st : List (Int × List Int)} {w : List Int} {v : Int} {pv : List Int} {out : List (Int × List Int)} : aget st v = some pv → Dfs F A n ((nb F v).foldl (pStep A pv) (st, w)).1 ((nb F v).foldl (pStep A pv) (st, w)).2 out → Dfs F A (n + 1) st (w ++ [v]) out
/-- a path from a -/
inductive Pth (F : Fr) (A : List Int) (a : Int) : Int → List Int → Prop
  | one : Pth F A a a [a]
  | ext {v : Int} {p : List Int} {o : Int} : Pth F A a v p → o ∈ nb F v → o ∈ A → o ∉ p → Pth F A a o (p ++ [o])
/-- joined to a by vertices of A -/
inductive Cn (F : Fr) (A : List Int) (a : Int) : Int → Prop
  | refl : Cn F A a a
  | step {v w : Int} : Cn F A a v → w ∈ nb F v → w ∈ A → Cn F A a w
theorem Pth.mem {F : Fr} {A : List Int} {a v : Int} {p : List Int} (h : Pth F A a v p) : v ∈ p := by
  cases h with
  | one => simp
  | ext => simp
theorem Pth.nodup {F : Fr} {A : List Int} {a v : Int} {p : List Int} (h : Pth F A a v p) : p.Nodup := by
  induction h with
  | one => simp
  | ext _ _ _ h4 ih =>
    rw [List.Nodup, List.pairwise_append]
    exact ⟨ih, by simp, fun x hx y hy e => by rw [List.mem_singleton.mp hy] at e; exact h4 (e ▸ hx)⟩
theorem Pth.inA {F : Fr} {A : List Int} {a v : Int} {p : List Int} (h : Pth F A a v p) : ∀ x ∈ p, x = a ∨ x ∈ A := by
  induction h with
  | one => intro x hx; exact .inl (List.mem_singleton.mp hx)
  | ext _ _ h3 _ ih =>
    intro x hx
    rcases List.mem_append.mp hx with hx | hx
    · exact ih x hx
    · rw [List.mem_singleton.mp hx]; exact .inr h3
structure PI' (F : Fr) (A : List Int) (a v : Int) (st : List (Int × List Int)) (w : List Int) : Prop where
  rg : ∀ p ∈ st, 0 ≤ p.1 ∧ p.1 < F.n
  nd : (st.map (·.1)).Nodup
  wm : ∀ u ∈ w, u ∈ st.map (·.1)
  ok : ∀ p ∈ st, Pth F A a p.1 p.2 ∧ ∀ x ∈ p.2, x ∈ st.map (·.1)
  cl : ∀ u ∈ st.map (·.1), u ∉ w → u ≠ v → ∀ o ∈ nb F u, o ∈ A → o ∈ st.map (·.1)
  fs : a ∈ st.map (·.1)
  ll : w.length ≤ st.length
theorem pStep_ok {F : Fr} (hF : F.Wf) {A : List Int} {a v : Int} {pv : List Int} {p : List (Int × List Int) × List Int} {o : Int} (ho : o ∈ nb F v) (h : PI' F A a v p.1 p.2) (hv : (v, pv) ∈ p.1) :
    PI' F A a v (pStep A pv p o).1 (pStep A pv p o).2 ∧ (v, pv) ∈ (pStep A pv p o).1 ∧ (o ∈ A → o ∈ (pStep A pv p o).1.map (·.1)) ∧ ∃ add, (pStep A pv p o).1 = p.1 ++ add ∧ (pStep A pv p o).2.length = p.2.length + add.length := by
  unfold pStep
  split
  · rename_i hc
    obtain ⟨c1, c2⟩ := hc
    obtain ⟨q1, q2⟩ := h.ok _ hv
    have hm : ∀ x, x ∈ (p.1 ++ [(o, pv ++ [o])]).map (·.1) ↔ x ∈ p.1.map (·.1) ∨ x = o := fun x => by rw [List.map_append, List.mem_append]; simp
    refine ⟨⟨fun r hr => ?_, ?_, fun u hu => ?_, fun r hr => ?_, fun u hu hw hn o' ho' ha => ?_, (hm a).mpr (.inl h.fs), by have := h.ll; rw [List.length_append, List.length_append, List.length_singleton, List.length_singleton]; omega⟩, List.mem_append_left _ hv, fun _ => (hm o).mpr (.inr rfl), [_], rfl, by simp⟩
    · rcases List.mem_append.mp hr with hr | hr
      · exact h.rg r hr
      · rw [List.mem_singleton.mp hr]; exact nb_rg hF ho
    · rw [List.map_append, List.Nodup, List.pairwise_append]
      refine ⟨h.nd, by simp, fun x hx y hy e => ?_⟩
      have hy : y = o := by simpa using hy
      rw [e, hy] at hx
      exact c2 hx
    · rcases List.mem_append.mp hu with hu | hu
      · exact (hm u).mpr (.inl (h.wm u hu))
      · exact (hm u).mpr (.inr (List.mem_singleton.mp hu))
    · rcases List.mem_append.mp hr with hr | hr
      · obtain ⟨r1, r2⟩ := h.ok r hr
        exact ⟨r1, fun x hx => (hm x).mpr (.inl (r2 x hx))⟩
      · rw [List.mem_singleton.mp hr]
        refine ⟨.ext q1 ho c1 fun z => c2 (q2 o z), fun x hx => ?_⟩
        rcases List.mem_append.mp hx with hx | hx
        · exact (hm x).mpr (.inl (q2 x hx))
        · exact (hm x).mpr (.inr (List.mem_singleton.mp hx))
    · rcases (hm u).mp hu with hu | rfl
      · exact (hm o').mpr (.inl (h.cl u hu (fun z => hw (List.mem_append_left _ z)) hn o' ho' ha))
      · exact absurd (List.mem_append_right _ (List.mem_singleton_self _)) hw
  · rename_i hc
    refine ⟨h, hv, fun ha => ?_, [], by simp, rfl⟩
    by_cases z : o ∈ p.1.map (·.1)
    · exact z
    · exact absurd ⟨ha, z⟩ hc
theorem pFold_ok {F : Fr} (hF : F.Wf) {A : List Int} {a v : Int} {pv : List Int} : ∀ (qs : List Int), (∀ o ∈ qs, o ∈ nb F v) → ∀ (p : List (Int × List Int) × List Int), PI' F A a v p.1 p.2 → (v, pv) ∈ p.1 →
    PI' F A a v (qs.foldl (pStep A pv) p).1 (qs.foldl (pStep A pv) p).2 ∧ (v, pv) ∈ (qs.foldl (pStep A pv) p).1 ∧ (∀ o ∈ qs, o ∈ A → o ∈ (qs.foldl (pStep A pv) p).1.map (·.1)) ∧ ∃ add, (qs.foldl (pStep A pv) p).1 = p.1 ++ add ∧ (qs.foldl (pStep A pv) p).2.length = p.2.length + add.length
  | [], _, p, h, hv => ⟨h, hv, (fun _ z => nomatch z), [], by simp, rfl⟩
  | q :: qs, hq, p, h, hv => by
    obtain ⟨b1, b2, b3, add, e1, e2⟩ := pStep_ok hF (pv := pv) (hq q List.mem_cons_self) h hv
    obtain ⟨c1, c2, c3, add', f1, f2⟩ := pFold_ok hF qs (fun o ho => hq o (List.mem_cons_of_mem _ ho)) _ b1 b2
    refine ⟨c1, c2, fun o ho ha => ?_, add ++ add', by rw [List.foldl_cons, f1, e1, List.append_assoc], by rw [List.foldl_cons, f2, e2, List.length_append]; omega⟩
    rcases List.mem_cons.mp ho with rfl | ho
    · rw [List.foldl_cons, f1, List.map_append]
      exact List.mem_append_left _ (b3 ha)
    · exact c3 o ho ha
structure PI (F : Fr) (A : List Int) (a : Int) (st : List (Int × List Int)) (w : List Int) : Prop where
  rg : ∀ p ∈ st, 0 ≤ p.1 ∧ p.1 < F.n
  nd : (st.map (·.1)).Nodup
  wm : ∀ u ∈ w, u ∈ st.map (·.1)
  ok : ∀ p ∈ st, Pth F A a p.1 p.2 ∧ ∀ x ∈ p.2, x ∈ st.map (·.1)
  cl : ∀ u ∈ st.map (·.1), u ∉ w → ∀ o ∈ nb F u, o ∈ A → o ∈ st.map (·.1)
  fs : a ∈ st.map (·.1)
  ll : w.length ≤ st.length
theorem PI.step {F : Fr} (hF : F.Wf) {A : List Int} {a : Int} {st : List (Int × List Int)} {w : List Int} {v : Int} (h : PI F A a st (w ++ [v])) : ∃ pv, aget st v = some pv ∧ (v, pv) ∈ st ∧ PI' F A a v st w ∧ PI F A a ((nb F v).foldl (pStep A pv) (st, w)).1 ((nb F v).foldl (pStep A pv) (st, w)).2 ∧
    ∃ add, ((nb F v).foldl (pStep A pv) (st, w)).1 = st ++ add ∧ ((nb F v).foldl (pStep A pv) (st, w)).2.length = w.length + add.length := by
  obtain ⟨⟨v', pv⟩, hp, e⟩ := List.mem_map.mp (h.wm v (by simp))
  have e : v' = v := e
  subst e
  have h' : PI' F A a v' st w := ⟨h.rg, h.nd, fun u hu => h.wm u (List.mem_append_left _ hu), h.ok, fun u hu hw hn => h.cl u hu fun z => by
    rcases List.mem_append.mp z with z | z
    · exact hw z
    · exact hn (List.mem_singleton.mp z), h.fs, by have := h.ll; rw [List.length_append, List.length_singleton] at this; omega⟩
  obtain ⟨c1, c2, c3, add, e1, e2⟩ := pFold_ok hF (nb F v') (fun _ z => z) (st, w) h' hp
  refine ⟨pv, aget_of h.nd hp, hp, h', ⟨c1.rg, c1.nd, c1.wm, c1.ok, fun u hu hw o ho ha => ?_, c1.fs, c1.ll⟩, add, e1, e2⟩
  by_cases e : u = v'
  · subst e
    exact c3 o ho ha
  · exact c1.cl u hu hw e o ho ha
theorem PI.len {F : Fr} (hF : F.Wf) {A : List Int} {a : Int} {st : List (Int × List Int)} {w : List Int} (h : PI F A a st w) : st.length ≤ 12 := by
  have := nodup_len h.nd (ys := PV.rI F.n) fun x hx => by
    obtain ⟨p, hp, rfl⟩ := List.mem_map.mp hx
    exact mem_rI.mpr (h.rg p hp)
  rw [List.length_map, rI_len] at this
  have := hF.n1
  omega
theorem Dfs.det {F : Fr} {A : List Int} {n m : Nat} {st : List (Int × List Int)} {w : List Int} {out out' : List (Int × List Int)} (h : Dfs F A n st w out) (h' : Dfs F A m st w out') : n = m ∧ out = out' := by
  induction h generalizing m out' with
  | stop =>
    generalize hw : ([] : List Int) = w at h'
    cases h' with
    | stop => exact ⟨rfl, rfl⟩
    | step => simp at hw
  | @step n st w v pv out h1 _ ih =>
    generalize hw : w ++ [v] = w' at h'
    cases h' with
    | stop => simp at hw
    | @step _ _ w2 v2 pv2 _ g1 g2 =>
      obtain ⟨e1, e2⟩ := List.append_inj' hw rfl
      cases e2
      subst e1
      rw [h1] at g1
      cases g1
      obtain ⟨a1, a2⟩ := ih g2
      exact ⟨by rw [a1], a2⟩
theorem PI.one {F : Fr} {A : List Int} {a : Int} (h : 0 ≤ a ∧ a < F.n) : PI F A a [(a, [a])] [a] := ⟨fun p hp => by rw [List.mem_singleton.mp hp]; exact h, by simp, (fun u hu => by rw [List.mem_singleton.mp hu]; simp), fun p hp => by
  rw [List.mem_singleton.mp hp]; exact ⟨.one, fun x hx => by simpa using hx⟩, fun u hu hw => by
  have : u = a := by simpa using hu
  exact absurd (by rw [this]; simp) hw, by simp, Nat.le_refl _⟩
theorem Cn.rg {F : Fr} (hF : F.Wf) {A : List Int} {a v : Int} (h : 0 ≤ a ∧ a < F.n) (c : Cn F A a v) : 0 ≤ v ∧ v < F.n := by
  cases c with
  | refl => exact h
  | step _ h1 _ => exact nb_rg hF h1
theorem Cn.inA {F : Fr} {A : List Int} {a v : Int} (h : a ∈ A) (c : Cn F A a v) : v ∈ A := by
  cases c with
  | refl => exact h
  | step _ _ h2 => exact h2
theorem Cn.trans {F : Fr} {A : List Int} {a v w : Int} (c : Cn F A a v) (d : Cn F A v w) : Cn F A a w := by
  induction d with
  | refl => exact c
  | step _ h1 h2 ih => exact .step ih h1 h2
theorem Cn.symm {F : Fr} {A : List Int} {a v : Int} (h : a ∈ A) (c : Cn F A a v) : Cn F A v a := by
  induction c with
  | refl => exact .refl
  | step c h1 h2 ih => exact Cn.trans (.step .refl (nb_comm.mp h1) (c.inA h)) ih
theorem psl_back {F : Fr} (hF : F.Wf) {S : List Int} (h : SetWf F S) {p : Int × Int} (hp : p ∈ psl F S) : (p.2, p.1) ∈ psl F (sAft S p.1 p.2) ∧ sAft (sAft S p.1 p.2) p.2 p.1 = S := by
  have hW := h.sl hF hp
  obtain ⟨h1, h2, h3⟩ := mem_psl.mp hp
  have nd := h.nd
  have hv : p.2 ∉ S := h.no hF h1 h2
  have mm := fun w => mem_sAft (v := p.2) (w := w) nd h1
  have hne : p.1 ≠ p.2 := fun z => hv (z ▸ h1)
  have h2' : p.2 ∈ sAft S p.1 p.2 := (mm p.2).mpr (.inr rfl)
  have hp2 : (p.2, p.1) ∈ psl F (sAft S p.1 p.2) := by
    refine mem_psl.mpr ⟨h2', nb_comm.mp h2, ?_⟩
    refine asc_eq (lb_pw hF _ _) (List.pairwise_singleton _ _) fun a => ?_
    rw [mem_lb, List.mem_singleton, mm a]
    constructor
    · rintro ⟨ha, (⟨hs, _⟩ | rfl)⟩
      · exact absurd hs (h.no hF h1 ha)
      · rfl
    · rintro rfl
      exact ⟨nb_comm.mp (nb_comm.mp h2), .inr rfl⟩
  refine ⟨hp2, ?_⟩
  have hW2 := hW.sl hF hp2
  refine asc_eq hW2.pw h.pw fun a => ?_
  rw [mem_sAft hW.nd h2', mm a]
  constructor
  · rintro (⟨⟨ha, _⟩ | rfl, hb⟩ | rfl)
    · exact ha
    · exact absurd rfl hb
    · exact h1
  · intro ha
    by_cases e : a = p.1
    · exact .inr e
    · exact .inl ⟨.inl ⟨ha, e⟩, fun z => hv (z ▸ ha)⟩
noncomputable def bkw (ps : List (Int × Int)) : List (Int × Int) := ps.reverse.map fun p => (p.2, p.1)
theorem Chain.rev {F : Fr} (hF : F.Wf) : ∀ {ps : List (Int × Int)} {S T : List Int}, SetWf F S → Chain F S ps T → Chain F T (bkw ps) S
  | [], _, _, _, c => by cases c; rfl
  | p :: ps, S, T, h, ⟨c1, c2⟩ => by
    obtain ⟨b1, b2⟩ := psl_back hF h c1
    have e : bkw (p :: ps) = bkw ps ++ [(p.2, p.1)] := by simp [bkw]
    rw [e]
    exact (Chain.rev hF (h.sl hF c1) c2).app ⟨b1, b2.symm⟩
theorem Chain.snoc {F : Fr} {ps : List (Int × Int)} {S T : List Int} {p : Int × Int} (c : Chain F S ps T) (h : p ∈ psl F T) : Chain F S (ps ++ [p]) (sAft T p.1 p.2) := c.app ⟨h, rfl⟩
/-- how many lamps of S in P -/
noncomputable def cnt (S P : List Int) : Int := ((S.filter fun l => decide (l ∈ P)).length : Nat)
inductive En (es : List (Int × Int)) (a : Int) : Int → Prop
  | refl : En es a a
  | step {u w : Int} : En es a u → ((u, w) ∈ es ∨ (w, u) ∈ es) → En es a w
noncomputable def jStep (f : List Int) (e : Int × Int) : List Int := if (e.1 ∈ f) = (e.2 ∈ f) then f else f ++ [if e.1 ∈ f then e.2 else e.1]
noncomputable instance (f : List Int) (e : Int × Int) : Decidable ((e.1 ∈ f) = (e.2 ∈ f)) := decidable_of_iff (e.1 ∈ f ↔ e.2 ∈ f) ⟨propext, fun h => by rw [h]⟩
structure JN (es : List (Int × Int)) (a : Int) (f : List Int) : Prop where
  nd : f.Nodup
  en : ∀ v ∈ f, En es a v
  fs : a ∈ f
theorem jStep_new {f : List Int} {e : Int × Int} (h : ¬ ((e.1 ∈ f) = (e.2 ∈ f))) : (e.1 ∈ f ∧ e.2 ∉ f ∧ jStep f e = f ++ [e.2]) ∨ (e.1 ∉ f ∧ e.2 ∈ f ∧ jStep f e = f ++ [e.1]) := by
  unfold jStep
  rw [if_neg h]
  by_cases h1 : e.1 ∈ f
  · left
    refine ⟨h1, fun h2 => h (by simp [h1, h2]), by rw [if_pos h1]⟩
  · right
    by_cases h2 : e.2 ∈ f
    · exact ⟨h1, h2, by rw [if_neg h1]⟩
    · exact absurd (by simp [h1, h2]) h
theorem JN.step {es : List (Int × Int)} {a : Int} {f : List Int} (h : JN es a f) {e : Int × Int} (he : e ∈ es) : JN es a (jStep f e) := by
  by_cases c : (e.1 ∈ f) = (e.2 ∈ f)
  · unfold jStep; rw [if_pos c]; exact h
  · have key : ∀ x : Int, x ∉ f → En es a x → JN es a (f ++ [x]) := fun x hx hn => ⟨by
      rw [List.Nodup, List.pairwise_append]
      exact ⟨h.nd, by simp, fun y hy z hz q => hx (by rw [List.mem_singleton.mp hz] at q; exact q ▸ hy)⟩, fun v hv => by
      rcases List.mem_append.mp hv with hv | hv
      · exact h.en v hv
      · rw [List.mem_singleton.mp hv]; exact hn, List.mem_append_left _ h.fs⟩
    rcases jStep_new c with ⟨h1, h2, e3⟩ | ⟨h1, h2, e3⟩
    · rw [e3]; exact key _ h2 (.step (h.en _ h1) (.inl he))
    · rw [e3]; exact key _ h1 (.step (h.en _ h2) (.inr he))
theorem En.rg {es : List (Int × Int)} {n : Int} (he : ∀ e ∈ es, (0 ≤ e.1 ∧ e.1 < n) ∧ 0 ≤ e.2 ∧ e.2 < n) {a v : Int} (ha : 0 ≤ a ∧ a < n) (h : En es a v) : 0 ≤ v ∧ v < n := by
  cases h with
  | refl => exact ha
  | step _ q =>
    rcases q with q | q
    · exact (he _ q).2
    · exact (he _ q).1
theorem JN.len {es : List (Int × Int)} {n : Int} (hn : n ≤ 12) (he : ∀ e ∈ es, (0 ≤ e.1 ∧ e.1 < n) ∧ 0 ≤ e.2 ∧ e.2 < n) {a : Int} (ha : 0 ≤ a ∧ a < n) {f : List Int} (h : JN es a f) : f.length ≤ 12 := by
  have := nodup_len h.nd (ys := PV.rI n) fun x hx => mem_rI.mpr ((h.en x hx).rg he ha)
  rw [rI_len] at this
  omega
noncomputable def Wlk (F : Fr) : List Int → Prop
  | x :: y :: l => y ∈ nb F x ∧ Wlk F (y :: l)
  | _ => True
theorem Wlk.snoc {F : Fr} : ∀ {p : List Int} {v o : Int}, Wlk F p → p.getLast? = some v → o ∈ nb F v → Wlk F (p ++ [o])
  | [], _, _, _, h, _ => by simp at h
  | [x], v, o, _, h, ho => by
    have : x = v := by simpa using h
    subst this
    exact ⟨ho, trivial⟩
  | x :: y :: l, v, o, w, h, ho => ⟨w.1, Wlk.snoc (p := y :: l) w.2 (by simpa using h) ho⟩
theorem Wlk.rev {F : Fr} : ∀ {p : List Int}, Wlk F p → Wlk F p.reverse
  | [], _ => trivial
  | [x], _ => trivial
  | x :: y :: l, w => by
    rw [List.reverse_cons]
    exact (Wlk.rev (p := y :: l) w.2).snoc (v := y) (by simp) (nb_comm.mp w.1)
theorem Wlk.get {F : Fr} : ∀ {p : List Int}, Wlk F p → ∀ (i : Nat) (h : i + 1 < p.length), p[i + 1] ∈ nb F (p[i]'(by omega))
  | [], _, _, h => by simp at h
  | [x], _, _, h => by simp at h
  | x :: y :: l, w, 0, _ => w.1
  | x :: y :: l, w, i + 1, h => Wlk.get (p := y :: l) w.2 i (by simpa using h)
theorem asc_subR : ∀ {ys xs : List Int}, xs.Pairwise (· < ·) → ys.Pairwise (· < ·) → (∀ x ∈ xs, x ∈ ys) → xs.Sublist ys
  | [], xs, _, _, h => by
    cases xs with
    | nil => exact List.Sublist.refl _
    | cons x _ => exact nomatch h x List.mem_cons_self
  | y :: ys, [], _, _, _ => List.nil_sublist _
  | y :: ys, x :: xs, hx, hy, h => by
    obtain ⟨x1, x2⟩ := List.pairwise_cons.mp hx
    obtain ⟨y1, y2⟩ := List.pairwise_cons.mp hy
    by_cases e : x = y
    · subst e
      refine List.Sublist.cons₂ x (asc_subR x2 y2 fun z hz => ?_)
      rcases List.mem_cons.mp (h z (List.mem_cons_of_mem _ hz)) with e | h
      · have := x1 z hz; omega
      · exact h
    · refine List.Sublist.cons y (asc_subR hx y2 fun z hz => ?_)
      rcases List.mem_cons.mp (h z hz) with e2 | h2
      · have hxy : x ∈ ys := by
          rcases List.mem_cons.mp (h x List.mem_cons_self) with e3 | h3
          · exact absurd e3 e
          · exact h3
        have := y1 x hxy
        rcases List.mem_cons.mp hz with e3 | h3
        · omega
        · have := x1 z h3
          omega
      · exact h2
noncomputable def Rch (F : Fr) (S T : List Int) : Prop := ∃ ps, Chain F S ps T
theorem Rch.refl {F : Fr} {S : List Int} : Rch F S S := ⟨[], rfl⟩
theorem Rch.trans {F : Fr} {S T U : List Int} (h : Rch F S T) (h' : Rch F T U) : Rch F S U := let ⟨_, c⟩ := h; let ⟨_, d⟩ := h'; ⟨_, c.app d⟩
theorem Rch.wf {F : Fr} (hF : F.Wf) {S T : List Int} (hS : SetWf F S) (h : Rch F S T) : SetWf F T := let ⟨_, c⟩ := h; c.wf hF hS
theorem Rch.one {F : Fr} {S : List Int} {p : Int × Int} (h : p ∈ psl F S) : Rch F S (sAft S p.1 p.2) := ⟨[p], h, rfl⟩
theorem Rch.symm {F : Fr} (hF : F.Wf) {S T : List Int} (hS : SetWf F S) (h : Rch F S T) : Rch F T S := let ⟨_, c⟩ := h; ⟨_, c.rev hF hS⟩
/-- the settings found so far -/
structure CI (F : Fr) (S : List Int) (fo w : List (List Int)) : Prop where
  nd : fo.Nodup
  rc : ∀ T ∈ fo, Rch F S T
  wm : ∀ T ∈ w, T ∈ fo
  fs : S ∈ fo
theorem CI.len {F : Fr} (hF : F.Wf) (hn : F.n ≤ 8) {S : List Int} (hS : SetWf F S) {fo w : List (List Int)} (h : CI F S fo w) : fo.length ≤ 256 := by
  have h1 := nodup_len h.nd (ys := sub (PV.rI F.n)) fun T hT => by
    have hT := (h.rc T hT).wf hF hS
    exact mem_sub _ (asc_subR hT.pw (rI_pw F.n) fun x hx => mem_rI.mpr (hT.rg x hx))
  rw [sub_len, rI_len] at h1
  have : (2 : Nat) ^ F.n.toNat ≤ 2 ^ 8 := Nat.pow_le_pow_right (by omega) (by omega)
  omega
theorem CI.add {F : Fr} (hF : F.Wf) {S : List Int} (hS : SetWf F S) {fo w : List (List Int)} (h : CI F S fo w) {H : List Int} (hH : H ∈ fo) {p : Int × Int} (hp : p ∈ psl F H) (hn : sAft H p.1 p.2 ∉ fo) : CI F S (fo ++ [sAft H p.1 p.2]) (w ++ [sAft H p.1 p.2]) := by
  refine ⟨?_, fun T hT => ?_, fun T hT => ?_, List.mem_append_left _ h.fs⟩
  · rw [List.Nodup, List.pairwise_append]
    exact ⟨h.nd, by simp, fun a ha b hb e => by rw [List.mem_singleton.mp hb] at e; exact hn (e ▸ ha)⟩
  · rcases List.mem_append.mp hT with hT | hT
    · exact h.rc T hT
    · rw [List.mem_singleton.mp hT]; exact (h.rc H hH).trans (Rch.one hp)
  · rcases List.mem_append.mp hT with hT | hT
    · exact List.mem_append_left _ (h.wm T hT)
    · exact List.mem_append_right _ hT
/-- closed -/
noncomputable def CC (F : Fr) (fo w : List (List Int)) : Prop := ∀ T ∈ fo, T ∉ w → ∀ p ∈ psl F T, sAft T p.1 p.2 ∈ fo
theorem CC.all {F : Fr} {S : List Int} {fo : List (List Int)} (h : CC F fo []) : ∀ {ps : List (Int × Int)} {T U : List Int}, T ∈ fo → Chain F T ps U → U ∈ fo
  | [], _, _, hT, c => by cases c; exact hT
  | p :: ps, T, U, hT, ⟨c1, c2⟩ => CC.all (S := S) h (ps := ps) (h T hT (fun z => nomatch z) p c1) c2
structure BV (F : Fr) (k : Int) (st : List (List Int × Int)) (p : List (List Int × Int) × List (List Int)) : Prop where
  ex : ∃ add, p.1 = st ++ add ∧ add.map (·.1) = p.2 ∧ ∀ r ∈ add, r.2 = k + 1 ∧ ∃ Y q, (Y, k) ∈ st ∧ q ∈ psl F Y ∧ sAft Y q.1 q.2 = r.1
theorem BV.one {F : Fr} {k : Int} {st : List (List Int × Int)} {p : List (List Int × Int) × List (List Int)} (b : BV F k st p) {h : List Int} (hh : (h, k) ∈ st) {q : Int × Int} (hq : q ∈ psl F h) : BV F k st (vis1 k h p q) ∧ sAft h q.1 q.2 ∈ (vis1 k h p q).1.map (·.1) ∧ ∀ x ∈ p.1.map (·.1), x ∈ (vis1 k h p q).1.map (·.1) := by
  unfold vis1
  split
  · rename_i hc
    exact ⟨b, hc, fun _ z => z⟩
  · obtain ⟨add, e1, e2, e3⟩ := b.ex
    refine ⟨⟨add ++ [(sAft h q.1 q.2, k + 1)], by rw [e1, List.append_assoc], by rw [List.map_append, e2]; rfl, fun r hr => ?_⟩, by simp, fun x hx => by rw [List.map_append]; exact List.mem_append_left _ hx⟩
    rcases List.mem_append.mp hr with hr | hr
    · exact e3 r hr
    · rw [List.mem_singleton.mp hr]
      exact ⟨rfl, h, q, hh, hq, rfl⟩
theorem BV.fold {F : Fr} {k : Int} {st : List (List Int × Int)} {h : List Int} (hh : (h, k) ∈ st) : ∀ (qs : List (Int × Int)), (∀ q ∈ qs, q ∈ psl F h) → ∀ p, BV F k st p → BV F k st (qs.foldl (vis1 k h) p) ∧ (∀ q ∈ qs, sAft h q.1 q.2 ∈ (qs.foldl (vis1 k h) p).1.map (·.1)) ∧ ∀ x ∈ p.1.map (·.1), x ∈ (qs.foldl (vis1 k h) p).1.map (·.1)
  | [], _, p, b => ⟨b, (fun _ z => nomatch z), fun _ z => z⟩
  | q :: qs, hq, p, b => by
    obtain ⟨b1, b2, b3⟩ := b.one hh (hq q List.mem_cons_self)
    obtain ⟨c1, c2, c3⟩ := BV.fold hh qs (fun r hr => hq r (List.mem_cons_of_mem _ hr)) _ b1
    refine ⟨c1, fun r hr => ?_, fun x hx => c3 x (b3 x hx)⟩
    rcases List.mem_cons.mp hr with rfl | hr
    · exact c3 _ b2
    · exact c2 r hr
theorem BV.lev {F : Fr} {k : Int} {st : List (List Int × Int)} : ∀ (lev : List (List Int)), (∀ h ∈ lev, (h, k) ∈ st) → ∀ p, BV F k st p → BV F k st (lev.foldl (visH F k) p) ∧ (∀ h ∈ lev, ∀ q ∈ psl F h, sAft h q.1 q.2 ∈ (lev.foldl (visH F k) p).1.map (·.1)) ∧ ∀ x ∈ p.1.map (·.1), x ∈ (lev.foldl (visH F k) p).1.map (·.1)
  | [], _, p, b => ⟨b, (fun _ z => nomatch z), fun _ z => z⟩
  | h :: lev, hl, p, b => by
    obtain ⟨b1, b2, b3⟩ := BV.fold (F := F) (hl h List.mem_cons_self) (psl F h) (fun _ z => z) p b
    obtain ⟨c1, c2, c3⟩ := BV.lev lev (fun r hr => hl r (List.mem_cons_of_mem _ hr)) (visH F k p h) b1
    refine ⟨c1, fun r hr q hq => ?_, fun x hx => c3 x (b3 x hx)⟩
    rcases List.mem_cons.mp hr with rfl | hr
    · exact c3 _ (b2 q hq)
    · exact c2 r hr q hq
/-- the state at a level -/
structure BJ (F : Fr) (S : List Int) (k : Int) (st : List (List Int × Int)) (lev : List (List Int)) : Prop where
  k0 : 0 ≤ k
  rc : ∀ p ∈ st, Rch F S p.1 ∧ 0 ≤ p.2 ∧ p.2 ≤ k
  nd : (st.map (·.1)).Nodup
  lv : ∀ T, T ∈ lev ↔ (T, k) ∈ st
  z : ∀ T, (T, 0) ∈ st → T = S
  fs : (S, 0) ∈ st
  pr : ∀ p ∈ st, 0 < p.2 → ∃ Y q, (Y, p.2 - 1) ∈ st ∧ q ∈ psl F Y ∧ sAft Y q.1 q.2 = p.1
  cl : ∀ p ∈ st, p.1 ∉ lev → ∀ q ∈ psl F p.1, ∃ e, (sAft p.1 q.1 q.2, e) ∈ st ∧ e ≤ p.2 + 1
theorem BJ.step {F : Fr} (hF : F.Wf) {S : List Int} {k : Int} {st : List (List Int × Int)} {lev : List (List Int)} (b : BJ F S k st lev) {l : Nat} (bi : BI F l k st lev) : BJ F S (k + 1) (visL F k st lev).1 (visL F k st lev).2 := by
  obtain ⟨bi2, _⟩ := visL_ok hF bi
  obtain ⟨c1, c2, _⟩ := BV.lev (F := F) lev (fun h hh => (b.lv h).mp hh) (st, []) ⟨[], by simp, rfl, fun _ z => nomatch z⟩
  have hnd := bi2.nd
  change BV F k st (visL F k st lev) at c1
  change ∀ h ∈ lev, ∀ q ∈ psl F h, sAft h q.1 q.2 ∈ (visL F k st lev).1.map (·.1) at c2
  obtain ⟨add, e1, e2, e3⟩ := c1.ex
  generalize visL F k st lev = P at hnd c2 e1 e2
  obtain ⟨P1, P2⟩ := P
  simp only at hnd c2 e1 e2 ⊢
  subst e1 e2
  have hk := b.k0
  have hadd : ∀ T d, (T, d) ∈ add → d = k + 1 := fun T d h => (e3 _ h).1
  refine ⟨by omega, fun p hp => ?_, hnd, fun T => ?_, fun T hT => ?_, List.mem_append_left _ b.fs, fun p hp hpos => ?_, fun p hp hl q hq => ?_⟩
  · rcases List.mem_append.mp hp with hp | hp
    · obtain ⟨r1, r2, r3⟩ := b.rc p hp
      exact ⟨r1, r2, by omega⟩
    · obtain ⟨r1, Y, q, r2, r3, r4⟩ := e3 p hp
      rw [← r4, r1]
      exact ⟨(b.rc _ r2).1.trans (Rch.one r3), by omega, by omega⟩
  · rw [List.mem_map, List.mem_append]
    constructor
    · rintro ⟨⟨T', d⟩, hp, rfl⟩
      have := hadd _ _ hp
      subst this
      exact .inr hp
    · rintro (h | h)
      · have := (b.rc _ h).2.2
        simp at this
        omega
      · exact ⟨_, h, rfl⟩
  · rcases List.mem_append.mp hT with h | h
    · exact b.z T h
    · have := hadd _ _ h
      omega
  · rcases List.mem_append.mp hp with hp | hp
    · obtain ⟨Y, q, h1, h2, h3⟩ := b.pr p hp hpos
      exact ⟨Y, q, List.mem_append_left _ h1, h2, h3⟩
    · obtain ⟨r1, Y, q, r2, r3, r4⟩ := e3 p hp
      exact ⟨Y, q, List.mem_append_left _ (by rw [r1, show k + 1 - 1 = k by omega]; exact r2), r3, r4⟩
  · rcases List.mem_append.mp hp with hp | hp
    · by_cases hm : p.1 ∈ lev
      · have hd : p.2 = k := by
          have h1 := (b.lv p.1).mp hm
          have h2 := aget_of b.nd h1
          have h3 := aget_of b.nd (show (p.1, p.2) ∈ st from hp)
          rw [h2] at h3
          cases h3; rfl
        obtain ⟨⟨X, e⟩, hx, e5⟩ := List.mem_map.mp (c2 p.1 hm q hq)
        have e5 : X = sAft p.1 q.1 q.2 := e5
        subst e5
        refine ⟨e, hx, ?_⟩
        rcases List.mem_append.mp hx with h | h
        · have := (b.rc _ h).2.2
          simp at this
          omega
        · have := hadd _ _ h
          omega
      · obtain ⟨e, h1, h2⟩ := b.cl p hp hm q hq
        exact ⟨e, List.mem_append_left _ h1, h2⟩
    · exact absurd (List.mem_map.mpr ⟨p, hp, rfl⟩) hl
theorem BJ.run {F : Fr} (hF : F.Wf) {S : List Int} {l : Nat} : ∀ {n : Nat} {k : Int} {st : List (List Int × Int)} {lev : List (List Int)} {out : List (List Int × Int)}, BJ F S k st lev → BI F l k st lev → Bfs F n k st lev out → BJ F S (k + n) out []
  | 0, k, st, lev, out, b, _, h => by
    cases h
    have : k + ((0 : Nat) : Int) = k := by omega
    rw [this]
    exact b
  | n + 1, k, st, lev, out, b, bi, h => by
    cases h with
    | step _ h2 =>
      have := BJ.run hF (b.step hF bi) (visL_ok hF bi).1 h2
      rw [show k + ((n + 1 : Nat) : Int) = k + 1 + (n : Nat) by omega]
      exact this
theorem stp_bj {F : Fr} (hF : F.Wf) {S : List Int} (h : SetWf F S) : ∃ k, k ≤ 5000 ∧ BJ F S k (stp F S) [] := by
  obtain ⟨n, hn, hb⟩ := stp_bfs hF h
  refine ⟨0 + (n : Int), by omega, BJ.run hF ⟨Int.le_refl _, fun p hp => ?_, by simp, fun T => by simp [eq_comm], fun T hT => by simpa using hT, by simp, fun p hp hpos => ?_, fun p hp hl => ?_⟩ (BI.one h) hb⟩
  · rw [List.mem_singleton.mp hp]; exact ⟨.refl, Int.le_refl _, Int.le_refl _⟩
  · rw [List.mem_singleton.mp hp] at hpos; simp at hpos
  · rw [List.mem_singleton.mp hp] at hl; simp at hl
/-- a chain of n slides leads to a setting whose number is n at the most -/
theorem BJ.chain {F : Fr} {S : List Int} {k : Int} {st : List (List Int × Int)} (b : BJ F S k st []) : ∀ {ps : List (Int × Int)} {T U : List Int} {d : Int}, (T, d) ∈ st → Chain F T ps U → ∃ e, (U, e) ∈ st ∧ e ≤ d + ps.length
  | [], _, _, d, hT, c => by cases c; exact ⟨d, hT, by simp⟩
  | p :: ps, T, U, d, hT, ⟨c1, c2⟩ => by
    obtain ⟨e, h1, h2⟩ := b.cl _ hT (fun z => nomatch z) p c1
    obtain ⟨e', h3, h4⟩ := BJ.chain b (ps := ps) h1 c2
    exact ⟨e', h3, by rw [List.length_cons]; simp only at h2; omega⟩
theorem BJ.mem {F : Fr} {S : List Int} {k : Int} {st : List (List Int × Int)} (b : BJ F S k st []) {T : List Int} : T ∈ st.map (·.1) ↔ Rch F S T := by
  constructor
  · intro h
    obtain ⟨p, hp, rfl⟩ := List.mem_map.mp h
    exact (b.rc p hp).1
  · rintro ⟨ps, c⟩
    obtain ⟨e, h, _⟩ := b.chain b.fs c
    exact List.mem_map.mpr ⟨_, h, rfl⟩
noncomputable def dE (st : List (List Int × Int)) (X : List Int) : Int := (aget st X).getD 0
/-- the slides that bring nearer -/
noncomputable def dcs (F : Fr) (st : List (List Int × Int)) (n : Int) (X : List Int) : List (Int × Int) := (psl F X).filter fun q => decide (dE st (sAft X q.1 q.2) < n)
noncomputable def gp (F : Fr) (st : List (List Int × Int)) : Nat → List Int → List (Int × Int)
  | 0, _ => []
  | n + 1, X => match dcs F st ((n + 1 : Nat) : Int) X with
    | [] => []
    | q :: _ => q :: gp F st n (sAft X q.1 q.2)
noncomputable def plL (F : Fr) (st : List (List Int × Int)) (X : List Int) : List (Int × Int) := gp F st (dE st X).toNat X
noncomputable def plD (F : Fr) (T X : List Int) : PyData := if X ∈ (stp F T).map (·.1) then .tuple ((plL F (stp F T) X).map pr) else .none
theorem gp_succ {F : Fr} {st : List (List Int × Int)} {n : Nat} {X : List Int} {q : Int × Int} {r : List (Int × Int)} (h : dcs F st ((n + 1 : Nat) : Int) X = q :: r) : gp F st (n + 1) X = q :: gp F st n (sAft X q.1 q.2) := by
  show (match dcs F st ((n + 1 : Nat) : Int) X with
    | [] => []
    | q :: _ => q :: gp F st n (sAft X q.1 q.2)) = _
  rw [h]
/-- one step of the numbers -/
structure Nst (F : Fr) (T : List Int) (st : List (List Int × Int)) : Prop where
  nd : (st.map (·.1)).Nodup
  fs : (T, 0) ∈ st
  z : ∀ X, (X, 0) ∈ st → X = T
  rc : ∀ p ∈ st, Rch F T p.1 ∧ 0 ≤ p.2 ∧ p.2 ≤ 5000
  mem : ∀ X, X ∈ st.map (·.1) ↔ Rch F T X
  get : ∀ X d, (X, d) ∈ st → aget st X = some d
  nx : ∀ X d, (X, d) ∈ st → ∀ q ∈ psl F X, ∃ e, (sAft X q.1 q.2, e) ∈ st ∧ d ≤ e + 1 ∧ e ≤ d + 1
  dn : ∀ X d, (X, d) ∈ st → 0 < d → ∃ q ∈ psl F X, (sAft X q.1 q.2, d - 1) ∈ st
theorem nst {F : Fr} (hF : F.Wf) {T : List Int} (hT : SetWf F T) : Nst F T (stp F T) := by
  obtain ⟨N, hN, b⟩ := stp_bj hF hT
  refine ⟨b.nd, b.fs, b.z, fun p hp => ⟨(b.rc p hp).1, (b.rc p hp).2.1, by have := (b.rc p hp).2.2; omega⟩, fun X => b.mem, fun X d h => aget_of b.nd h, fun X d h q hq => ?_, fun X d h hd => ?_⟩
  · have hX : SetWf F X := (b.rc _ h).1.wf hF hT
    obtain ⟨e, h1, h2⟩ := b.cl _ h (fun z => nomatch z) q hq
    obtain ⟨b1, b2⟩ := psl_back hF hX hq
    obtain ⟨e', h3, h4⟩ := b.cl _ h1 (fun z => nomatch z) _ b1
    have h3 : (sAft (sAft X q.1 q.2) q.2 q.1, e') ∈ stp F T := h3
    rw [b2] at h3
    have h5 := aget_of b.nd h3
    have h6 := aget_of b.nd h
    rw [h6] at h5
    cases h5
    exact ⟨e, h1, h4, h2⟩
  · obtain ⟨Y, q0, y1, y2, y3⟩ := b.pr _ h hd
    obtain ⟨z1, z2⟩ := psl_back hF ((b.rc _ y1).1.wf hF hT) y2
    simp only [y3] at z1 z2
    exact ⟨_, z1, by rw [z2]; exact y1⟩
section
variable {F : Fr} {T : List Int} {st : List (List Int × Int)}
theorem Nst.dE (b : Nst F T st) {X : List Int} {d : Int} (h : (X, d) ∈ st) : Rk.dE st X = d := by
  unfold Rk.dE
  rw [b.get X d h]; rfl
theorem Nst.dcs_ne (b : Nst F T st) {X : List Int} {n : Nat} (h : (X, ((n + 1 : Nat) : Int)) ∈ st) : ∃ q r, dcs F st ((n + 1 : Nat) : Int) X = q :: r := by
  obtain ⟨q, hq, hm⟩ := b.dn X _ h (by omega)
  have : q ∈ dcs F st ((n + 1 : Nat) : Int) X := List.mem_filter.mpr ⟨hq, by rw [b.dE hm]; simp; omega⟩
  cases e : dcs F st ((n + 1 : Nat) : Int) X with
  | nil => rw [e] at this; cases this
  | cons q r => exact ⟨q, r, rfl⟩
theorem Nst.dcs_at (b : Nst F T st) {X : List Int} {n : Nat} (h : (X, ((n + 1 : Nat) : Int)) ∈ st) {q : Int × Int} (hq : q ∈ dcs F st ((n + 1 : Nat) : Int) X) : q ∈ psl F X ∧ (sAft X q.1 q.2, (n : Int)) ∈ st := by
  obtain ⟨h1, h2⟩ := List.mem_filter.mp hq
  obtain ⟨e, e1, e2, e3⟩ := b.nx X _ h q h1
  rw [b.dE e1] at h2
  have h2 : e < ((n + 1 : Nat) : Int) := by simpa using h2
  have : e = (n : Int) := by omega
  subst this
  exact ⟨h1, e1⟩
theorem Nst.pl (b : Nst F T st) {X : List Int} {n : Nat} (h : (X, (n : Int)) ∈ st) : plL F st X = gp F st n X := by
  unfold plL
  rw [b.dE h]; rfl
end
theorem plan153_ok (k : Nat) (F : Fr) (hF : F.Wf) (S : List Int) (hS : SetWf F S) (T : List Int) (hT : SetWf F T) (s : DS) : PV.runI tb (k + 5) 153 [.sh F.d, .sh (.tuple (S.map .int)), .sh (.tuple (T.map .int))] s = .ok (.v (plD F T S)) s := by
  have hel := hF.len
  have b := nst hF hT
  refine FS.eq (F_call (fd := ⟨9, 3, B_shortest_plan⟩) rfl rfl ?_)
  unfold B_shortest_plan
  by_cases hm : S ∈ (stp F T).map (·.1)
  rotate_left
  · have e : plD F T S = .none := if_neg hm
    simp! only [steps_ok k F hF T hT, X_wh, pnin_tI, decide_eq_false hm, e]
  have e : plD F T S = .tuple ((plL F (stp F T) S).map pr) := if_pos hm
  obtain ⟨⟨S', d0⟩, hd0, rfl⟩ := List.mem_map.mp hm
  obtain ⟨n0, rfl⟩ : ∃ n0 : Nat, d0 = (n0 : Int) := ⟨d0.toNat, by have := (b.rc _ hd0).2; simp only at this; omega⟩
  rw [e]
  simp only at hS hm
  rw [b.pl hd0]
  simp! only [steps_ok k F hF T hT, X_wh, pnin_tI, decide_eq_true hm]
  have hle := (b.rc _ hd0).2.2
  simp only at hle
  refine RS_wh (fun n m => ∃ (ps : List (Int × Int)) (X : List Int) (a6 a7 a8 : PV.Slot), m = ⟨[.sh F.d, .sh (.tuple (S'.map .int)), .sh (.tuple (T.map .int)), .od true ((stp F T).map (enP tuI .int)), .ol (ps.map pr), .sh (.tuple (X.map .int)), a6, a7, a8], s⟩ ∧ PV.isOwn (some a7) = false ∧ PV.isOwn (some a8) = false ∧ (X, (n : Int)) ∈ stp F T ∧ ps ++ gp F (stp F T) n X = gp F (stp F T) n0 S' ∧ ps.length + n = n0) n0 ⟨[], S', _, .un, .un, rfl, isOwn_un, isOwn_un, hd0, rfl, by simp⟩ (by omega) (fun n m hj => ?_)
  obtain ⟨ps, X, a6, a7, a8, rfl, o7, o8, hXn, hg, hl⟩ := hj
  have hX : SetWf F X := (b.rc _ hXn).1.wf hF hT
  have hXl := hX.len hF
  have hgX := b.get _ _ hXn
  simp! only
  refine ⟨fun h => ?_, fun h => ?_⟩
  · have hne : X ≠ T := by simpa using h
    obtain ⟨n, rfl⟩ : ∃ n', n = n' + 1 := by
      rcases Nat.eq_zero_or_pos n with z | z
      · subst z; exact absurd (b.z X hXn) hne
      · exact ⟨n - 1, by omega⟩
    have hpl := psl_len hF hX
    let E : Int × Int → Int := fun q => dE (stp F T) (sAft X q.1 q.2)
    have hE : ∀ q ∈ psl F X, aget (stp F T) (sAft X q.1 q.2) = some (E q) := fun q hq => by
      obtain ⟨e, h1, _⟩ := b.nx X _ hXn q hq
      show _ = some (dE (stp F T) (sAft X q.1 q.2))
      rw [b.dE h1]; exact b.get _ _ h1
    have hfl : ((psl F X).filter fun q => decide (E q < ((n + 1 : Nat) : Int))).length ≤ (psl F X).length := List.length_filter_le _ _
    obtain ⟨q, r, hq⟩ := b.dcs_ne hXn
    have hqq : (psl F X).filter (fun q => decide (E q < ((n + 1 : Nat) : Int))) = q :: r := hq
    obtain ⟨hqp, hqn⟩ := b.dcs_at hXn (q := q) (by rw [hq]; exact List.mem_cons_self)
    simp! only [possible_slides_ok (k + 1) F (by omega) X (by omega), o7, o8]
    refine ⟨(by simp only [List.length_map, List.length_append, List.length_cons, List.length_nil, LIM]; omega), RS_lc (fun q => decide (E q < ((n + 1 : Nat) : Int))) (fun q => pr q) trivial (fun q hq => ?c) ?d⟩
    case c =>
      have e1 := hE q hq
      simp! only [setting_after_ok (k + 3) X (by omega), opE_idxp, pidx_tI e1, pidx_tI hgX]
    case d =>
      rw [hqq]
      have hp0 : PV.pick ((q :: r).map fun q => .tuple [.int q.1, .int q.2]) 0 = some (.tuple [.int q.1, .int q.2]) := pick_k (by omega) rfl
      simp only [List.map_cons] at hp0
      simp! only [List.map_cons, hp0, setting_after_ok (k + 3) X (by omega)]
      refine ⟨(by simp only [List.length_map, List.length_append, List.length_cons, List.length_nil, LIM]; omega), n, by omega, ps ++ [q], sAft X q.1 q.2, _, .sh (.int q.1), .sh (.int q.2), by rw [List.map_append]; rfl, isOwn_sh, isOwn_sh, hqn, ?_, by rw [List.length_append, List.length_singleton]; omega⟩
      rw [← hg, gp_succ hq, List.append_assoc]; rfl
  · have hne : X = T := by simpa using h
    subst hne
    have hn0 : n = 0 := by
      have h1 := b.get _ _ hXn
      have h2 := b.get _ _ b.fs
      rw [h2] at h1
      simp only [Option.some.injEq] at h1
      omega
    subst hn0
    have hg : ps ++ [] = gp F (stp F X) n0 S' := hg
    rw [List.append_nil] at hg
    rw [hg]
noncomputable def srtS (F : Fr) (T : List Int) : List (List Int × Int) := (stp F T).mergeSort fun a b => decide (a.2 ≤ b.2)
theorem srtS_mem {F : Fr} {T : List Int} {p : List Int × Int} : p ∈ srtS F T ↔ p ∈ stp F T := List.mem_mergeSort
theorem srtS_pw (F : Fr) (T : List Int) : (srtS F T).Pairwise fun a b => a.2 ≤ b.2 := by
  have := List.pairwise_mergeSort (le := fun a b : List Int × Int => decide (a.2 ≤ b.2)) (fun a b c h1 h2 => by simp only [decide_eq_true_eq] at *; omega) (fun a b => by
    by_cases h : a.2 ≤ b.2
    · simp [h]
    · have : b.2 ≤ a.2 := by omega
      simp [this]) (stp F T)
  exact this.imp fun h => by simpa using h
theorem srtS_head {F : Fr} (hF : F.Wf) {T : List Int} (hT : SetWf F T) : ∃ r, srtS F T = (T, 0) :: r := by
  have b := nst hF hT
  have hm : (T, 0) ∈ srtS F T := srtS_mem.mpr b.fs
  cases e : srtS F T with
  | nil => rw [e] at hm; cases hm
  | cons p r =>
    have hpw := srtS_pw F T
    rw [e] at hm hpw
    have hp : p ∈ stp F T := srtS_mem.mp (by rw [e]; exact List.mem_cons_self)
    have h0 := (b.rc p hp).2.1
    have h1 : p.2 ≤ 0 := by
      rcases List.mem_cons.mp hm with z | z
      · rw [← z]; exact Int.le_refl _
      · exact (List.pairwise_cons.mp hpw).1 _ z
    have h2 : p.2 = 0 := by omega
    have h3 : p.1 = T := b.z p.1 (by rw [← h2]; exact hp)
    exact ⟨r, by rw [← h3, ← h2]⟩
theorem srtS_nd {F : Fr} (hF : F.Wf) {T : List Int} (hT : SetWf F T) : ((srtS F T).map (·.1)).Nodup := ((List.mergeSort_perm _ _).map _).nodup_iff.mpr (nst hF hT).nd
theorem sortKD_stp {F : Fr} (hF : F.Wf) {T : List Int} (hT : SetWf F T) : sortKD [.dict ((stp F T).map (enP tuI .int))] = some (.fl ((srtS F T).map fun p : List Int × Int => tuI p.1)) := by
  have e1 : ((stp F T).map (enP tuI .int)).map (·.2) = ((stp F T).map (·.2)).map .int := by rw [List.map_map, List.map_map]; rfl
  have hne : (stp F T).map (enP tuI .int) ≠ [] := by
    obtain ⟨_, add, e⟩ := stp_bi hF hT
    rw [e]; exact fun z => nomatch z
  have hl := stp_len hF (n := 12) (by have := hF.n1; omega) hT
  have hk : keysT ((stp F T).map (enP tuI .int)) = true := by
    unfold keysT
    rw [List.all_eq_true]
    intro p hp
    obtain ⟨q, _, rfl⟩ := List.mem_map.mp hp
    exact keyOk_tI
  show (match toInts (((stp F T).map (enP tuI .int)).map (·.2)) with
    | some _ => if keysT ((stp F T).map (enP tuI .int)) = true ∧ (stp F T).map (enP tuI .int) ≠ [] ∧ ((stp F T).map (enP tuI .int)).length ≤ LIM then some (R.fl ((((stp F T).map (enP tuI .int)).mergeSort (PySem.W.dataLe false fun p : PyData × PyData => p.2)).map fun p : PyData × PyData => p.1)) else none
    | none => none) = _
  rw [e1, toInts_ints]
  simp only
  rw [if_pos ⟨hk, hne, by rw [List.length_map]; exact Nat.le_trans hl (by decide)⟩]
  have em : ((stp F T).mergeSort fun a b => decide (a.2 ≤ b.2)).map (enP tuI .int) = ((stp F T).map (enP tuI .int)).mergeSort (PySem.W.dataLe false fun p : PyData × PyData => p.2) := List.map_mergeSort fun a _ b _ => by
    have := congrFun (congrFun (PySem.W.dataLe_int (β := List Int × Int) fun p => p.2) a) b
    rw [← this]; rfl
  rw [← em, List.map_map]; rfl
noncomputable def gE (f : Int × Int → List (Int × Int)) (q : Int × Int) : PyData := .tuple ((q :: f q).map pr)
theorem alike_prs : ∀ xs ys : List (Int × Int), PySem.W.alikeAll (xs.map pr) (ys.map pr) = true
  | [], ys => by cases ys <;> rfl
  | x :: xs, [] => rfl
  | x :: xs, y :: ys => by
    show (PySem.W.alike (pr x) (pr y) && PySem.W.alikeAll (xs.map pr) (ys.map pr)) = true
    rw [alike_prs xs ys]; rfl
theorem nodA_prs : ∀ xs : List (Int × Int), nodA (xs.map pr) = true
  | [] => rfl
  | x :: xs => by
    show (nod (pr x) && nodA (xs.map pr)) = true
    rw [nodA_prs xs]; rfl
theorem dep_prs : ∀ xs : List (Int × Int), PyData.depthAll (xs.map pr) ≤ 1
  | [] => Nat.zero_le _
  | x :: xs => by
    show max (pr x).depth (PyData.depthAll (xs.map pr)) ≤ 1
    have := dep_prs xs
    have h : (pr x).depth = 1 := rfl
    omega
theorem toks_gE (f : Int × Int → List (Int × Int)) (q : Int × Int) : PySem.W.keyToks (gE f q) = .inl 1 :: .inl 1 :: .inl q.1 :: .inl 1 :: .inl q.2 :: .inl 0 :: PySem.W.keyToksAll ((f q).map pr) := by
  simp [gE, pr, PySem.W.keyToks, PySem.W.keyToksAll]
theorem lt_gE (f : Int × Int → List (Int × Int)) {q q' : Int × Int} (h : leP q q' = true) : PySem.W.dataLt (gE f q') (gE f q) = false := by
  by_cases he : q' = q
  · subst he
    exact PyProof.Rows.lex_irrefl _
  have h : q.1 < q'.1 ∨ q.1 = q'.1 ∧ q.2 ≤ q'.2 := by simpa [leP] using h
  unfold PySem.W.dataLt
  rw [toks_gE, toks_gE, PyProof.Rows.lex_self, PyProof.Rows.lex_self]
  by_cases h1 : q'.1 = q.1
  · rw [h1, PyProof.Rows.lex_self, PyProof.Rows.lex_self]
    have h2 : q'.2 ≠ q.2 := fun z => he (Prod.ext h1 z)
    rw [PyProof.Rows.lex_diff (fun z => h2 (by injection z))]
    show decide (q'.2 < q.2) = false
    rw [decide_eq_false_iff_not]; omega
  · rw [PyProof.Rows.lex_diff (fun z => h1 (by injection z))]
    show decide (q'.1 < q.1) = false
    rw [decide_eq_false_iff_not]; omega
theorem minD_gE (f : Int × Int → List (Int × Int)) {q : Int × Int} : ∀ r : List (Int × Int), (∀ q' ∈ r, leP q q' = true) → PySem.W.minD (gE f q) (r.map (gE f)) = gE f q
  | [], _ => rfl
  | q' :: r, h => by
    show PySem.W.minD (if PySem.W.dataLt (gE f q') (gE f q) then gE f q' else gE f q) (r.map (gE f)) = _
    rw [lt_gE f (h q' List.mem_cons_self)]
    exact minD_gE f r fun x hx => h x (List.mem_cons_of_mem _ hx)
theorem minT_gE (f : Int × Int → List (Int × Int)) {q : Int × Int} {r : List (Int × Int)} (h : ∀ q' ∈ r, leP q q' = true) : PV.minTD [.list ((q :: r).map (gE f))] = some (.v (gE f q)) := by
  have hc : PySem.W.AlikeAll ((q :: r).map (gE f)) ∧ ∀ x ∈ (q :: r).map (gE f), nod x = true ∧ x.depth ≤ 20 := by
    refine ⟨⟨fun a ha b hb => ?_, fun a ha => ?_⟩, fun a ha => ?_⟩
    · obtain ⟨x, _, rfl⟩ := List.mem_map.mp ha
      obtain ⟨y, _, rfl⟩ := List.mem_map.mp hb
      exact alike_prs _ _
    · obtain ⟨x, _, rfl⟩ := List.mem_map.mp ha
      exact fun z => nomatch z
    · obtain ⟨x, _, rfl⟩ := List.mem_map.mp ha
      refine ⟨nodA_prs _, ?_⟩
      have := dep_prs (x :: f x)
      show PyData.depthAll ((x :: f x).map pr) + 1 ≤ 20
      omega
  have e : PV.minTD [.list ((q :: r).map (gE f))] = some (.v (PySem.W.minD (gE f q) (r.map (gE f)))) := if_pos hc
  rw [e, minD_gE f r h]
theorem gp_len {F : Fr} {T : List Int} {st : List (List Int × Int)} (b : Nst F T st) : ∀ {n : Nat} {X : List Int}, (X, (n : Int)) ∈ st → (gp F st n X).length = n
  | 0, _, _ => rfl
  | n + 1, X, h => by
    obtain ⟨q, r, hq⟩ := b.dcs_ne h
    rw [gp_succ hq, List.length_cons, gp_len b (b.dcs_at h (q := q) (by rw [hq]; exact List.mem_cons_self)).2]
theorem due152_ok (k : Nat) (F : Fr) (hF : F.Wf) (S : List Int) (hS : SetWf F S) (T : List Int) (hT : SetWf F T) (s : DS) : PV.runI tb (k + 4) 152 [.sh F.d, .sh (.tuple (S.map .int)), .sh (.tuple (T.map .int))] s = .ok (.v (plD F T S)) s := by
  have hel := hF.len
  have b := nst hF hT
  refine FS.eq (F_call (fd := ⟨10, 3, B__law_due⟩) rfl rfl ?_)
  unfold B__law_due
  by_cases hm : S ∈ (stp F T).map (·.1)
  rotate_left
  · have e : plD F T S = .none := if_neg hm
    simp! only [reached_ok k F hF T hT, pnin_tI, decide_eq_false hm, e]
  have e : plD F T S = .tuple ((plL F (stp F T) S).map pr) := if_pos hm
  obtain ⟨r, hr⟩ := srtS_head hF hT
  have hsk := sortKD_stp hF hT
  rw [hr] at hsk
  have hsk : sortKD [.dict ((stp F T).map (enP tuI .int))] = some (.fl (((T, 0) :: r).map fun p : List Int × Int => tuI p.1)) := hsk
  simp only [reached_ok k F hF T hT, pnin_tI, decide_eq_true hm, keyOk_tI, hsk, PV.truth_none, PV.truth_bool, PV.truth_int, PV.truth_str, PV.truth_list, PV.truth_tuple, PV.truth_dict, PV.strFits_none, PV.strFits_bool, PV.strFits_int, PV.strFits_str, PV.strFits_list, PV.strFits_tuple, PV.strFits_dict, PV.slR_sh, PV.slR_ol, PV.slR_od, PV.slR_dk, PV.vOf_v, PV.bOf_b, PV.noPD_v, PV.noPD_fl, PV.noPD_fd, PV.deref_v, PV.deref_fl, PV.deref_fd, PV.slotD_ol, PV.slotD_od, PV.slotD_sh, PV.derefs_nil, PV.derefs_c, PV.esc_v, PV.esc_fl, PV.esc_fd, PV.esc_pl, PV.escS_ol, PV.escS_od, PV.escS_sh, PV.escs_nil, PV.escs_c, PV.toArgs_nil, PV.toArgs_dk, PV.toArgs_v, PV.toArgs_fl, PV.toArgs_fd, PV.toArgs_pl, PV.setR_v, PV.setR_fl, PV.setR_fd, PV.setR_dk, PV.setR_pl, PV.setRs_nil, PV.setRs_c, PV.items_l, PV.items_t, PV.items_fl, PV.items_pl, PV.itS_ol, PV.itS_sh, PV.isOwn_ol, PV.isOwn_od, PV.isOwn_sh, PV.isOwn_un, PV.isOwn_dk, PV.isOwn_no, PV.olAt_ol, PV.finS_ol, PV.finS_od, PV.finS_sh, PV.zipR_tt, PV.zipR_ll, PV.zipR_ff, PV.zipR_lf, PV.zipR_fl, PV.zipL_ll, PV.zipL_ff, PV.zipL_lf, PV.zipL_fl, PV.noPl_nil, PV.noPl_v, PV.noPl_fl, PV.noPl_fd, PV.noPl_dk, PV.hasPl_nil, PV.hasPl_v, PV.hasPl_fl, PV.hasPl_fd, PV.hasPl_dk, PV.hasPl_pl, PV.flatR_v, PV.bind1_nm, PV.bind1_tp, PV.bind1_tl, PV.bindL_nil, PV.bindL_c, PV.deref_pl, PV.eq_str, PV.ne_str, PV.flat_b, PV.flat_i, PV.flat_s, PV.flat_n, PV.V_c, PV.V_x, PV.V_op, PV.V_call, PV.V_tup, PV.V_lst, PV.V_emp, PV.V_and, PV.V_or, PV.V_ite, PV.V_mut, PV.M_app, PV.M_pop, PV.M_popAt, PV.M_ext, PV.M_rem, PV.M_ins, PV.V_ofT, PV.V_dsp, PV.V_chn, PV.V_lc, PV.V_dc, PV.bdT_eq, PV.bdS_eq, PV.ownOk, PV.VI_zip, PV.VI_zpl, PV.VI_zp3, PV.zip3R_t, PV.X_raise1, PV.V_xf, PV.xfR_s, PV.exSlot_s, PV.X_sub, PV.X_swp, PV.subR, PV.Vs_nil, PV.Vs_cons, PV.VT_yes, PV.VT_e, PV.VT_and, PV.VT_or, PV.VT_not, PV.VI_e, PV.VI_rng, PV.VI_enm, PV.X_nil, PV.X_cons, PV.X_set, PV.X_unp, PV.X_par, PV.X_ex, PV.X_ret, PV.X_retN, PV.X_ite, PV.X_lop, PV.X_pass, PV.X_brk, PV.X_cont, PV.V_dcT, PV.V_updT, PV.VI_txt, PV.VI_rg3, PV.odTAt_od, PV.fdTOf_fd, PV.strOf_s, PV.nxt_nx, PV.nxt_brk, PV.nxt_ct, PV.nxt_rt, PV.finF_nx, PV.finF_v, PV.finF_fl, PV.finF_fd, PV.finF_pl, PV.RS_ok, PV.RS_rz, PV.RS_bad, PV.FS_ok, PV.FS_rz, PV.FS_bad, PV.OS_some, PV.OS_none, PV.OS_map, PV.OS_ite, PV.callOk, PV.rzOk, PV.flatO, PV.opE_v2, PV.opE_vf, PV.opE_fv, PV.opE_ff, PV.opE_n_add, PV.opE_n_sub, PV.opE_n_mul, PV.opE_n_fdiv, PV.opE_n_mod, PV.opE_n_pow, PV.opE_n_neg, PV.opE_n_eq, PV.opE_n_ne, PV.opE_n_lt, PV.opE_n_le, PV.opE_n_gt, PV.opE_n_ge, PV.opE_n_isN, PV.opE_n_notN, PV.opE_n_len, PV.opE_n_tuple, PV.opE_n_list, PV.opE_n_lrng, PV.opE_n_sorted, PV.opE_n_abs, PV.opE_n_min2, PV.opE_n_max2, PV.opE_n_min1, PV.opE_n_max1, PV.opE_n_sum, PV.opE_n_any, PV.opE_n_all, PV.opE_n_int, PV.opE_n_str, PV.opE_n_repr, PV.opE_n_not, PV.opE_n_idi, PV.opE_n_rev, PV.opE_n_sl, PV.opE_n_isi, PV.opE_n_g, PV.opE_inp, PV.opE_notinp, PV.opE_idxp, PV.pidx_ol, PV.pinn_ol, PV.pnin_ol, PV.opD, PV.clear, PV.back, PV.mutOk, PV.srcFree, PV.slotA, PV.keyOk, PV.toKey, PV.addD, PV.subD, PV.negD, PV.cmpR, PV.cmpD, PV.isND, PV.notND, PV.isiD, PV.isKind, PV.notD, PV.lenD, PV.tupleD, PV.listD, PV.inD, PV.notinD, PV.idxD_t, PV.idxD_l, PV.eqD_nil0, PV.neD_nil0, PV.eqD_lI0, PV.neD_lI0, PV.eqD_lP0, PV.neD_lP0, PV.eqD_tI0, PV.neD_tI0, PV.eqD_tP0, PV.neD_tP0, PV.eqD_p, PV.neD_p, PV.eqD_b2, PV.neD_b2, PV.eqD_int, PV.neD_int, PV.eqD_tI, PV.neD_tI, PV.eqD_lI, PV.neD_lI, PV.eqD_tP, PV.neD_tP, PV.eqD_lP, PV.neD_lP, PV.gD, PV.isBD, PV.hasD_tI, PV.hasD_lI, PV.hasD_tP', PV.hasD_lP', PV.lim0, PV.lim1, PV.lim2, PV.lim3, PV.lim4, PV.lim5, PV.lim6, PV.lim7, PV.lim8, PV.lim9, PV.lim10, PV.lim11, PV.lim12, PV.lim17, PV.lim26, PV.pr, PV.srcOk, PV.min2D, PV.max2D, PV.rng_1, PV.rng_2, PV.lrng_1, PV.slD, PV.cut_1, PV.cut_m1, PV.zip_ints, PV.enum_map, PV.allD, PV.anyD, PV.toBls_map, PV.pick_0, PV.pick_1, PV.pick_2, PV.pick_3, PV.srt_ints, PV.srt_prs, PV.sortedD, PV.toInts_ints, Option.isSome_some, Option.isSome_none, List.all_cons, List.all_nil, List.getElem?_cons_zero, List.getElem?_cons_succ, List.set_cons_zero, List.set_cons_succ, List.map_cons, List.map_nil, List.length_cons, List.length_nil, List.replicate_succ, List.replicate_zero, List.append_nil, List.nil_append, List.cons_append, Option.map_some, Option.map_none, Option.bind_some, Option.bind_none, Option.getD_some, Bool.not_true, Bool.not_false, Bool.false_or, Bool.true_or, Bool.or_true, Bool.or_false, Bool.true_and, Bool.false_and, Bool.and_true, Bool.and_false, BEq.rfl, not_true_eq_false, forall_const, true_implies, false_implies, and_true, true_and, and_self, Bool.false_eq_true, reduceCtorEq, ne_eq, not_false_eq_true, decide_true, decide_false, decide_eq_true_eq, decide_eq_false_iff_not, PV.cast0, PV.cast1, PV.cast2, PV.cast3, PV.cast4, PV.cast5, PV.cast6, PV.cast7, PV.cast8, PV.cast9, PV.cast10, PV.cast11, PV.cast12, Int.reduceEq, Int.reduceLT, Int.reduceLE, Int.reduceGT, Int.reduceGE, Int.reduceAdd, Int.reduceSub, Int.reduceNeg, Int.reduceNe, Nat.reduceSub, Nat.reduceAdd, if_true, if_false, ite_true, ite_false, reduceIte, implies_true, Rk.idxD_F0, Rk.idxD_F1, -PV.keyOk]
  rw [e]
  have hdr : List.drop 1 (tuI T :: List.map (fun p : List Int × Int => tuI p.1) r) = r.map fun p => tuI p.1 := rfl
  rw [hdr]
  let rk : List (List Int × Int) → List (List Int × List (Int × Int)) := fun l => ((T, 0) :: l).map fun p => (p.1, plL F (stp F T) p.1)
  have hrk0 : (rk []).map (enP tuI fun ps => .tuple (ps.map pr)) = [(.tuple (T.map .int), .tuple [])] := by
    show [(tuI T, PyData.tuple ((plL F (stp F T) T).map pr))] = _
    rw [b.pl (n := 0) b.fs]; rfl
  have hrm : ∀ p ∈ r, p ∈ stp F T := fun p hp => srtS_mem.mp (by rw [hr]; exact List.mem_cons_of_mem _ hp)
  refine RS_lop (enc := fun p : List Int × Int => tuI p.1) (fun done rest m => ∃ a5 a6 a7 a8 a9, m = ⟨[.sh F.d, .sh (.tuple (S.map .int)), .sh (.tuple (T.map .int)), .od true ((stp F T).map (enP tuI .int)), .od true ((rk done).map (enP tuI fun ps => .tuple (ps.map pr))), a5, a6, a7, a8, a9], s⟩) ⟨.un, .un, .un, .un, .un, by rw [hrk0]⟩ (fun _ _ _ _ => trivial) (fun done Y rest m hv hj => ?a) (fun m hj => ?b)
  case b =>
    obtain ⟨a5, a6, a7, a8, a9, rfl⟩ := hj
    have hget : aget (rk r) S = some (plL F (stp F T) S) := by
      refine aget_of ?_ ?_
      · have := srtS_nd hF hT
        rw [hr] at this
        show ((((T, 0) :: r).map fun p : List Int × Int => (p.1, plL F (stp F T) p.1)).map (·.1)).Nodup
        rw [List.map_map]; exact this
      · obtain ⟨⟨S', d⟩, h1, rfl⟩ := List.mem_map.mp hm
        exact List.mem_map.mpr ⟨(S', d), by rw [← hr]; exact srtS_mem.mpr h1, rfl⟩
    simp! only [opE_idxp, pidx_tI hget]
  case a =>
    obtain ⟨a5, a6, a7, a8, a9, rfl⟩ := hj
    obtain ⟨X, d⟩ := Y
    have hXd : (X, d) ∈ stp F T := hrm _ (by rw [hv]; simp)
    have hX : SetWf F X := (b.rc _ hXd).1.wf hF hT
    have hnd := srtS_nd hF hT
    have hpw := srtS_pw F T
    rw [hr, hv] at hnd hpw
    have hne : X ≠ T := fun z => by
      rw [List.map_cons, List.map_append, List.map_cons] at hnd
      exact (List.pairwise_cons.mp hnd).1 X (by simp) z.symm
    obtain ⟨n, rfl⟩ : ∃ n : Nat, d = ((n + 1 : Nat) : Int) := by
      have h0 := (b.rc _ hXd).2.1
      simp only at h0
      rcases Int.lt_or_eq_of_le h0 with z | z
      · exact ⟨d.toNat - 1, by omega⟩
      · exact absurd (b.z X (by rw [z]; exact hXd)) hne
    -- what is nearer is done
    have hdone : ∀ Z, (Z, (n : Int)) ∈ stp F T → aget (rk done) Z = some (gp F (stp F T) n Z) := fun Z hZ => by
      rw [← b.pl hZ]
      refine aget_of ?_ ?_
      · have e : (rk done).map (·.1) = (((T, 0) :: done).map (·.1) : List (List Int)) := by
          show ((((T, 0) :: done).map fun p : List Int × Int => (p.1, plL F (stp F T) p.1)).map (·.1)) = _
          rw [List.map_map]; rfl
        rw [e]
        rw [show (T, (0 : Int)) :: (done ++ (X, ((n + 1 : Nat) : Int)) :: rest) = ((T, 0) :: done) ++ (X, ((n + 1 : Nat) : Int)) :: rest from rfl, List.map_append] at hnd
        exact (List.pairwise_append.mp hnd).1
      · have h1 : (Z, (n : Int)) ∈ srtS F T := srtS_mem.mpr hZ
        rw [hr, hv] at h1
        have h2 : (Z, (n : Int)) ∈ ((T, 0) :: done : List (List Int × Int)) ++ (X, ((n + 1 : Nat) : Int)) :: rest := h1
        have hpw2 : (((T, 0) :: done : List (List Int × Int)) ++ (X, ((n + 1 : Nat) : Int)) :: rest).Pairwise fun a b => a.2 ≤ b.2 := hpw
        rcases List.mem_append.mp h2 with z | z
        · exact List.mem_map.mpr ⟨_, z, rfl⟩
        · exfalso
          rcases List.mem_cons.mp z with z | z
          · have := congrArg Prod.snd z
            simp only at this; omega
          · have := (List.pairwise_cons.mp (List.pairwise_append.mp hpw2).2.1).1 _ z
            simp only at this; omega
    have hpl := psl_len hF hX
    have hXl := hX.len hF
    simp! only [tuI, slides265_ok (k + 1) F hF X hX]
    refine RS_lop (enc := pr) (xs := psl F X) (fun d2 r2 m => ∃ a7 a8 a9, m = ⟨[.sh F.d, .sh (.tuple (S.map .int)), .sh (.tuple (T.map .int)), .od true ((stp F T).map (enP tuI .int)), .od true ((rk done).map (enP tuI fun ps => .tuple (ps.map pr))), .sh (.tuple (X.map .int)), .ol ((d2.filter fun q => decide (dE (stp F T) (sAft X q.1 q.2) < ((n + 1 : Nat) : Int))).map (gE fun q => gp F (stp F T) n (sAft X q.1 q.2))), a7, a8, a9], s⟩) ⟨_, _, _, rfl⟩ (fun _ _ _ _ => trivial) (fun d2 q r2 m hq hj => ?c) (fun m hj => ?d)
    case c =>
      obtain ⟨a7, a8, a9, rfl⟩ := hj
      have hqm : q ∈ psl F X := by rw [hq]; simp
      have hd2 : d2.length ≤ 144 := by rw [hq, List.length_append] at hpl; omega
      have hmv := moved_ok (k + 2) F hF X hX q.1 q.2 (mem_psl.mp hqm).1 s
      obtain ⟨e, e1, e2, _⟩ := b.nx X _ hXd q hqm
      have hdE := b.dE e1
      have hga := b.get _ _ e1
      have hgX := b.get _ _ hXd
      have hfl : (d2.filter fun q => decide (dE (stp F T) (sAft X q.1 q.2) < ((n + 1 : Nat) : Int))).length ≤ d2.length := List.length_filter_le _ _
      by_cases he : e < ((n + 1 : Nat) : Int)
      · have hen : e = (n : Int) := by omega
        subst hen
        have hdn := hdone _ e1
        have hgl := gp_len b e1
        have hn5 := (b.rc _ e1).2.2
        simp only at hn5
        have hf1 : [q].filter (fun q => decide (dE (stp F T) (sAft X q.1 q.2) < ((n + 1 : Nat) : Int))) = [q] := by
          rw [List.filter_cons_of_pos (by rw [hdE]; exact decide_eq_true he)]; rfl
        simp! only [hmv, opE_idxp, pidx_tI hga, pidx_tI hgX, pidx_tI hdn, he]
        refine ⟨by rw [List.length_map, hgl]; exact Nat.le_trans (m := 5001) (by omega) (by decide), by rw [List.length_map]; exact Nat.lt_of_le_of_lt (Nat.le_trans hfl hd2) (by decide), .sh (.int q.1), .sh (.int q.2), .sh (.tuple ((sAft X q.1 q.2).map .int)), ?_⟩
        rw [List.filter_append, hf1, List.map_append]; rfl
      · have hf0 : [q].filter (fun q => decide (dE (stp F T) (sAft X q.1 q.2) < ((n + 1 : Nat) : Int))) = [] := by
          rw [List.filter_cons_of_neg (by rw [hdE]; simpa using he)]; rfl
        simp! only [hmv, opE_idxp, pidx_tI hga, pidx_tI hgX, he]
        refine ⟨.sh (.int q.1), .sh (.int q.2), .sh (.tuple ((sAft X q.1 q.2).map .int)), ?_⟩
        rw [List.filter_append, hf0, List.append_nil]
    case d =>
      obtain ⟨a7, a8, a9, rfl⟩ := hj
      obtain ⟨q, rr, hq⟩ := b.dcs_ne hXd
      have hqq : (psl F X).filter (fun q => decide (dE (stp F T) (sAft X q.1 q.2) < ((n + 1 : Nat) : Int))) = q :: rr := hq
      have hmin : minTD [.list (((psl F X).filter fun q => decide (dE (stp F T) (sAft X q.1 q.2) < ((n + 1 : Nat) : Int))).map (gE fun q => gp F (stp F T) n (sAft X q.1 q.2)))] = some (.v (gE (fun q => gp F (stp F T) n (sAft X q.1 q.2)) q)) := by
        rw [hqq]
        refine minT_gE _ fun q' hq' => ?_
        have hp := (psl_pw hF hX.pw).filter fun q => decide (dE (stp F T) (sAft X q.1 q.2) < ((n + 1 : Nat) : Int))
        rw [hqq] at hp
        exact (List.pairwise_cons.mp hp).1 q' hq'
      have hgq : gE (fun q => gp F (stp F T) n (sAft X q.1 q.2)) q = .tuple ((plL F (stp F T) X).map pr) := by
        rw [b.pl hXd, gp_succ hq]; rfl
      have hnew : aget (rk done) X = none := by
        refine aget_none.mpr fun z => ?_
        have e : (rk done).map (·.1) = (((T, 0) :: done).map (·.1) : List (List Int)) := by
          show ((((T, 0) :: done).map fun p : List Int × Int => (p.1, plL F (stp F T) p.1)).map (·.1)) = _
          rw [List.map_map]; rfl
        rw [e] at z
        rw [show (T, (0 : Int)) :: (done ++ (X, ((n + 1 : Nat) : Int)) :: rest) = ((T, 0) :: done) ++ (X, ((n + 1 : Nat) : Int)) :: rest from rfl, List.map_append] at hnd
        exact (List.pairwise_append.mp hnd).2.2 X z X (by simp) rfl
      have hput : putD ((rk done).map (enP tuI fun ps => .tuple (ps.map pr))) (.tuple (X.map .int)) (.tuple ((plL F (stp F T) X).map pr)) = (rk (done ++ [(X, ((n + 1 : Nat) : Int))])).map (enP tuI fun ps => .tuple (ps.map pr)) := by
        have := putD_new (f := tuI) (g := fun ps : List (Int × Int) => PyData.tuple (ps.map pr)) tuI_inj (v := plL F (stp F T) X) hnew
        have e : rk (done ++ [(X, ((n + 1 : Nat) : Int))]) = rk done ++ [(X, plL F (stp F T) X)] := by
          show ((((T, 0) :: done : List (List Int × Int)) ++ [(X, ((n + 1 : Nat) : Int))]).map fun p : List Int × Int => (p.1, plL F (stp F T) p.1)) = _
          rw [List.map_append]; rfl
        rw [e]; exact this
      rw [hgq] at hmin
      have hrl : done.length ≤ 4096 := by
        have h1 := stp_len hF (n := 12) (by have := hF.n1; omega) hT
        have h2 : (srtS F T).length = (stp F T).length := List.length_mergeSort _
        rw [hr, hv, List.length_cons, List.length_append] at h2
        have : (2 : Nat) ^ 12 = 4096 := rfl
        omega
      simp only [hmin, keyOk_tI, hput, PV.truth_none, PV.truth_bool, PV.truth_int, PV.truth_str, PV.truth_list, PV.truth_tuple, PV.truth_dict, PV.strFits_none, PV.strFits_bool, PV.strFits_int, PV.strFits_str, PV.strFits_list, PV.strFits_tuple, PV.strFits_dict, PV.slR_sh, PV.slR_ol, PV.slR_od, PV.slR_dk, PV.vOf_v, PV.bOf_b, PV.noPD_v, PV.noPD_fl, PV.noPD_fd, PV.deref_v, PV.deref_fl, PV.deref_fd, PV.slotD_ol, PV.slotD_od, PV.slotD_sh, PV.derefs_nil, PV.derefs_c, PV.esc_v, PV.esc_fl, PV.esc_fd, PV.esc_pl, PV.escS_ol, PV.escS_od, PV.escS_sh, PV.escs_nil, PV.escs_c, PV.toArgs_nil, PV.toArgs_dk, PV.toArgs_v, PV.toArgs_fl, PV.toArgs_fd, PV.toArgs_pl, PV.setR_v, PV.setR_fl, PV.setR_fd, PV.setR_dk, PV.setR_pl, PV.setRs_nil, PV.setRs_c, PV.items_l, PV.items_t, PV.items_fl, PV.items_pl, PV.itS_ol, PV.itS_sh, PV.isOwn_ol, PV.isOwn_od, PV.isOwn_sh, PV.isOwn_un, PV.isOwn_dk, PV.isOwn_no, PV.olAt_ol, PV.finS_ol, PV.finS_od, PV.finS_sh, PV.zipR_tt, PV.zipR_ll, PV.zipR_ff, PV.zipR_lf, PV.zipR_fl, PV.zipL_ll, PV.zipL_ff, PV.zipL_lf, PV.zipL_fl, PV.noPl_nil, PV.noPl_v, PV.noPl_fl, PV.noPl_fd, PV.noPl_dk, PV.hasPl_nil, PV.hasPl_v, PV.hasPl_fl, PV.hasPl_fd, PV.hasPl_dk, PV.hasPl_pl, PV.flatR_v, PV.bind1_nm, PV.bind1_tp, PV.bind1_tl, PV.bindL_nil, PV.bindL_c, PV.deref_pl, PV.eq_str, PV.ne_str, PV.flat_b, PV.flat_i, PV.flat_s, PV.flat_n, PV.V_c, PV.V_x, PV.V_op, PV.V_call, PV.V_tup, PV.V_lst, PV.V_emp, PV.V_and, PV.V_or, PV.V_ite, PV.V_mut, PV.M_app, PV.M_pop, PV.M_popAt, PV.M_ext, PV.M_rem, PV.M_ins, PV.V_ofT, PV.V_dsp, PV.V_chn, PV.V_lc, PV.V_dc, PV.bdT_eq, PV.bdS_eq, PV.ownOk, PV.VI_zip, PV.VI_zpl, PV.VI_zp3, PV.zip3R_t, PV.X_raise1, PV.V_xf, PV.xfR_s, PV.exSlot_s, PV.X_sub, PV.X_swp, PV.subR, PV.Vs_nil, PV.Vs_cons, PV.VT_yes, PV.VT_e, PV.VT_and, PV.VT_or, PV.VT_not, PV.VI_e, PV.VI_rng, PV.VI_enm, PV.X_nil, PV.X_cons, PV.X_set, PV.X_unp, PV.X_par, PV.X_ex, PV.X_ret, PV.X_retN, PV.X_ite, PV.X_lop, PV.X_pass, PV.X_brk, PV.X_cont, PV.V_dcT, PV.V_updT, PV.VI_txt, PV.VI_rg3, PV.odTAt_od, PV.fdTOf_fd, PV.strOf_s, PV.nxt_nx, PV.nxt_brk, PV.nxt_ct, PV.nxt_rt, PV.finF_nx, PV.finF_v, PV.finF_fl, PV.finF_fd, PV.finF_pl, PV.RS_ok, PV.RS_rz, PV.RS_bad, PV.FS_ok, PV.FS_rz, PV.FS_bad, PV.OS_some, PV.OS_none, PV.OS_map, PV.OS_ite, PV.callOk, PV.rzOk, PV.flatO, PV.opE_v2, PV.opE_vf, PV.opE_fv, PV.opE_ff, PV.opE_n_add, PV.opE_n_sub, PV.opE_n_mul, PV.opE_n_fdiv, PV.opE_n_mod, PV.opE_n_pow, PV.opE_n_neg, PV.opE_n_eq, PV.opE_n_ne, PV.opE_n_lt, PV.opE_n_le, PV.opE_n_gt, PV.opE_n_ge, PV.opE_n_isN, PV.opE_n_notN, PV.opE_n_len, PV.opE_n_tuple, PV.opE_n_list, PV.opE_n_lrng, PV.opE_n_sorted, PV.opE_n_abs, PV.opE_n_min2, PV.opE_n_max2, PV.opE_n_min1, PV.opE_n_max1, PV.opE_n_sum, PV.opE_n_any, PV.opE_n_all, PV.opE_n_int, PV.opE_n_str, PV.opE_n_repr, PV.opE_n_not, PV.opE_n_idi, PV.opE_n_rev, PV.opE_n_sl, PV.opE_n_isi, PV.opE_n_g, PV.opE_inp, PV.opE_notinp, PV.opE_idxp, PV.pidx_ol, PV.pinn_ol, PV.pnin_ol, PV.opD, PV.clear, PV.back, PV.mutOk, PV.srcFree, PV.slotA, PV.keyOk, PV.toKey, PV.addD, PV.subD, PV.negD, PV.cmpR, PV.cmpD, PV.isND, PV.notND, PV.isiD, PV.isKind, PV.notD, PV.lenD, PV.tupleD, PV.listD, PV.inD, PV.notinD, PV.idxD_t, PV.idxD_l, PV.eqD_nil0, PV.neD_nil0, PV.eqD_lI0, PV.neD_lI0, PV.eqD_lP0, PV.neD_lP0, PV.eqD_tI0, PV.neD_tI0, PV.eqD_tP0, PV.neD_tP0, PV.eqD_p, PV.neD_p, PV.eqD_b2, PV.neD_b2, PV.eqD_int, PV.neD_int, PV.eqD_tI, PV.neD_tI, PV.eqD_lI, PV.neD_lI, PV.eqD_tP, PV.neD_tP, PV.eqD_lP, PV.neD_lP, PV.gD, PV.isBD, PV.hasD_tI, PV.hasD_lI, PV.hasD_tP', PV.hasD_lP', PV.lim0, PV.lim1, PV.lim2, PV.lim3, PV.lim4, PV.lim5, PV.lim6, PV.lim7, PV.lim8, PV.lim9, PV.lim10, PV.lim11, PV.lim12, PV.lim17, PV.lim26, PV.pr, PV.srcOk, PV.min2D, PV.max2D, PV.rng_1, PV.rng_2, PV.lrng_1, PV.slD, PV.cut_1, PV.cut_m1, PV.zip_ints, PV.enum_map, PV.allD, PV.anyD, PV.toBls_map, PV.pick_0, PV.pick_1, PV.pick_2, PV.pick_3, PV.srt_ints, PV.srt_prs, PV.sortedD, PV.toInts_ints, Option.isSome_some, Option.isSome_none, List.all_cons, List.all_nil, List.getElem?_cons_zero, List.getElem?_cons_succ, List.set_cons_zero, List.set_cons_succ, List.map_cons, List.map_nil, List.length_cons, List.length_nil, List.replicate_succ, List.replicate_zero, List.append_nil, List.nil_append, List.cons_append, Option.map_some, Option.map_none, Option.bind_some, Option.bind_none, Option.getD_some, Bool.not_true, Bool.not_false, Bool.false_or, Bool.true_or, Bool.or_true, Bool.or_false, Bool.true_and, Bool.false_and, Bool.and_true, Bool.and_false, BEq.rfl, not_true_eq_false, forall_const, true_implies, false_implies, and_true, true_and, and_self, Bool.false_eq_true, reduceCtorEq, ne_eq, not_false_eq_true, decide_true, decide_false, decide_eq_true_eq, decide_eq_false_iff_not, PV.cast0, PV.cast1, PV.cast2, PV.cast3, PV.cast4, PV.cast5, PV.cast6, PV.cast7, PV.cast8, PV.cast9, PV.cast10, PV.cast11, PV.cast12, Int.reduceEq, Int.reduceLT, Int.reduceLE, Int.reduceGT, Int.reduceGE, Int.reduceAdd, Int.reduceSub, Int.reduceNeg, Int.reduceNe, Nat.reduceSub, Nat.reduceAdd, if_true, if_false, ite_true, ite_false, reduceIte, implies_true, Rk.idxD_F0, Rk.idxD_F1, -PV.keyOk]
      exact ⟨by rw [List.length_map]; show ((((T, 0) :: done).map fun p : List Int × Int => (p.1, plL F (stp F T) p.1))).length < LIM; rw [List.length_map, List.length_cons]; exact Nat.lt_of_le_of_lt (Nat.succ_le_succ hrl) (by decide), _, _, _, _, _, rfl⟩
theorem dist_all {F : Fr} {T : List Int} {st : List (List Int × Int)} (b : Nst F T st) : ∀ (n : Nat) (X : List Int), (X, (n : Int)) ∈ st → ∀ j : Nat, j ≤ n → ∃ Y, (Y, (j : Int)) ∈ st
  | 0, X, h, j, hj => ⟨X, by rw [show j = 0 by omega]; exact h⟩
  | n + 1, X, h, j, hj => by
    by_cases z : j = n + 1
    · subst z; exact ⟨X, h⟩
    · obtain ⟨q, _, hm⟩ := b.dn X _ h (by omega)
      rw [show ((n + 1 : Nat) : Int) - 1 = (n : Int) by omega] at hm
      exact dist_all b n _ hm j (by omega)
theorem dist_lt {F : Fr} {T : List Int} {st : List (List Int × Int)} (b : Nst F T st) {n : Nat} {X : List Int} (h : (X, (n : Int)) ∈ st) : n + 1 ≤ st.length := by
  have nd : ((List.range (n + 1)).map fun i : Nat => (i : Int)).Nodup := by
    exact List.pairwise_map.mpr (List.nodup_range.imp fun h z => h (by omega))
  have := nodup_len nd (ys := st.map (·.2)) fun x hx => by
    obtain ⟨i, hi, rfl⟩ := List.mem_map.mp hx
    obtain ⟨Y, hY⟩ := dist_all b n X h i (by have := List.mem_range.mp hi; omega)
    exact List.mem_map.mpr ⟨_, hY, rfl⟩
  rw [List.length_map, List.length_map, List.length_range] at this
  exact this
theorem rch_lenK {F : Fr} {S T : List Int} (h : Rch F S T) : T.length = S.length := by
  obtain ⟨ps, c⟩ := h
  induction ps generalizing S with
  | nil => cases c; rfl
  | cons p ps ih => rw [ih c.2]; exact sAft_len
noncomputable def two2 : List (Int × Int) := (PV.rI 13).flatMap fun a => (PV.rI 13).map fun b => (a - 1, b - 1)
theorem stp_two {F : Fr} (hF : F.Wf) {S : List Int} (hS : SetWf F S) (h2 : S.length ≤ 2) : (stp F S).length ≤ 169 := by
  have b := nst hF hS
  have n1 := hF.n1
  have hX : ∀ p ∈ stp F S, SetWf F p.1 ∧ p.1.length ≤ 2 := fun p hp => ⟨(b.rc p hp).1.wf hF hS, by rw [rch_lenK (b.rc p hp).1]; exact h2⟩
  have nd : ((stp F S).map fun p => (p.1.getD 0 (-1), p.1.getD 1 (-1))).Nodup := by
    have e : ((stp F S).map fun p => (p.1.getD 0 (-1), p.1.getD 1 (-1))) = ((stp F S).map (·.1)).map fun X => (X.getD 0 (-1), X.getD 1 (-1)) := by rw [List.map_map]; rfl
    rw [e]
    have hnd := b.nd
    have hX' : ∀ X ∈ (stp F S).map (·.1), SetWf F X ∧ X.length ≤ 2 := fun X hX0 => by
      obtain ⟨p, hp, rfl⟩ := List.mem_map.mp hX0
      exact hX p hp
    generalize (stp F S).map (·.1) = L at hnd hX'
    induction L with
    | nil => exact List.nodup_nil
    | cons X L ih =>
      obtain ⟨h1, h3⟩ := List.nodup_cons.mp hnd
      rw [List.map_cons]
      refine List.nodup_cons.mpr ⟨fun z => ?_, ih h3 fun Y hY => hX' Y (List.mem_cons_of_mem _ hY)⟩
      obtain ⟨Y, hY, e⟩ := List.mem_map.mp z
      obtain ⟨wX, lX⟩ := hX' X List.mem_cons_self
      obtain ⟨wY, lY⟩ := hX' Y (List.mem_cons_of_mem _ hY)
      refine h1 (?_ : X ∈ L)
      have : Y = X := by
        injection e with e1 e2
        match X, Y, lX, lY, wX, wY with
        | [], [], _, _, _, _ => rfl
        | [], y :: _, _, _, _, wY => have := wY.rg y (by simp); simp at e1; omega
        | x :: _, [], _, _, wX, _ => have := wX.rg x (by simp); simp at e1; omega
        | [x], [y], _, _, _, _ => simp at e1; rw [e1]
        | [x], [y, y2], _, _, _, wY => have := wY.rg y2 (by simp); simp at e2; omega
        | [x, x2], [y], _, _, wX, _ => have := wX.rg x2 (by simp); simp at e2; omega
        | [x, x2], [y, y2], _, _, _, _ => simp at e1 e2; rw [e1, e2]
        | _ :: _ :: _ :: _, _, l, _, _, _ => simp at l
        | _, _ :: _ :: _ :: _, _, l, _, _ => simp at l
      rw [← this]; exact hY
  have := nodup_len nd (ys := two2) fun x hx => by
    obtain ⟨p, hp, rfl⟩ := List.mem_map.mp hx
    obtain ⟨w, _⟩ := hX p hp
    have rg : ∀ i, -1 ≤ p.1.getD i (-1) ∧ p.1.getD i (-1) < 12 := fun i => by
      rw [List.getD_eq_getElem?_getD]
      cases e : p.1[i]? with
      | none => simp
      | some v =>
        have := w.rg v (List.mem_of_getElem? e)
        simp; omega
    have r0 := rg 0
    have r1 := rg 1
    refine List.mem_flatMap.mpr ⟨p.1.getD 0 (-1) + 1, mem_rI.mpr (by omega), List.mem_map.mpr ⟨p.1.getD 1 (-1) + 1, mem_rI.mpr (by omega), ?_⟩⟩
    exact Prod.ext (by show _ + 1 - 1 = _; omega) (by show _ + 1 - 1 = _; omega)
  rw [List.length_map] at this
  have e : two2.length = 169 := by decide +kernel
  omega
theorem rq_plD {F : Fr} (hF : F.Wf) {T X : List Int} (hT : SetWf F T) (hl : (stp F T).length ≤ 1000) : Rq (10 ^ 29) 300000 3 (plD F T X) := by
  have b := nst hF hT
  have n1 := hF.n1
  by_cases hm : X ∈ (stp F T).map (·.1)
  rotate_left
  · have e : plD F T X = .none := if_neg hm
    rw [e]
    exact (Rq.of (N := 10 ^ 29) (w := 10) (k := 1) (by decide +kernel)).mono (by omega) (by omega)
  have e : plD F T X = .tuple ((plL F (stp F T) X).map pr) := if_pos hm
  rw [e]
  obtain ⟨⟨X', d⟩, hd, rfl⟩ := List.mem_map.mp hm
  obtain ⟨n, rfl⟩ : ∃ n : Nat, d = (n : Int) := ⟨d.toNat, by have := (b.rc _ hd).2.1; simp only at this; omega⟩
  have hlt := dist_lt b hd
  rw [b.pl hd]
  have hgl := gp_len b hd
  have hrg : ∀ (n : Nat) (X : List Int), (X, (n : Int)) ∈ stp F T → ∀ p ∈ gp F (stp F T) n X, (0 ≤ p.1 ∧ p.1 < 12) ∧ 0 ≤ p.2 ∧ p.2 < 12 := by
    intro n
    induction n with
    | zero => intro X _ p hp; cases hp
    | succ n ih =>
      intro X h p hp
      obtain ⟨q, r, hq⟩ := b.dcs_ne h
      rw [gp_succ hq] at hp
      obtain ⟨h1, h2⟩ := b.dcs_at h (q := q) (by rw [hq]; exact List.mem_cons_self)
      rcases List.mem_cons.mp hp with rfl | hp
      · have hX : SetWf F X := (b.rc _ h).1.wf hF hT
        have hm := mem_psl.mp h1
        have r1 := hX.rg p.1 hm.1
        have r2 := ((b.rc _ h2).1.wf hF hT).rg p.2 (by
          unfold sAft
          rw [List.mem_mergeSort, List.mem_map]
          exact ⟨p.1, hm.1, by simp⟩)
        omega
      · exact ih _ h2 p hp
  refine (Rq.tupA ((RqA.of (w := 224) (k := 1) fun x hx => ?_).mono (w' := 250000) (by rw [List.length_map, hgl]; omega) (Nat.le_refl _))).mono (by omega) (by omega)
  obtain ⟨p, hp, rfl⟩ := List.mem_map.mp hx
  have := hrg n _ hd p hp
  exact (Rq.tupA (RqA.cons (Rq.int (by omega) (by decide)) (RqA.cons (Rq.int (by omega) (by decide)) (RqA.nil.mono (Nat.le_refl _) (Nat.zero_le _))))).mono (by omega) (by omega)
theorem right154_ok (k : Nat) (F : Fr) (hF : F.Wf) (S : List Int) (hS : SetWf F S) (T : List Int) (hT : SetWf F T) (hl : (stp F T).length ≤ 1000) (s : DS) : PV.runI tb (k + 6) 154 [.sh F.d, .sh (.tuple (S.map .int)), .sh (.tuple (T.map .int))] s = .ok (.v (.bool true)) s := by
  refine FS.eq (F_call (fd := ⟨4, 3, B__law_right⟩) rfl rfl ?_)
  unfold B__law_right
  have h1 := fun s => due152_ok (k + 1) F hF S hS T hT s
  have h2 := fun s => plan153_ok k F hF S hS T hT s
  have hr := (rq_plD hF (X := S) hT hl).repr (by decide) (by omega) (by omega)
  generalize (plD F T S).shown = w at hr
  simp! only [h1, h2, hr]
  done
noncomputable def lastF : Fr := ⟨12, [(0, 11), (2, 10), (8, 9)]⟩
noncomputable def lastO : List (List Int × Int) := [([0, 2, 8], 0), ([2, 8, 11], 1), ([0, 8, 10], 1), ([0, 2, 9], 1), ([8, 10, 11], 2), ([2, 9, 11], 2), ([0, 9, 10], 2), ([9, 10, 11], 3)]
theorem lastW : lastF.Wf := ⟨by decide, by decide, by decide, by decide⟩
theorem lastS : SetWf lastF [0, 2, 8] := ⟨by decide, by decide, by decide +kernel⟩
theorem lastT : SetWf lastF [9, 10, 11] := ⟨by decide, by decide, by decide +kernel⟩
theorem lastP : stp lastF [0, 2, 8] = lastO := stp_of lastW lastS (n := 20) (by decide +kernel)
noncomputable def gpX (F : Fr) (st : List (List Int × Int)) : Nat → List Int → List (Int × Int)
  | 0, _ => []
  | n + 1, X => match (psl F X).filter (fun q => decide (dE st (sAftX X q.1 q.2) < ((n + 1 : Nat) : Int))) with
    | [] => []
    | q :: _ => q :: gpX F st n (sAftX X q.1 q.2)
theorem gpX_eq (F : Fr) (st : List (List Int × Int)) : ∀ (n : Nat) (X : List Int), gpX F st n X = gp F st n X
  | 0, _ => rfl
  | n + 1, X => by
    have e : (psl F X).filter (fun q => decide (dE st (sAftX X q.1 q.2) < ((n + 1 : Nat) : Int))) = dcs F st ((n + 1 : Nat) : Int) X := by
      unfold dcs
      refine List.filter_congr fun q _ => ?_
      rw [sAftX_eq]
    show (match (psl F X).filter (fun q => decide (dE st (sAftX X q.1 q.2) < ((n + 1 : Nat) : Int))) with
      | [] => []
      | q :: _ => q :: gpX F st n (sAftX X q.1 q.2)) = (match dcs F st ((n + 1 : Nat) : Int) X with
      | [] => []
      | q :: _ => q :: gp F st n (sAft X q.1 q.2))
    rw [e]
    cases dcs F st ((n + 1 : Nat) : Int) X with
    | nil => rfl
    | cons q r => simp only; rw [sAftX_eq, gpX_eq F st n]
theorem lastD : plD lastF [0, 2, 8] [9, 10, 11] = .tuple [.tuple [.int 9, .int 8], .tuple [.int 10, .int 2], .tuple [.int 11, .int 0]] := by
  unfold plD
  rw [lastP, if_pos (by decide)]
  have e0 : (dE lastO [9, 10, 11]).toNat = 3 := by decide +kernel
  have e : plL lastF lastO [9, 10, 11] = [(9, 8), (10, 2), (11, 0)] := by
    unfold plL
    rw [e0, ← gpX_eq]; decide +kernel
  rw [e]; rfl
theorem cutD_map36 {α β : Type} (f : α → β) (xs : List α) (lo hi : Option Int) : PV.cutD (xs.map f) lo hi = (PV.cutD xs lo hi).map f := by
  unfold PV.cutD
  rw [List.length_map, List.map_take, List.map_drop]
theorem cutD_sub36 {α : Type} {xs : List α} {lo hi : Option Int} : (PV.cutD xs lo hi).Sublist xs := (List.take_sublist _ _).trans (List.drop_sublist _ _)
theorem cutD_two {α : Type} (xs : List α) : (PV.cutD xs (some (-2)) none).length ≤ 2 := by
  unfold PV.cutD
  rw [List.length_take, List.length_drop]
  simp only [HT.sIx, show ((-2 : Int) < 0) = True by simp, if_true]
  omega
theorem flat_tI (T : List Int) : flat (tuI T) = true := by
  show flatA (T.map .int) = true
  induction T with
  | nil => rfl
  | cons v T ih => show (true && flatA (T.map .int)) = true; rw [ih]; rfl
theorem SetWf.sub36 {F : Fr} {S T : List Int} (h : SetWf F S) (hs : T.Sublist S) : SetWf F T :=
  ⟨fun v hv => h.rg v (hs.subset hv), List.Pairwise.sublist hs h.pw, fun u hu v hv => h.ind u (hs.subset hu) v (hs.subset hv)⟩
theorem law_of {ns : List Int} (h : RS (exs (PV.runI tb 9) B_law ⟨(List.replicate 9 Slot.un).set 1 (.dk 0), stR cellsD ns⟩) (fun fl _ => fl = .rt (.v (.bool true))) never) : LawOk ns := by
  rw [runI_eq] at h
  obtain ⟨fl, m, e, rfl⟩ := h.ex
  exact ⟨m, e⟩
theorem law_true (ns : List Int) (h : ns.length ≤ 63) : LawOk ns := by
  refine law_of ?_
  have hs0 := DB.start ns
  generalize stR cellsD ns = s0 at hs0
  unfold B_law
  simp! only
  refine ⟨B62.of (by omega) (by omega), RS_lop (fun done rest mm => ∃ (a2 a3 a4 a5 a6 a7 a8 : PV.Slot) (s : DS), mm = ⟨[.un, (.dk 0), a2, a3, a4, a5, a6, a7, a8], s⟩ ∧ PV.isOwn (some a6) = false ∧ PV.isOwn (some a8) = false ∧ DB (200 * done.length) s) ⟨_, _, _, _, _, _, _, s0, rfl, rfl, rfl, hs0.mono (by simp)⟩ (fun _ _ _ _ => trivial) (fun done t rest mm ht hj => ?d) (fun mm hj => ?e)⟩
  case d =>
    obtain ⟨a2, a3, a4, a5, a6, a7, a8, s, rfl, o6, o8, hs⟩ := hj
    have hdl : done.length ≤ 6 := by
      have := congrArg List.length ht
      rw [rI_len, List.length_append] at this
      have e : ((6 : Int)).toNat = 6 := rfl
      omega
    simp! only
    refine (forestD_ok 6 0 8 (by omega) (by omega) hs (by omega)).use fun r s1 h => ?_
    obtain ⟨F, ns, ks, rfl, _, hw, hs1⟩ := h
    have hF := hw.wf (by omega)
    have n8 := hw.n1
    simp! only
    refine (settingD_ok 6 F hF hs1 (by omega)).use fun r s2 h => ?_
    obtain ⟨S, rfl, hS, hs2⟩ := h
    have hso := sortedD_stp hF hS
    have ec : (((stp F S).map (·.1)).mergeSort leL).map tuI = (cls F S).map tuI := rfl
    rw [ec] at hso
    have hcl : (cls F S).length ≤ 256 := by rw [cls_len]; exact stp_len hF (n := 8) (by omega) hS
    have hcn : cls F S ≠ [] := by
      obtain ⟨_, add, e⟩ := stp_bi hF hS
      intro z
      have := cls_len (F := F) (S := S)
      rw [z, e] at this
      simp at this
    simp only [reached_ok 6 F hF S hS, hso, o6, o8, PV.truth_none, PV.truth_bool, PV.truth_int, PV.truth_str, PV.truth_list, PV.truth_tuple, PV.truth_dict, PV.strFits_none, PV.strFits_bool, PV.strFits_int, PV.strFits_str, PV.strFits_list, PV.strFits_tuple, PV.strFits_dict, PV.slR_sh, PV.slR_ol, PV.slR_od, PV.slR_dk, PV.vOf_v, PV.bOf_b, PV.noPD_v, PV.noPD_fl, PV.noPD_fd, PV.deref_v, PV.deref_fl, PV.deref_fd, PV.slotD_ol, PV.slotD_od, PV.slotD_sh, PV.derefs_nil, PV.derefs_c, PV.esc_v, PV.esc_fl, PV.esc_fd, PV.esc_pl, PV.escS_ol, PV.escS_od, PV.escS_sh, PV.escs_nil, PV.escs_c, PV.toArgs_nil, PV.toArgs_dk, PV.toArgs_v, PV.toArgs_fl, PV.toArgs_fd, PV.toArgs_pl, PV.setR_v, PV.setR_fl, PV.setR_fd, PV.setR_dk, PV.setR_pl, PV.setRs_nil, PV.setRs_c, PV.items_l, PV.items_t, PV.items_fl, PV.items_pl, PV.itS_ol, PV.itS_sh, PV.isOwn_ol, PV.isOwn_od, PV.isOwn_sh, PV.isOwn_un, PV.isOwn_dk, PV.isOwn_no, PV.olAt_ol, PV.finS_ol, PV.finS_od, PV.finS_sh, PV.zipR_tt, PV.zipR_ll, PV.zipR_ff, PV.zipR_lf, PV.zipR_fl, PV.zipL_ll, PV.zipL_ff, PV.zipL_lf, PV.zipL_fl, PV.noPl_nil, PV.noPl_v, PV.noPl_fl, PV.noPl_fd, PV.noPl_dk, PV.hasPl_nil, PV.hasPl_v, PV.hasPl_fl, PV.hasPl_fd, PV.hasPl_dk, PV.hasPl_pl, PV.flatR_v, PV.bind1_nm, PV.bind1_tp, PV.bind1_tl, PV.bindL_nil, PV.bindL_c, PV.deref_pl, PV.eq_str, PV.ne_str, PV.flat_b, PV.flat_i, PV.flat_s, PV.flat_n, PV.V_c, PV.V_x, PV.V_op, PV.V_call, PV.V_tup, PV.V_lst, PV.V_emp, PV.V_and, PV.V_or, PV.V_ite, PV.V_mut, PV.M_app, PV.M_pop, PV.M_popAt, PV.M_ext, PV.M_rem, PV.M_ins, PV.V_ofT, PV.V_dsp, PV.V_chn, PV.V_lc, PV.V_dc, PV.bdT_eq, PV.bdS_eq, PV.ownOk, PV.VI_zip, PV.VI_zpl, PV.VI_zp3, PV.zip3R_t, PV.X_raise1, PV.V_xf, PV.xfR_s, PV.exSlot_s, PV.X_sub, PV.X_swp, PV.subR, PV.Vs_nil, PV.Vs_cons, PV.VT_yes, PV.VT_e, PV.VT_and, PV.VT_or, PV.VT_not, PV.VI_e, PV.VI_rng, PV.VI_enm, PV.X_nil, PV.X_cons, PV.X_set, PV.X_unp, PV.X_par, PV.X_ex, PV.X_ret, PV.X_retN, PV.X_ite, PV.X_lop, PV.X_pass, PV.X_brk, PV.X_cont, PV.V_dcT, PV.V_updT, PV.VI_txt, PV.VI_rg3, PV.odTAt_od, PV.fdTOf_fd, PV.strOf_s, PV.nxt_nx, PV.nxt_brk, PV.nxt_ct, PV.nxt_rt, PV.finF_nx, PV.finF_v, PV.finF_fl, PV.finF_fd, PV.finF_pl, PV.RS_ok, PV.RS_rz, PV.RS_bad, PV.FS_ok, PV.FS_rz, PV.FS_bad, PV.OS_some, PV.OS_none, PV.OS_map, PV.OS_ite, PV.callOk, PV.rzOk, PV.flatO, PV.opE_v2, PV.opE_vf, PV.opE_fv, PV.opE_ff, PV.opE_n_add, PV.opE_n_sub, PV.opE_n_mul, PV.opE_n_fdiv, PV.opE_n_mod, PV.opE_n_pow, PV.opE_n_neg, PV.opE_n_eq, PV.opE_n_ne, PV.opE_n_lt, PV.opE_n_le, PV.opE_n_gt, PV.opE_n_ge, PV.opE_n_isN, PV.opE_n_notN, PV.opE_n_len, PV.opE_n_tuple, PV.opE_n_list, PV.opE_n_lrng, PV.opE_n_sorted, PV.opE_n_abs, PV.opE_n_min2, PV.opE_n_max2, PV.opE_n_min1, PV.opE_n_max1, PV.opE_n_sum, PV.opE_n_any, PV.opE_n_all, PV.opE_n_int, PV.opE_n_str, PV.opE_n_repr, PV.opE_n_not, PV.opE_n_idi, PV.opE_n_rev, PV.opE_n_sl, PV.opE_n_isi, PV.opE_n_g, PV.opE_inp, PV.opE_notinp, PV.opE_idxp, PV.pidx_ol, PV.pinn_ol, PV.pnin_ol, PV.opD, PV.clear, PV.back, PV.mutOk, PV.srcFree, PV.slotA, PV.keyOk, PV.toKey, PV.addD, PV.subD, PV.negD, PV.cmpR, PV.cmpD, PV.isND, PV.notND, PV.isiD, PV.isKind, PV.notD, PV.lenD, PV.tupleD, PV.listD, PV.inD, PV.notinD, PV.idxD_t, PV.idxD_l, PV.eqD_nil0, PV.neD_nil0, PV.eqD_lI0, PV.neD_lI0, PV.eqD_lP0, PV.neD_lP0, PV.eqD_tI0, PV.neD_tI0, PV.eqD_tP0, PV.neD_tP0, PV.eqD_p, PV.neD_p, PV.eqD_b2, PV.neD_b2, PV.eqD_int, PV.neD_int, PV.eqD_tI, PV.neD_tI, PV.eqD_lI, PV.neD_lI, PV.eqD_tP, PV.neD_tP, PV.eqD_lP, PV.neD_lP, PV.gD, PV.isBD, PV.hasD_tI, PV.hasD_lI, PV.hasD_tP', PV.hasD_lP', PV.lim0, PV.lim1, PV.lim2, PV.lim3, PV.lim4, PV.lim5, PV.lim6, PV.lim7, PV.lim8, PV.lim9, PV.lim10, PV.lim11, PV.lim12, PV.lim17, PV.lim26, PV.pr, PV.srcOk, PV.min2D, PV.max2D, PV.rng_1, PV.rng_2, PV.lrng_1, PV.slD, PV.cut_1, PV.cut_m1, PV.zip_ints, PV.enum_map, PV.allD, PV.anyD, PV.toBls_map, PV.pick_0, PV.pick_1, PV.pick_2, PV.pick_3, PV.srt_ints, PV.srt_prs, PV.sortedD, PV.toInts_ints, Option.isSome_some, Option.isSome_none, List.all_cons, List.all_nil, List.getElem?_cons_zero, List.getElem?_cons_succ, List.set_cons_zero, List.set_cons_succ, List.map_cons, List.map_nil, List.length_cons, List.length_nil, List.replicate_succ, List.replicate_zero, List.append_nil, List.nil_append, List.cons_append, Option.map_some, Option.map_none, Option.bind_some, Option.bind_none, Option.getD_some, Bool.not_true, Bool.not_false, Bool.false_or, Bool.true_or, Bool.or_true, Bool.or_false, Bool.true_and, Bool.false_and, Bool.and_true, Bool.and_false, BEq.rfl, not_true_eq_false, forall_const, true_implies, false_implies, and_true, true_and, and_self, Bool.false_eq_true, reduceCtorEq, ne_eq, not_false_eq_true, decide_true, decide_false, decide_eq_true_eq, decide_eq_false_iff_not, PV.cast0, PV.cast1, PV.cast2, PV.cast3, PV.cast4, PV.cast5, PV.cast6, PV.cast7, PV.cast8, PV.cast9, PV.cast10, PV.cast11, PV.cast12, Int.reduceEq, Int.reduceLT, Int.reduceLE, Int.reduceGT, Int.reduceGE, Int.reduceAdd, Int.reduceSub, Int.reduceNeg, Int.reduceNe, Nat.reduceSub, Nat.reduceAdd, if_true, if_false, ite_true, ite_false, reduceIte, implies_true, Rk.idxD_F0, Rk.idxD_F1, -PV.sortedD]
    refine (settingD_ok 6 F hF hs2 (by omega)).use fun r s3 h => ?_
    obtain ⟨T1, rfl, hT1, hs3⟩ := h
    simp! only [o6, o8]
    refine ⟨B62.of (by omega) (by omega), by decide, RS_draw (fun acc rest s => ∃ L : List (List Int), acc = L.map tuI ∧ (∀ T ∈ L, SetWf F T) ∧ L.length + rest.length = 5 ∧ DB (200 * done.length + 130 + L.length) s) ⟨[], rfl, (fun _ z => nomatch z), rfl, hs3.mono (by simp)⟩ (fun acc x rest s hx hj => ?a1) (fun acc s hj => ?b1)⟩
    case a1 =>
      obtain ⟨L, rfl, hL, hLl, hs'⟩ := hj
      rw [List.length_cons] at hLl
      simp! only
      refine (one_ok 7 (.inl rfl) (by simpa using hcn) (by rw [List.length_map]; omega) hs' (by omega)).use fun r s4 h => ?_
      obtain ⟨x, hx, rfl, hs4⟩ := h
      obtain ⟨T, hT, rfl⟩ := List.mem_map.mp hx
      simp! only
      refine ⟨flat_tI T, L ++ [T], by rw [List.map_append]; rfl, fun U hU => ?_, by simp; omega, hs4.mono (by simp; omega)⟩
      rcases List.mem_append.mp hU with h | h
      · exact hL U h
      · rw [List.mem_singleton.mp h]; exact cls_mem hF hS T hT
    case b1 =>
      obtain ⟨L, rfl, hL, hLl, hs'⟩ := hj
      simp! only [o6, o8]
      have e4 : PyData.tuple (S.map .int) :: .tuple (T1.map .int) :: .tuple [] :: L.map tuI = ([S, T1, []] ++ L).map tuI := rfl
      have hall : ∀ T ∈ [S, T1, []] ++ L, SetWf F T := fun T hT => by
        rcases List.mem_append.mp hT with h | h
        · simp only [List.mem_cons, List.not_mem_nil, or_false] at h
          rcases h with rfl | rfl | rfl
          · exact hS
          · exact hT1
          · exact ⟨(fun _ z => nomatch z), List.Pairwise.nil, fun _ z => nomatch z⟩
        · exact hL T h
      rw [e4]
      generalize [S, T1, []] ++ L = L8 at hall
      refine ⟨by rw [List.length_map]; simp only [LIM]; simp at hLl; omega, by rw [List.length_map]; simp only [LIM]; simp at hLl; omega, ?_⟩
      refine RS_lc (enc := tuI) (xs := L8) (fun _ => false) tuI ?src (fun T hT => ?c) ?d
      case src => rfl
      case c =>
        have hr := right154_ok 3 F hF S hS T (hall T hT) (by have := stp_len hF (n := 8) (by omega) (hall T hT); have : (2 : Nat) ^ 8 = 256 := rfl; omega) s
        simp! only [tuI, hr]
        done
      case d =>
        have hf : L8.filter (fun _ => false) = [] := by simp
        have hn0 : neD [.list [], .list []] = some (.v (.bool false)) := rfl
        simp! only [hf, hn0, List.map_nil, o6, o8]
        exact ⟨_, _, _, _, _, _, _, _, rfl, o6, o8, hs'.mono (by rw [List.length_append, List.length_singleton]; simp at hLl; omega)⟩
  case e =>
    obtain ⟨a2, a3, a4, a5, a6, a7, a8, s, rfl, o6, o8, hs⟩ := hj
    have hs : DB 1200 s := hs
    simp! only
    refine (forestD_ok 6 12 12 (by omega) (by omega) hs (by omega)).use fun r s1 h => ?_
    obtain ⟨F, ns, ks, rfl, n12, hw, hs1⟩ := h
    have hF := hw.wf (by omega)
    simp! only
    refine (settingD_ok 6 F hF hs1 (by omega)).use fun r s2 h => ?_
    obtain ⟨S0, rfl, hS0, hs2⟩ := h
    have hS : SetWf F (PV.cutD S0 (some (-2)) none) := hS0.sub36 cutD_sub36
    have hS2 := cutD_two S0
    have hcm := cutD_map36 PyData.int S0 (some (-2)) none
    generalize PV.cutD S0 (some (-2)) none = S at hS hS2 hcm
    have hso := sortedD_stp hF hS
    have ec : (((stp F S).map (·.1)).mergeSort leL).map tuI = (cls F S).map tuI := rfl
    rw [ec] at hso
    have hcl : (cls F S).length ≤ 169 := by rw [cls_len]; exact stp_two hF hS hS2
    have hcn : cls F S ≠ [] := by
      obtain ⟨_, add, e⟩ := stp_bi hF hS
      intro z
      have := cls_len (F := F) (S := S)
      rw [z, e] at this
      simp at this
    simp only [hcm, reached_ok 6 F hF S hS, hso, PV.truth_none, PV.truth_bool, PV.truth_int, PV.truth_str, PV.truth_list, PV.truth_tuple, PV.truth_dict, PV.strFits_none, PV.strFits_bool, PV.strFits_int, PV.strFits_str, PV.strFits_list, PV.strFits_tuple, PV.strFits_dict, PV.slR_sh, PV.slR_ol, PV.slR_od, PV.slR_dk, PV.vOf_v, PV.bOf_b, PV.noPD_v, PV.noPD_fl, PV.noPD_fd, PV.deref_v, PV.deref_fl, PV.deref_fd, PV.slotD_ol, PV.slotD_od, PV.slotD_sh, PV.derefs_nil, PV.derefs_c, PV.esc_v, PV.esc_fl, PV.esc_fd, PV.esc_pl, PV.escS_ol, PV.escS_od, PV.escS_sh, PV.escs_nil, PV.escs_c, PV.toArgs_nil, PV.toArgs_dk, PV.toArgs_v, PV.toArgs_fl, PV.toArgs_fd, PV.toArgs_pl, PV.setR_v, PV.setR_fl, PV.setR_fd, PV.setR_dk, PV.setR_pl, PV.setRs_nil, PV.setRs_c, PV.items_l, PV.items_t, PV.items_fl, PV.items_pl, PV.itS_ol, PV.itS_sh, PV.isOwn_ol, PV.isOwn_od, PV.isOwn_sh, PV.isOwn_un, PV.isOwn_dk, PV.isOwn_no, PV.olAt_ol, PV.finS_ol, PV.finS_od, PV.finS_sh, PV.zipR_tt, PV.zipR_ll, PV.zipR_ff, PV.zipR_lf, PV.zipR_fl, PV.zipL_ll, PV.zipL_ff, PV.zipL_lf, PV.zipL_fl, PV.noPl_nil, PV.noPl_v, PV.noPl_fl, PV.noPl_fd, PV.noPl_dk, PV.hasPl_nil, PV.hasPl_v, PV.hasPl_fl, PV.hasPl_fd, PV.hasPl_dk, PV.hasPl_pl, PV.flatR_v, PV.bind1_nm, PV.bind1_tp, PV.bind1_tl, PV.bindL_nil, PV.bindL_c, PV.deref_pl, PV.eq_str, PV.ne_str, PV.flat_b, PV.flat_i, PV.flat_s, PV.flat_n, PV.V_c, PV.V_x, PV.V_op, PV.V_call, PV.V_tup, PV.V_lst, PV.V_emp, PV.V_and, PV.V_or, PV.V_ite, PV.V_mut, PV.M_app, PV.M_pop, PV.M_popAt, PV.M_ext, PV.M_rem, PV.M_ins, PV.V_ofT, PV.V_dsp, PV.V_chn, PV.V_lc, PV.V_dc, PV.bdT_eq, PV.bdS_eq, PV.ownOk, PV.VI_zip, PV.VI_zpl, PV.VI_zp3, PV.zip3R_t, PV.X_raise1, PV.V_xf, PV.xfR_s, PV.exSlot_s, PV.X_sub, PV.X_swp, PV.subR, PV.Vs_nil, PV.Vs_cons, PV.VT_yes, PV.VT_e, PV.VT_and, PV.VT_or, PV.VT_not, PV.VI_e, PV.VI_rng, PV.VI_enm, PV.X_nil, PV.X_cons, PV.X_set, PV.X_unp, PV.X_par, PV.X_ex, PV.X_ret, PV.X_retN, PV.X_ite, PV.X_lop, PV.X_pass, PV.X_brk, PV.X_cont, PV.V_dcT, PV.V_updT, PV.VI_txt, PV.VI_rg3, PV.odTAt_od, PV.fdTOf_fd, PV.strOf_s, PV.nxt_nx, PV.nxt_brk, PV.nxt_ct, PV.nxt_rt, PV.finF_nx, PV.finF_v, PV.finF_fl, PV.finF_fd, PV.finF_pl, PV.RS_ok, PV.RS_rz, PV.RS_bad, PV.FS_ok, PV.FS_rz, PV.FS_bad, PV.OS_some, PV.OS_none, PV.OS_map, PV.OS_ite, PV.callOk, PV.rzOk, PV.flatO, PV.opE_v2, PV.opE_vf, PV.opE_fv, PV.opE_ff, PV.opE_n_add, PV.opE_n_sub, PV.opE_n_mul, PV.opE_n_fdiv, PV.opE_n_mod, PV.opE_n_pow, PV.opE_n_neg, PV.opE_n_eq, PV.opE_n_ne, PV.opE_n_lt, PV.opE_n_le, PV.opE_n_gt, PV.opE_n_ge, PV.opE_n_isN, PV.opE_n_notN, PV.opE_n_len, PV.opE_n_tuple, PV.opE_n_list, PV.opE_n_lrng, PV.opE_n_sorted, PV.opE_n_abs, PV.opE_n_min2, PV.opE_n_max2, PV.opE_n_min1, PV.opE_n_max1, PV.opE_n_sum, PV.opE_n_any, PV.opE_n_all, PV.opE_n_int, PV.opE_n_str, PV.opE_n_repr, PV.opE_n_not, PV.opE_n_idi, PV.opE_n_rev, PV.opE_n_sl, PV.opE_n_isi, PV.opE_n_g, PV.opE_inp, PV.opE_notinp, PV.opE_idxp, PV.pidx_ol, PV.pinn_ol, PV.pnin_ol, PV.opD, PV.clear, PV.back, PV.mutOk, PV.srcFree, PV.slotA, PV.keyOk, PV.toKey, PV.addD, PV.subD, PV.negD, PV.cmpR, PV.cmpD, PV.isND, PV.notND, PV.isiD, PV.isKind, PV.notD, PV.lenD, PV.tupleD, PV.listD, PV.inD, PV.notinD, PV.idxD_t, PV.idxD_l, PV.eqD_nil0, PV.neD_nil0, PV.eqD_lI0, PV.neD_lI0, PV.eqD_lP0, PV.neD_lP0, PV.eqD_tI0, PV.neD_tI0, PV.eqD_tP0, PV.neD_tP0, PV.eqD_p, PV.neD_p, PV.eqD_b2, PV.neD_b2, PV.eqD_int, PV.neD_int, PV.eqD_tI, PV.neD_tI, PV.eqD_lI, PV.neD_lI, PV.eqD_tP, PV.neD_tP, PV.eqD_lP, PV.neD_lP, PV.gD, PV.isBD, PV.hasD_tI, PV.hasD_lI, PV.hasD_tP', PV.hasD_lP', PV.lim0, PV.lim1, PV.lim2, PV.lim3, PV.lim4, PV.lim5, PV.lim6, PV.lim7, PV.lim8, PV.lim9, PV.lim10, PV.lim11, PV.lim12, PV.lim17, PV.lim26, PV.pr, PV.srcOk, PV.min2D, PV.max2D, PV.rng_1, PV.rng_2, PV.lrng_1, PV.slD, PV.cut_1, PV.cut_m1, PV.zip_ints, PV.enum_map, PV.allD, PV.anyD, PV.toBls_map, PV.pick_0, PV.pick_1, PV.pick_2, PV.pick_3, PV.srt_ints, PV.srt_prs, PV.sortedD, PV.toInts_ints, Option.isSome_some, Option.isSome_none, List.all_cons, List.all_nil, List.getElem?_cons_zero, List.getElem?_cons_succ, List.set_cons_zero, List.set_cons_succ, List.map_cons, List.map_nil, List.length_cons, List.length_nil, List.replicate_succ, List.replicate_zero, List.append_nil, List.nil_append, List.cons_append, Option.map_some, Option.map_none, Option.bind_some, Option.bind_none, Option.getD_some, Bool.not_true, Bool.not_false, Bool.false_or, Bool.true_or, Bool.or_true, Bool.or_false, Bool.true_and, Bool.false_and, Bool.and_true, Bool.and_false, BEq.rfl, not_true_eq_false, forall_const, true_implies, false_implies, and_true, true_and, and_self, Bool.false_eq_true, reduceCtorEq, ne_eq, not_false_eq_true, decide_true, decide_false, decide_eq_true_eq, decide_eq_false_iff_not, PV.cast0, PV.cast1, PV.cast2, PV.cast3, PV.cast4, PV.cast5, PV.cast6, PV.cast7, PV.cast8, PV.cast9, PV.cast10, PV.cast11, PV.cast12, Int.reduceEq, Int.reduceLT, Int.reduceLE, Int.reduceGT, Int.reduceGE, Int.reduceAdd, Int.reduceSub, Int.reduceNeg, Int.reduceNe, Nat.reduceSub, Nat.reduceAdd, if_true, if_false, ite_true, ite_false, reduceIte, implies_true, Rk.idxD_F0, Rk.idxD_F1, -PV.sortedD]
    refine ⟨B62.of (by omega) (by omega), RS_lop (fun done rest mm => ∃ (a6 : PV.Slot) (s : DS), mm = ⟨[.un, (.dk 0), a2, .sh F.d, .sh (.tuple (S.map .int)), .ol ((cls F S).map tuI), a6, a7, a8], s⟩ ∧ DB (1500 + 10 * done.length) s) ⟨_, s2, rfl, hs2.mono (by simp)⟩ (fun _ _ _ _ => trivial) (fun done t rest mm ht hj => ?f) (fun mm hj => ?g)⟩
    case f =>
      obtain ⟨a6, s, rfl, hs⟩ := hj
      have hdl : done.length ≤ 3 := by
        have := congrArg List.length ht
        rw [rI_len, List.length_append] at this
        have e : ((3 : Int)).toNat = 3 := rfl
        omega
      simp! only
      refine (one_ok 7 (.inl rfl) (by simpa using hcn) (by rw [List.length_map]; omega) hs (by omega)).use fun r s4 h => ?_
      obtain ⟨x, hx, rfl, hs4⟩ := h
      obtain ⟨T, hT, rfl⟩ := List.mem_map.mp hx
      have hTw := cls_mem hF hS T hT
      have hT2 : T.length ≤ 2 := by
        have h1 : T ∈ (stp F S).map (·.1) := List.mem_mergeSort.mp hT
        obtain ⟨p, hp, rfl⟩ := List.mem_map.mp h1
        rw [rch_lenK ((nst hF hS).rc p hp).1]; exact hS2
      have hr := right154_ok 3 F hF S hS T hTw (by have := stp_two hF hTw hT2; omega) s4
      refine ⟨by show ((!true || flat (tuI T)) && true) = true; rw [flat_tI]; rfl, ?_⟩
      simp! only [tuI, hr]
      exact ⟨_, s4, rfl, hs4.mono (by rw [List.length_append, List.length_singleton]; omega)⟩
    case g =>
      obtain ⟨a6, s, rfl, hs⟩ := hj
      have hp := plan153_ok 4 lastF lastW [9, 10, 11] lastT [0, 2, 8] lastS s
      rw [lastD] at hp
      have hp : PV.runI tb 9 153 [.sh (.tuple [.int 12, .tuple [.tuple [.int 0, .int 11], .tuple [.int 2, .int 10], .tuple [.int 8, .int 9]]]), .sh (.tuple [.int 9, .int 10, .int 11]), .sh (.tuple [.int 0, .int 2, .int 8])] s = .ok (.v (.tuple [.tuple [.int 9, .int 8], .tuple [.int 10, .int 2], .tuple [.int 11, .int 0]])) s := hp
      have hq : eqD [.tuple [.tuple [.int 9, .int 8], .tuple [.int 10, .int 2], .tuple [.int 11, .int 0]], .tuple [.tuple [.int 9, .int 8], .tuple [.int 10, .int 2], .tuple [.int 11, .int 0]]] = some (.v (.bool true)) := rfl
      simp! only [hp, hq]
theorem fin_mk {P : Program} {w : World} {K : PySem.W.Frag} {mg : Str → Option Value} {fa : Addr} (h : ∃ (fd : FuncData) (cd t : Addr), (∀ (s : Shared) (v : Value), BindsTo s fd ⟨[v], []⟩ [("_law_script", v)]) ∧ DefTb K mg "_law_due" cd t ∧ TBL K = [(t, (("_law_due" ++ ".<locals>." : Str) ++ "<lambda>"))] ∧ ∀ base : Heap, K.In base → base.Ns mainGlobals mg → LamX.TabB base mg cd t → FnG P w K mg base (L2.CX P w) 14 fa fd ["_law_script"] (spLaw K LawOk)) :
    ∃ (fd : FuncData) (cd t : Addr), (∀ (s : Shared) (v : Value), BindsTo s fd ⟨[v], []⟩ [("_law_script", v)]) ∧ DefTb K mg "_law_due" cd t ∧ (∀ (H : Hp) (a : Addr) (ns : List Int), ns.length ≤ 63 → H t = some (.tbl #[]) → SqL K H a (ns.map V.int) → spLaw K LawOk [.ref a] H (fun v _ => v = .bl true) fun _ _ _ => False) ∧ ∀ base : Heap, K.In base → base.Ns mainGlobals mg → LamX.TabB base mg cd t → FnG P w K mg base (L2.CX P w) 14 fa fd ["_law_script"] (spLaw K LawOk) := by
  obtain ⟨fd, cd, t, h1, h2, h3, h4⟩ := h
  refine ⟨fd, cd, t, h1, h2, fun H a ns hl hH hS => ⟨a, ns, rfl, hS, fun p hp => ?_, hl, law_true ns hl, fun _ => rfl⟩, h4⟩
  rw [h3] at hp
  rw [List.mem_singleton.mp hp]
  exact LamX.TabS.nil hH
end Rk
open PySem PySem.W PyProof.Rows
set_option maxHeartbeats 0 in
theorem PySem.Challenge.cw_treelamps_k36_shortest_plan_holds : PySem.Challenge.rw_treelamps_k36_shortest_plan.Holds := by
  w_on; o_law; k_head; (case hw => w_witness2)
  k_fill
  refine PV.law_walkT (l := PySem.Challenge.rw_treelamps_k36_shortest_plan) (n := 63) (k := 14) (x := "_law_script") (dn := "_law_due") (CX := fun w => L2.CX PySem.Challenge.pw_treelamps_k36_shortest_plan w) (ok := Rk.LawOk) rfl (by decide) rfl ⟨rfl, by decide, by decide⟩ (by first | rfl | decide +kernel) (fun w h Y => PySem.W.km_in_of Y) ?F (fun _ _ _ _ _ h => PV.cx_false h)
  case F =>
    intro w mg fa h KX G hmg
    refine' Rk.fin_mk (Rk.all_mk KX G hmg ?a0 ?l0 ?c0 ?k0 ?a1 ?l1 ?c1 ?k1 ?a2 ?l2 ?c2 ?k2 ?a3 ?l3 ?c3 ?k3 ?a4 ?l4 ?c4 ?k4 ?a5 ?l5 ?c5 ?k5 ?a6 ?l6 ?c6 ?k6 ?a7 ?l7 ?c7 ?k7 ?a8 ?l8 ?c8 ?k8 ?a9 ?l9 ?c9 ?k9 ?a10 ?l10 ?c10 ?k10 ?a11 ?l11 ?c11 ?k11 ?a12 ?l12 ?c12 ?k12 ?a13 ?l13 ?c13 ?k13 ?a14 ?l14 ?c14 ?k14 ?a15 ?l15 ?c15 ?k15 ?a16 ?l16 ?c16 ?k16 ?a17 ?l17 ?c17 ?k17 ?a18 ?l18 ?c18 ?k18 ?z0 ?z1 ?z2 ?z3 ?z4 ?z5 ?z6 ?z7 ?z8 ?z9 ?tcd ?tco ?tv ?tg ?t18 ?t7 ?t9 ?t10 ?tne ?tno)
    (case a0 => k_is); (case l0 => k_is); (case c0 => k_is); (case k0 => k_is); (case a1 => k_is); (case l1 => k_is); (case c1 => k_is); (case k1 => k_is); (case a2 => k_is); (case l2 => k_is); (case c2 => k_is); (case k2 => k_is); (case a3 => k_is); (case l3 => k_is); (case c3 => k_is); (case k3 => k_is); (case a4 => k_is); (case l4 => k_is); (case c4 => k_is); (case k4 => k_is); (case a5 => k_is); (case l5 => k_is); (case c5 => k_is); (case k5 => k_is); (case a6 => k_is); (case l6 => k_is); (case c6 => k_is); (case k6 => k_is); (case a7 => k_is); (case l7 => k_is); (case c7 => k_is); (case k7 => k_is); (case a8 => k_is); (case l8 => k_is); (case c8 => k_is); (case k8 => k_is); (case a9 => k_is); (case l9 => k_is); (case c9 => k_is); (case k9 => k_is); (case a10 => k_is); (case l10 => k_is); (case c10 => k_is); (case k10 => k_is); (case a11 => k_is); (case l11 => k_is); (case c11 => k_is); (case k11 => k_is); (case a12 => k_is); (case l12 => k_is); (case c12 => k_is); (case k12 => k_is); (case a13 => k_is); (case l13 => k_is); (case c13 => k_is); (case k13 => k_is); (case a14 => k_is); (case l14 => k_is); (case c14 => k_is); (case k14 => k_is); (case a15 => k_is); (case l15 => k_is); (case c15 => k_is); (case k15 => k_is); (case a16 => k_is); (case l16 => k_is); (case c16 => k_is); (case k16 => k_is); (case a17 => k_is); (case l17 => k_is); (case c17 => k_is); (case k17 => k_is); (case a18 => k_is); (case l18 => k_is); (case c18 => k_is); (case k18 => k_is); (case z0 => k_is); (case z1 => k_is); (case z2 => k_is); (case z3 => k_is); (case z4 => k_is); (case z5 => k_is); (case z6 => k_is); (case z7 => k_is); (case z8 => k_is); (case z9 => k_is); (case tcd => first | rfl | k_is); (case tco => first | k_is | rfl); (case tv => first | rfl | k_is); (case tg => first | rfl | k_is); (case t18 => first | rfl | k_is); (case t7 => first | rfl | k_is); (case t9 => first | rfl | k_is); (case t10 => first | rfl | k_is); (case tne => decide); (case tno => first | rfl | k_is)
