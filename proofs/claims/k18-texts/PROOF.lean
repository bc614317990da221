import PyProof.Rows.All
import Wide.All
import OpenK.AllK
import Wide.FinOn
import HandS.ForMost
import HandS.Exc
import HandS.ExcOwn
import HandS.WordsExc
import HandS.TupAny
import HandS.IsInst
import KE.KDictKeyed
import KE.KDictWalk
import KE.KDictCopyH
import KE.KDictSum
import KE.SortData
import HandS.Flow
import HandS.Style
import HandS.TupMul
import HandS.TryOnly
import HandS.Deep
import KE.GoesEnum
import KE.GoesMore
import HandS.Defaults
import HandS.HeadHook1
import HandS.HeadHook2
import KE.DataMinMax
import PyProof.Rows.RowBridgeK
import HandS.SortKw
import KE.KExcIs
import HandS.ExcInit
import HandS.ExcIs
import HandS.ExcField
import HandS.Replace
import HandS.Head0
import HandS.Head1
import HandS.Head2
import HandS.HeadEnd
import HandS.Codes
import PySem.Challenge.RW_pairtests_k18_texts
set_option Elab.async false
set_option linter.all false
set_option maxRecDepth 100000
/-! The data layer, part 1: data, bindings, the frozen heap, the judgements for expressions. -/
namespace DL
open PySem PySem.Spec PyProof.Rows L2

abbrev D := PyData

/-! ### outcomes -/
/-- an exception: the name of its class, the number it bears -/
structure Exc where
  cls : String
  num : Option Int
/-- an expression's outcome -/
inductive Res (α : Type) where
  | ok (a : α)
  | ex (c : Exc)
  | bad
def Res.bind {α β : Type} : Res α → (α → Res β) → Res β
  | .ok a, f => f a
  | .ex c, _ => .ex c
  | .bad, _ => .bad
def Res.map {α β : Type} (f : α → β) : Res α → Res β
  | .ok a => .ok (f a)
  | .ex c => .ex c
  | .bad => .bad
def Res.of {α : Type} : Option α → Res α
  | some a => .ok a
  | none => .bad
@[simp] theorem Res.bind_ok {α β : Type} (a : α) (f : α → Res β) : (Res.ok a).bind f = f a := rfl
@[simp] theorem Res.bind_ex {α β : Type} (c : Exc) (f : α → Res β) : (Res.ex c : Res α).bind f = .ex c := rfl
@[simp] theorem Res.bind_bad {α β : Type} (f : α → Res β) : (Res.bad : Res α).bind f = .bad := rfl
@[simp] theorem Res.map_ok {α β : Type} (f : α → β) (a : α) : (Res.ok a).map f = .ok (f a) := rfl
@[simp] theorem Res.map_ex {α β : Type} (f : α → β) (c : Exc) : (Res.ex c : Res α).map f = .ex c := rfl
@[simp] theorem Res.map_bad {α β : Type} (f : α → β) : (Res.bad : Res α).map f = .bad := rfl
@[simp] theorem Res.of_some {α : Type} (a : α) : Res.of (some a) = .ok a := rfl
@[simp] theorem Res.of_none {α : Type} : Res.of (none : Option α) = .bad := rfl

/-! ### dicts whose keys are tuples, nested -/
mutual
def keyOf : D → Option NestedKey
  | .none => some .none
  | .bool b => some (.num (if b = true then 1 else 0))
  | .int i => some (.num i)
  | .str x => some (.text x)
  | .tuple xs => (keysOf xs).map NestedKey.tup
  | .list _ => none
  | .dict _ => none
def keysOf : List D → Option (List NestedKey)
  | [] => some []
  | x :: xs => match keyOf x, keysOf xs with
    | some k, some ks => some (k :: ks)
    | _, _ => none
end
/-- an entry: the key, where its tuple stands, the value -/
abbrev Ent := NestedKey × Addr × V
def EntV : List Ent → List (NestedKey × Addr × Value) → Prop := Paired fun y x => y.1 = x.1 ∧ y.2.1 = x.2.1 ∧ RelV y.2.2 x.2.2
def dctP (w : World) (a : Addr) (ys : List Ent) (h : Heap) : Prop := (a == sysModules) = false ∧ ∃ xs, EntV ys xs ∧
  (∃ o es ep, h.get? a = some o ∧ o.ExactDict ∧ o.data = .dict es ep ∧ es.toList = xs.map fun x => (⟨x.1.hash w, .ref x.2.1, x.2.2⟩ : DictEntry)) ∧ (ys.map (·.1)).Nodup
/-- such a dict at a, the very object -/
def dctO (w : World) (a : Addr) (ys : List Ent) (o : Obj) : HO := .ext fun h => dctP w a ys h ∧ h.get? a = some o
/-- the world; the class of the objects -/
class Wd where
  w : World
  C : Addr
/-! ### data in a heap -/
mutual
inductive Is [Wd] (F : Hp) : V → PyData → Prop
  | non : Is F .non .none
  | bl (b : Bool) : Is F (.bl b) (.bool b)
  | int (i : Int) : Is F (.int i) (.int i)
  | str (x : Str) : Is F (.str x) (.str x)
  | lst {a : Addr} {xs : List V} {ds : List PyData} : Rd F a (.lst xs) → xs.length ≤ sizeLine → IsA F xs ds → Is F (.ref a) (.list ds)
  | tup {a : Addr} {xs : List V} {ds : List PyData} : Rd F a (.tup xs) → xs.length ≤ sizeLine → IsA F xs ds → Is F (.ref a) (.tuple ds)
  | dct {a : Addr} {ys : List Ent} {o : Obj} {kvs : List (PyData × PyData)} : F a = some (dctO Wd.w a ys o) → ys.length ≤ sizeLine → IsE F ys kvs → Is F (.ref a) (.dict kvs)
  | obj {a dx : Addr} {fs : List (Str × V)} {kvs : List (PyData × PyData)} : F a = some (.ins Wd.C dx fs) → IsO F fs kvs → Is F (.ref a) (.dict ((.none, .none) :: kvs))
inductive IsA [Wd] (F : Hp) : List V → List PyData → Prop
  | nil : IsA F [] []
  | cons {v : V} {vs : List V} {d : PyData} {ds : List PyData} : Is F v d → IsA F vs ds → IsA F (v :: vs) (d :: ds)
inductive IsE [Wd] (F : Hp) : List Ent → List (PyData × PyData) → Prop
  | nil : IsE F [] []
  | cons {y : Ent} {ys : List Ent} {k d : PyData} {es : List (PyData × PyData)} : keyOf k = some y.1 → y.1.depth ≤ 8 → Is F (.ref y.2.1) k → Is F y.2.2 d → IsE F ys es → IsE F (y :: ys) ((k, d) :: es)
inductive IsO [Wd] (F : Hp) : List (Str × V) → List (PyData × PyData) → Prop
  | nil : IsO F [] []
  | cons {f : Str} {v : V} {fs : List (Str × V)} {d : PyData} {es : List (PyData × PyData)} : Is F v d → IsO F fs es → IsO F ((f, v) :: fs) ((.str f, d) :: es)
end
theorem Rd.mono {F F' : Hp} {a : Addr} {u : HO} (e : Same F F') (h : Rd F a u) : Rd F' a u := by
  rcases h with h | ⟨o, h⟩
  · exact .inl (e _ _ h)
  · exact .inr ⟨o, e _ _ h⟩
section
variable [Wd] {F F' : Hp}
mutual
theorem Is.mono (e : Same F F') : ∀ {v : V} {d : PyData}, Is F v d → Is F' v d
  | _, _, .non => .non
  | _, _, .bl b => .bl b
  | _, _, .int i => .int i
  | _, _, .str x => .str x
  | _, _, .lst h z t => .lst (Rd.mono e h) z (IsA.mono e t)
  | _, _, .tup h z t => .tup (Rd.mono e h) z (IsA.mono e t)
  | _, _, .dct h z t => .dct (e _ _ h) z (IsE.mono e t)
  | _, _, .obj h t => .obj (e _ _ h) (IsO.mono e t)
theorem IsA.mono (e : Same F F') : ∀ {vs : List V} {ds : List PyData}, IsA F vs ds → IsA F' vs ds
  | _, _, .nil => .nil
  | _, _, .cons h t => .cons (Is.mono e h) (IsA.mono e t)
theorem IsE.mono (e : Same F F') : ∀ {ys : List Ent} {es : List (PyData × PyData)}, IsE F ys es → IsE F' ys es
  | _, _, .nil => .nil
  | _, _, .cons a b c d t => .cons a b (Is.mono e c) (Is.mono e d) (IsE.mono e t)
theorem IsO.mono (e : Same F F') : ∀ {fs : List (Str × V)} {es : List (PyData × PyData)}, IsO F fs es → IsO F' fs es
  | _, _, .nil => .nil
  | _, _, .cons d t => .cons (Is.mono e d) (IsO.mono e t)
end
mutual
/-- data without dicts -/
def noDct : PyData → Bool
  | .list xs => noDctA xs
  | .tuple xs => noDctA xs
  | .dict _ => false
  | _ => true
def noDctA : List PyData → Bool
  | [] => true
  | x :: xs => noDct x && noDctA xs
end
mutual
theorem noDct_lay : ∀ d : PyData, d.canLay0 = true → noDct d = true
  | .none, _ => rfl
  | .bool _, _ => rfl
  | .int _, _ => rfl
  | .str _, _ => rfl
  | .list xs, h => by simpa [noDct] using noDctA_lay xs (by simpa [PyData.canLay0] using h)
  | .tuple xs, h => by simpa [noDct] using noDctA_lay xs (by simpa [PyData.canLay0] using h)
  | .dict kvs, h => by simp [PyData.canLay0] at h
theorem noDctA_lay : ∀ ds : List PyData, PyData.canLayAll0 ds = true → noDctA ds = true
  | [], _ => rfl
  | x :: xs, h => by
    simp only [PyData.canLayAll0, Bool.and_eq_true] at h
    simp [noDctA, noDct_lay x h.1, noDctA_lay xs h.2]
end
theorem noDct_shaped {d : PyData} (h : SeqAt.shaped d = true) : noDct d = true := by
  unfold SeqAt.shaped at h
  exact noDct_lay d (Bool.and_eq_true_iff.mp h).1
mutual
theorem Is.dp {K : PySem.W.Frag} : ∀ {v : V} {d : PyData}, Is F v d → noDct d = true → Dp K F v d
  | _, _, .non, _ => .non
  | _, _, .bl b, _ => .bl b
  | _, _, .int i, _ => .int i
  | _, _, .str x, _ => .str x
  | _, .list ds, .lst h _ t, e => .lst (.inl h) (IsA.dp t (by simpa [noDct] using e))
  | _, .tuple ds, .tup h _ t, e => .tup (.inl h) (IsA.dp t (by simpa [noDct] using e))
  | _, .dict _, .dct _ _ _, e => by simp [noDct] at e
  | _, .dict _, .obj _ _, e => by simp [noDct] at e
theorem IsA.dp {K : PySem.W.Frag} : ∀ {vs : List V} {ds : List PyData}, IsA F vs ds → noDctA ds = true → DpAll K F vs ds
  | _, _, .nil, _ => .nil
  | _, d :: ds, .cons h t, e => .cons (Is.dp h (Bool.and_eq_true_iff.mp (by simpa only [noDctA] using e)).1) (IsA.dp t (Bool.and_eq_true_iff.mp (by simpa only [noDctA] using e)).2)
end
theorem IsA.length : ∀ {vs : List V} {ds : List PyData}, IsA F vs ds → vs.length = ds.length
  | _, _, .nil => rfl
  | _, _, .cons _ t => congrArg (· + 1) (IsA.length t)
theorem IsA.append : ∀ {vs ws : List V} {ds es : List PyData}, IsA F vs ds → IsA F ws es → IsA F (vs ++ ws) (ds ++ es)
  | _, _, _, _, .nil, q => q
  | _, _, _, _, .cons h t, q => .cons h (IsA.append t q)
theorem IsA.take : ∀ {vs : List V} {ds : List PyData} (n : Nat), IsA F vs ds → IsA F (vs.take n) (ds.take n)
  | _, _, 0, _ => .nil
  | _, _, _ + 1, .nil => .nil
  | _, _, n + 1, .cons h t => .cons h (IsA.take n t)
theorem IsA.drop : ∀ {vs : List V} {ds : List PyData} (n : Nat), IsA F vs ds → IsA F (vs.drop n) (ds.drop n)
  | _, _, 0, r => r
  | _, _, _ + 1, .nil => .nil
  | _, _, n + 1, .cons _ t => IsA.drop n t
theorem IsA.get : ∀ {vs : List V} {ds : List PyData} {i : Nat} {d : PyData}, IsA F vs ds → ds[i]? = some d → ∃ v, vs[i]? = some v ∧ Is F v d
  | _, _, _, _, .nil, e => by simp at e
  | _, _, 0, _, .cons r _, e => by simp at e; subst e; exact ⟨_, rfl, r⟩
  | _, _, i + 1, _, .cons _ t, e => by
    obtain ⟨v, h1, h2⟩ := IsA.get (i := i) t (by simpa using e)
    exact ⟨v, by simpa using h1, h2⟩
theorem IsA.get' : ∀ {vs : List V} {ds : List PyData} {i : Nat} {v : V}, IsA F vs ds → vs[i]? = some v → ∃ d, ds[i]? = some d ∧ Is F v d
  | _, _, _, _, .nil, e => by simp at e
  | _, _, 0, _, .cons r _, e => by simp at e; subst e; exact ⟨_, rfl, r⟩
  | _, _, i + 1, _, .cons _ t, e => by
    obtain ⟨d, h1, h2⟩ := IsA.get' (i := i) t (by simpa using e)
    exact ⟨d, by simpa using h1, h2⟩
theorem IsA.eraseIdx : ∀ {vs : List V} {ds : List PyData} (i : Nat), IsA F vs ds → IsA F (vs.eraseIdx i) (ds.eraseIdx i)
  | _, _, _, .nil => .nil
  | _, _, 0, .cons _ t => t
  | _, _, i + 1, .cons r t => .cons r (IsA.eraseIdx i t)
theorem IsA.dropLast : ∀ {vs : List V} {ds : List PyData}, IsA F vs ds → IsA F vs.dropLast ds.dropLast
  | _, _, .nil => .nil
  | _, _, .cons _ .nil => .nil
  | _, _, .cons h (.cons h' t) => .cons h (IsA.dropLast (.cons h' t))
theorem IsA.reverse : ∀ {vs : List V} {ds : List PyData}, IsA F vs ds → IsA F vs.reverse ds.reverse
  | _, _, .nil => .nil
  | _, _, .cons h t => by
    rw [List.reverse_cons, List.reverse_cons]
    exact IsA.append (IsA.reverse t) (.cons h .nil)
end

/-! ### the frozen part F of a heap H: all data lies in it; what is not in it may be written -/
structure Ext (F H F' H' : Hp) : Prop where
  up : Same F F'
  keep : Same H H'
  le : Same F' H'
  new : ∀ p o, F p = none → H p = some o → F' p = none
theorem Ext.refl {F H : Hp} (le : Same F H) : Ext F H F H := ⟨Same.refl _, Same.refl _, le, fun _ _ h _ => h⟩
theorem Ext.trans {F H F1 H1 F2 H2 : Hp} (a : Ext F H F1 H1) (b : Ext F1 H1 F2 H2) : Ext F H F2 H2 :=
  ⟨a.up.trans b.up, a.keep.trans b.keep, b.le, fun p o h1 h2 => b.new p o (a.new p o h1 h2) (a.keep p o h2)⟩
theorem same_upd {H : Hp} {p : Addr} {o : HO} (h : H p = none) : Same H (upd H p o) := fun b x e => by
  rw [upd_ne (ne_of_none e h)]
  exact e
theorem none_of_le {F H : Hp} {p : Addr} (le : Same F H) (h : H p = none) : F p = none := Same.free le h
/-- a new object, frozen at once -/
theorem Ext.laid {F H : Hp} {p : Addr} {o : HO} (le : Same F H) (h : H p = none) : Ext F H (upd F p o) (upd H p o) := by
  refine ⟨same_upd (none_of_le le h), same_upd h, fun b x e => ?_, fun b x e e2 => ?_⟩
  · by_cases hb : b = p
    · subst hb; rw [upd_same] at e ⊢; exact e
    · rw [upd_ne hb] at e ⊢; exact le _ _ e
  · rw [upd_ne (ne_of_none e2 h)]; exact e
/-- a new object that may be written -/
theorem Ext.fresh {F H : Hp} {p : Addr} {o : HO} (le : Same F H) (h : H p = none) : Ext F H F (upd H p o) :=
  ⟨Same.refl _, same_upd h, fun b x e => same_upd h _ _ (le _ _ e), fun _ _ e _ => e⟩
/-- an object of one's own is frozen -/
theorem Ext.freeze {F H F' H' : Hp} {p : Addr} {o : HO} (x : Ext F H F' H') (hf : F' p = none) (hn : H p = none) (hp : H' p = some o) : Ext F H (upd F' p o) H' := by
  refine ⟨x.up.trans (same_upd hf), x.keep, fun b y e => ?_, fun b y e e2 => ?_⟩
  · by_cases hb : b = p
    · subst hb; rw [upd_same] at e; rw [hp]; exact e
    · rw [upd_ne hb] at e; exact x.le _ _ e
  · rw [upd_ne (ne_of_none e2 hn)]; exact x.new _ _ e e2

def EntsIs [Wd] (F : Hp) : List Ent → List (D × D) → Prop := Paired fun y e => keyOf e.1 = some y.1 ∧ y.1.depth ≤ 8 ∧ Is F (.ref y.2.1) e.1 ∧ Is F y.2.2 e.2
theorem EntsIs.mono [Wd] {F F' : Hp} (e : Same F F') {ys : List Ent} {kvs : List (D × D)} (h : EntsIs F ys kvs) : EntsIs F' ys kvs := Paired.mapP h fun _ _ ⟨a, b, c, d⟩ => ⟨a, b, c.mono e, d.mono e⟩

theorem EntsIs.e [Wd] {F : Hp} : ∀ {ys : List Ent} {kvs : List (D × D)}, EntsIs F ys kvs → IsE F ys kvs
  | _, _, .nil => .nil
  | _, _, .cons h t => .cons h.1 h.2.1 h.2.2.1 h.2.2.2 (EntsIs.e t)
theorem IsE.ents [Wd] {F : Hp} : ∀ {ys : List Ent} {kvs : List (D × D)}, IsE F ys kvs → EntsIs F ys kvs
  | _, _, .nil => .nil
  | _, _, .cons a b c d t => .cons ⟨a, b, c, d⟩ (IsE.ents t)

/-! ### bindings -/
inductive B where
  | d (x : D)
  | own (xs : List D)
  | dct (kvs : List (D × D))
  | raw
abbrev Rho := List (Option B)
def B.isOwn : B → Bool
  | .d _ => false
  | .own _ => true
  | .dct _ => true
  | .raw => false
/-- what flies for c: its class, its dict, frozen -/
def Zx (Z : String → Addr → Prop) (c : Exc) (cls : Value) (dd : Option Addr) (F : Hp) : Prop := ∃ C : Addr, Z c.cls C ∧ cls = .ref C ∧ match c.num with
  | none => dd = none
  | some n => ∃ d, dd = some d ∧ F d = some (.xd [(("at" : Str), .int n)])
/-- the ambience of a def's body: the frozen heap and the heap at its entry, the exceptions -/
structure Amb where
  F0 : Hp
  H0 : Hp
  Z : String → Addr → Prop
  n : Nat
  x : V
/-- a list of one's own at v -/
def OwnL [Wd] (A : Amb) (F H : Hp) (v : V) (xs : List D) : Prop :=
  ∃ p vs, v = .ref p ∧ F p = none ∧ A.H0 p = none ∧ H p = some (.lst vs) ∧ vs.length ≤ sizeLine ∧ IsA F vs xs
/-- a dict of one's own at v -/
def OwnD [Wd] (A : Amb) (F H : Hp) (v : V) (kvs : List (D × D)) : Prop :=
  ∃ p ys o, v = .ref p ∧ F p = none ∧ A.H0 p = none ∧ H p = some (dctO Wd.w p ys o) ∧ ys.length ≤ sizeLine ∧ EntsIs F ys kvs
def Bd [Wd] (A : Amb) (F H : Hp) (v : V) : B → Prop
  | .d x => Is F v x
  | .own xs => OwnL A F H v xs
  | .dct kvs => OwnD A F H v kvs
  | .raw => v = A.x
theorem OwnL.ext [Wd] {A : Amb} {F H F' H' : Hp} {v : V} {xs : List D} (x : Ext F H F' H') (h : OwnL A F H v xs) : OwnL A F' H' v xs := by
  obtain ⟨p, vs, e, hf, h0, hp, hz, hi⟩ := h
  exact ⟨p, vs, e, x.new _ _ hf hp, h0, x.keep _ _ hp, hz, hi.mono x.up⟩
theorem OwnD.ext [Wd] {A : Amb} {F H F' H' : Hp} {v : V} {kvs : List (D × D)} (x : Ext F H F' H') (h : OwnD A F H v kvs) : OwnD A F' H' v kvs := by
  obtain ⟨p, ys, o, e, hf, h0, hp, hz, hi⟩ := h
  exact ⟨p, ys, o, e, x.new _ _ hf hp, h0, x.keep _ _ hp, hz, hi.mono x.up⟩
theorem Bd.ext [Wd] {A : Amb} {F H F' H' : Hp} {v : V} (x : Ext F H F' H') : ∀ {b : B}, Bd A F H v b → Bd A F' H' v b
  | .d _, h => Is.mono x.up h
  | .own _, h => OwnL.ext x h
  | .dct _, h => OwnD.ext x h
  | .raw, h => h
/-- what is one's own stands at an address that is not frozen -/
theorem Bd.at [Wd] {A : Amb} {F H : Hp} {v : V} : ∀ {b : B}, b.isOwn = true → Bd A F H v b → ∃ p o, v = .ref p ∧ F p = none ∧ A.H0 p = none ∧ H p = some o
  | .d _, e, _ => by cases e
  | .raw, e, _ => by cases e
  | .own _, _, ⟨p, vs, e, h1, h2, h3, _⟩ => ⟨p, _, e, h1, h2, h3⟩
  | .dct _, _, ⟨p, vs, o, e, h1, h2, h3, _⟩ => ⟨p, _, e, h1, h2, h3⟩
/-- .. and stays what it is, if the heap stays there and F grows elsewhere -/
theorem Bd.move [Wd] {A : Amb} {F H F' H' : Hp} {p : Addr} {b : B} (o : b.isOwn = true) (h : Bd A F H (.ref p) b) (e : Same F F') (hf : F' p = none) (hp : H' p = H p) : Bd A F' H' (.ref p) b := by
  cases b with
  | d x => cases o
  | raw => cases o
  | own xs =>
    obtain ⟨q, vs, e0, h1, h2, h3, h4, h5⟩ := h
    cases e0
    exact ⟨p, vs, rfl, hf, h2, by rw [hp]; exact h3, h4, h5.mono e⟩
  | dct kvs =>
    obtain ⟨q, ys, o', e0, h1, h2, h3, h4, h5⟩ := h
    cases e0
    exact ⟨p, ys, o', rfl, hf, h2, by rw [hp]; exact h3, h4, h5.mono e⟩
structure Sim [Wd] (A : Amb) (F H : Hp) (σ : L2.St) (ρ : Rho) : Prop where
  ext : Ext A.F0 A.H0 F H
  len : σ.length = ρ.length
  num : ρ.length = A.n
  val : ∀ (i : Nat) (b : B), ρ[i]? = some (some b) → ∃ v, σ[i]? = some (some v) ∧ Bd A F H v b
  sep : ∀ (i j : Nat) (b c : B) (v : V), i ≠ j → ρ[i]? = some (some b) → ρ[j]? = some (some c) → b.isOwn = true → c.isOwn = true → σ[i]? = some (some v) → σ[j]? ≠ some (some v)
section
variable [Wd] {A : Amb} {F H F' H' : Hp} {σ : L2.St} {ρ : Rho}
theorem Sim.le (S : Sim A F H σ ρ) : Same F H := S.ext.le
theorem Sim.grow (S : Sim A F H σ ρ) (x : Ext F H F' H') : Sim A F' H' σ ρ :=
  ⟨S.ext.trans x, S.len, S.num, fun i b e => let ⟨v, h1, h2⟩ := S.val i b e; ⟨v, h1, Bd.ext x h2⟩, S.sep⟩
/-- a slot takes data -/
theorem Sim.setD (S : Sim A F H σ ρ) {i : Nat} {v : V} {x : D} (h : Is F v x) : Sim A F H (σ.set i (some v)) (ρ.set i (some (.d x))) := by
  refine ⟨S.ext, by simp [S.len], by simp [S.num], fun j b e => ?_, fun j k b c w hjk e1 e2 o1 o2 e3 e4 => ?_⟩
  · by_cases hj : i = j
    · subst hj
      by_cases hi : i < ρ.length
      · rw [List.getElem?_set_self hi] at e
        cases e
        exact ⟨v, by rw [List.getElem?_set_self (by rw [S.len]; exact hi)], h⟩
      · rw [List.getElem?_eq_none (by simpa using hi)] at e; cases e
    · rw [List.getElem?_set_ne hj] at e ⊢
      exact S.val j b e
  · have hj : i ≠ j := fun z => by
      subst z
      by_cases hi : i < ρ.length
      · rw [List.getElem?_set_self hi] at e1; cases e1; cases o1
      · rw [List.getElem?_eq_none (by simpa using hi)] at e1; cases e1
    have hk : i ≠ k := fun z => by
      subst z
      by_cases hi : i < ρ.length
      · rw [List.getElem?_set_self hi] at e2; cases e2; cases o2
      · rw [List.getElem?_eq_none (by simpa using hi)] at e2; cases e2
    rw [List.getElem?_set_ne hj] at e1 e3
    rw [List.getElem?_set_ne hk] at e2 e4
    exact S.sep j k b c w hjk e1 e2 o1 o2 e3 e4
/-- a slot takes a list or dict of one's own that stands nowhere else -/
theorem Sim.setW (S : Sim A F H σ ρ) {i : Nat} {p : Addr} {x : B} (h : Bd A F H (.ref p) x) (hs : ∀ (j : Nat) (b : B), j ≠ i → ρ[j]? = some (some b) → b.isOwn = true → σ[j]? ≠ some (some (.ref p))) :
    Sim A F H (σ.set i (some (.ref p))) (ρ.set i (some x)) := by
  have back : ∀ {j : Nat} {b : B}, i ≠ j → (ρ.set i (some x))[j]? = some (some b) → ρ[j]? = some (some b) := fun hj e => by rw [List.getElem?_set_ne hj] at e; exact e
  refine ⟨S.ext, by simp [S.len], by simp [S.num], fun j b e => ?_, fun j k b c w hjk e1 e2 o1 o2 e3 e4 => ?_⟩
  · by_cases hj : i = j
    · subst hj
      by_cases hi : i < ρ.length
      · rw [List.getElem?_set_self hi] at e
        cases e
        exact ⟨.ref p, by rw [List.getElem?_set_self (by rw [S.len]; exact hi)], h⟩
      · rw [List.getElem?_eq_none (by simpa using hi)] at e; cases e
    · rw [List.getElem?_set_ne hj] at e ⊢
      exact S.val j b e
  · have here : ∀ {j : Nat} {w : V}, j = i → (σ.set i (some (.ref p)))[j]? = some (some w) → w = .ref p := fun {j w} z e => by
      subst z
      by_cases hi : j < σ.length
      · rw [List.getElem?_set_self hi] at e; cases e; rfl
      · rw [List.getElem?_eq_none (by simpa using hi)] at e; cases e
    by_cases hj : i = j
    · have hk : i ≠ k := fun z => hjk (hj.symm.trans z)
      have hw := here hj.symm e3
      subst hw
      rw [List.getElem?_set_ne hk] at e4
      exact hs k c (Ne.symm hk) (back hk e2) o2 e4
    · by_cases hk : i = k
      · have hw := here hk.symm e4
        subst hw
        rw [List.getElem?_set_ne hj] at e3
        exact hs j b (Ne.symm hj) (back hj e1) o1 e3
      · rw [List.getElem?_set_ne hj] at e3
        rw [List.getElem?_set_ne hk] at e4
        exact S.sep j k b c w hjk (back hj e1) (back hk e2) o1 o2 e3 e4
theorem Sim.setO (S : Sim A F H σ ρ) {i : Nat} {p : Addr} {xs : List D} (h : OwnL A F H (.ref p) xs) (hs : ∀ (j : Nat) (b : B), j ≠ i → ρ[j]? = some (some b) → b.isOwn = true → σ[j]? ≠ some (some (.ref p))) :
    Sim A F H (σ.set i (some (.ref p))) (ρ.set i (some (.own xs))) := S.setW (x := .own xs) h hs
/-- a slot is forgotten -/
theorem Sim.drop (S : Sim A F H σ ρ) (i : Nat) (x : Option V) : Sim A F H (σ.set i x) (ρ.set i none) := by
  have back : ∀ {j : Nat} {b : B}, (ρ.set i none)[j]? = some (some b) → i ≠ j ∧ ρ[j]? = some (some b) := fun {j b} e => by
    by_cases hj : i = j
    · subst hj
      by_cases hi : i < ρ.length
      · rw [List.getElem?_set_self hi] at e; cases e
      · rw [List.getElem?_eq_none (by simpa using hi)] at e; cases e
    · rw [List.getElem?_set_ne hj] at e; exact ⟨hj, e⟩
  refine ⟨S.ext, by simp [S.len], by simp [S.num], fun j b e => ?_, fun j k b c w hjk e1 e2 o1 o2 e3 e4 => ?_⟩
  · obtain ⟨hj, e⟩ := back e
    rw [List.getElem?_set_ne hj]
    exact S.val j b e
  · obtain ⟨hj, e1⟩ := back e1
    obtain ⟨hk, e2⟩ := back e2
    rw [List.getElem?_set_ne hj] at e3
    rw [List.getElem?_set_ne hk] at e4
    exact S.sep j k b c w hjk e1 e2 o1 o2 e3 e4
/-- an own list's address is new, so it stands in no other slot -/
theorem Sim.new (S : Sim A F H σ ρ) {p : Addr} (h : H p = none) : ∀ (j : Nat) (b : B), ρ[j]? = some (some b) → b.isOwn = true → σ[j]? ≠ some (some (V.ref p)) := fun j b e o z => by
  obtain ⟨v, e1, e2⟩ := S.val j b e
  rw [z] at e1
  cases e1
  obtain ⟨q, ob, e3, _, _, hp⟩ := Bd.at o e2
  cases e3
  rw [h] at hp
  cases hp
/-- an own list is frozen -/
theorem Sim.freeze (S : Sim A F H σ ρ) {i : Nat} {xs : List D} (h : ρ[i]? = some (some (.own xs))) : ∃ F', Ext F F F' H ∧ Sim A F' H σ (ρ.set i (some (.d (.list xs)))) := by
  obtain ⟨v, e1, p, vs, rfl, hf, h0, hp, hz, hA⟩ := S.val i _ h
  refine ⟨upd F p (.lst vs), ?_, ?_⟩
  · refine ⟨same_upd hf, S.le, fun b y e => ?_, fun b y e e2 => by rw [e] at e2; cases e2⟩
    by_cases hb : b = p
    · subst hb; rw [upd_same] at e; rw [hp]; exact e
    · rw [upd_ne hb] at e; exact S.le _ _ e
  · refine ⟨S.ext.freeze hf h0 hp, by simp [S.len], by simp [S.num], fun j b e => ?_, fun j k b c w hjk e1 e2 o1 o2 e3 e4 => ?_⟩
    · by_cases hj : i = j
      · subst hj
        have hi : i < ρ.length := (List.getElem?_eq_some_iff.mp h).1
        rw [List.getElem?_set_self hi] at e
        cases e
        exact ⟨.ref p, e1, .lst (.inl upd_same) hz (hA.mono (same_upd hf))⟩
      · rw [List.getElem?_set_ne hj] at e
        obtain ⟨w, e2, e3⟩ := S.val j b e
        refine ⟨w, e2, ?_⟩
        cases ho : b.isOwn with
        | false => cases b with
          | d x => exact Is.mono (same_upd hf) e3
          | raw => exact e3
          | _ => cases ho
        | true =>
          obtain ⟨q, ob, e4, gf, g0, gp⟩ := Bd.at ho e3
          subst e4
          have hq : q ≠ p := fun z => by
            subst z
            exact S.sep i j _ _ _ hj h e rfl ho e1 e2
          exact Bd.move ho e3 (same_upd hf) (by rw [upd_ne hq]; exact gf) rfl
    · have hj : i ≠ j := fun z => by
        subst z
        have hi : i < ρ.length := (List.getElem?_eq_some_iff.mp h).1
        rw [List.getElem?_set_self hi] at e1; cases e1; cases o1
      have hk : i ≠ k := fun z => by
        subst z
        have hi : i < ρ.length := (List.getElem?_eq_some_iff.mp h).1
        rw [List.getElem?_set_self hi] at e2; cases e2; cases o2
      rw [List.getElem?_set_ne hj] at e1
      rw [List.getElem?_set_ne hk] at e2
      exact S.sep j k b c w hjk e1 e2 o1 o2 e3 e4
end
end DL

/-! The data layer, part 2: the judgements for expressions, the rules. -/
namespace DL
open PySem PySem.Spec PyProof.Rows L2

/-- data that is read at once: a list may be one of one's own -/
inductive IsH [Wd] (F H : Hp) : V → D → Prop
  | of {v : V} {d : D} (h : Is F v d) : IsH F H v d
  | lst {p : Addr} {vs : List V} {ds : List D} (h : Rd H p (.lst vs)) (z : vs.length ≤ sizeLine) (t : IsA F vs ds) : IsH F H (.ref p) (.list ds)
section
variable [Wd] {F H F' H' : Hp} {v : V}
theorem IsH.ext {d : D} (x : Ext F H F' H') : IsH F H v d → IsH F' H' v d
  | .of h => .of (h.mono x.up)
  | .lst h z t => .lst (Rd.mono x.keep h) z (t.mono x.up)
theorem IsH.list {ds : List D} (le : Same F H) (h : IsH F H v (.list ds)) : ∃ p vs, v = .ref p ∧ Rd H p (.lst vs) ∧ vs.length ≤ sizeLine ∧ IsA F vs ds := by
  cases h with
  | of h => cases h with | lst h z t => exact ⟨_, _, rfl, Rd.mono le h, z, t⟩
  | lst h z t => exact ⟨_, _, rfl, h, z, t⟩
theorem IsH.tup {ds : List D} (le : Same F H) (h : IsH F H v (.tuple ds)) : ∃ p vs, v = .ref p ∧ Rd H p (.tup vs) ∧ vs.length ≤ sizeLine ∧ IsA F vs ds := by
  cases h with
  | of h => cases h with | tup h z t => exact ⟨_, _, rfl, Rd.mono le h, z, t⟩
theorem IsH.int {i : Int} (h : IsH F H v (.int i)) : v = .int i := by
  cases h with
  | of h => cases h; rfl
theorem IsH.bl {b : Bool} (h : IsH F H v (.bool b)) : v = .bl b := by
  cases h with
  | of h => cases h; rfl
theorem IsH.str {x : Str} (h : IsH F H v (.str x)) : v = .str x := by
  cases h with
  | of h => cases h; rfl
theorem IsH.non (h : IsH F H v .none) : v = .non := by
  cases h with
  | of h => cases h; rfl
theorem IsH.dp {K : PySem.W.Frag} {d : D} (le : Same F H) (h : IsH F H v d) (n : noDct d = true) : Dp K H v d := by
  cases h with
  | of h => exact (h.mono le).dp n
  | lst h z t => exact .lst (.inl h) ((t.mono le).dp (by simpa [noDct] using n))
end

/-! ### readings -/
section
variable [Wd] (A : Amb) (W : WX)
/-- what follows an exception -/
def Pex (F H : Hp) (σ : L2.St) (c : Exc) : Prop := ∀ cls dd F' H', Ext F H F' H' → Zx A.Z c cls dd F' → W cls dd σ H'
/-- an expression gives frozen data -/
def tD (f : Rho → Res D) : TE := fun σ H Q => ∃ F ρ, Sim A F H σ ρ ∧ match f ρ with
  | .ok d => ∀ v F' H', Ext F H F' H' → Is F' v d → Q v H'
  | .ex c => Pex A W F H σ c
  | .bad => False
/-- .. data to be read at once -/
def tB (f : Rho → Res D) : TE := fun σ H Q => ∃ F ρ, Sim A F H σ ρ ∧ match f ρ with
  | .ok d => ∀ v F' H', Ext F H F' H' → IsH F' H' v d → Q v H'
  | .ex c => Pex A W F H σ c
  | .bad => False
/-- .. a new list that nobody holds -/
def tO (f : Rho → Res (List D)) : TE := fun σ H Q => ∃ F ρ, Sim A F H σ ρ ∧ match f ρ with
  | .ok ds => ∀ p vs F' H', Ext F H F' H' → F' p = none → H p = none → H' p = some (.lst vs) → vs.length ≤ sizeLine → IsA F' vs ds → Q (.ref p) H'
  | .ex c => Pex A W F H σ c
  | .bad => False
/-- a test -/
def tT (f : Rho → Res Bool) : TT := fun σ H Q => ∃ F ρ, Sim A F H σ ρ ∧ match f ρ with
  | .ok b => ∀ F' H', Ext F H F' H' → Q b H'
  | .ex c => Pex A W F H σ c
  | .bad => False
/-- arguments -/
def tAs (f : Rho → Res (List D)) : TA := fun σ H Q => ∃ F ρ, Sim A F H σ ρ ∧ match f ρ with
  | .ok ds => ∀ vs F' H', Ext F H F' H' → IsA F' vs ds → Q vs H'
  | .ex c => Pex A W F H σ c
  | .bad => False
/-- .. that are read at once -/
inductive IsHA [Wd] (F H : Hp) : List V → List D → Prop
  | nil : IsHA F H [] []
  | cons {v : V} {vs : List V} {d : D} {ds : List D} : IsH F H v d → IsHA F H vs ds → IsHA F H (v :: vs) (d :: ds)
def tBs (f : Rho → Res (List D)) : TA := fun σ H Q => ∃ F ρ, Sim A F H σ ρ ∧ match f ρ with
  | .ok ds => ∀ vs F' H', Ext F H F' H' → IsHA F' H' vs ds → Q vs H'
  | .ex c => Pex A W F H σ c
  | .bad => False
end
theorem Pex.ext [Wd] {A : Amb} {W : WX} {F H F' H' : Hp} {σ : L2.St} {c : Exc} (x : Ext F H F' H') (h : Pex A W F H σ c) : Pex A W F' H' σ c := fun cls dd F2 H2 y z => h cls dd F2 H2 (x.trans y) z
theorem peI [Wd] {X : Cx} {e : Expr} {t t' : TE} (h : PE X e t) (i : ∀ σ H Q, t' σ H Q → t σ H Q) : PE X e t' := ⟨fun pins s σ H Q I q => h.run pins s σ H Q I (i _ _ _ q)⟩
theorem ptI [Wd] {X : Cx} {e : Expr} {t t' : TT} (h : PT X e t) (i : ∀ σ H Q, t' σ H Q → t σ H Q) : PT X e t' := ⟨fun pins s σ H Q I q => h.run pins s σ H Q I (i _ _ _ q)⟩
theorem pwI [Wd] {X : Cx} {e : Expr} {t t' : TT} (h : PW X e t) (i : ∀ σ H Q, t' σ H Q → t σ H Q) : PW X e t' := ⟨fun wh pins s σ H Q I q => h.run wh pins s σ H Q I (i _ _ _ q)⟩
theorem paI [Wd] {X : Cx} {es : List Expr} {t t' : TA} (h : PA X es t) (i : ∀ σ H Q, t' σ H Q → t σ H Q) : PA X es t' := ⟨fun pos pins s σ H Q I q => h.run pos pins s σ H Q I (i _ _ _ q)⟩
abbrev DE [Wd] (X : Cx) (A : Amb) (W : WX) (e : Expr) (f : Rho → Res D) : Prop := PE X e (tD A W f)
abbrev BE [Wd] (X : Cx) (A : Amb) (W : WX) (e : Expr) (f : Rho → Res D) : Prop := PE X e (tB A W f)
abbrev OE [Wd] (X : Cx) (A : Amb) (W : WX) (e : Expr) (f : Rho → Res (List D)) : Prop := PE X e (tO A W f)
abbrev DT [Wd] (X : Cx) (A : Amb) (W : WX) (e : Expr) (f : Rho → Res Bool) : Prop := PT X e (tT A W f)
abbrev DAs [Wd] (X : Cx) (A : Amb) (W : WX) (es : List Expr) (f : Rho → Res (List D)) : Prop := PA X es (tAs A W f)
abbrev BAs [Wd] (X : Cx) (A : Amb) (W : WX) (es : List Expr) (f : Rho → Res (List D)) : Prop := PA X es (tBs A W f)

/-! ### one kind of reading into another -/
section
variable [Wd] {X : Cx} {A : Amb} {W : WX} {e : Expr}
theorem b_d {f : Rho → Res D} (h : DE X A W e f) : BE X A W e f := peI h fun σ H Q ⟨F, ρ, S, q⟩ => ⟨F, ρ, S, by
  cases hf : f ρ with
  | ok d => rw [hf] at q; exact fun v F' H' x i => q v F' H' x (.of i)
  | ex c => rw [hf] at q; exact q
  | bad => rw [hf] at q; exact q⟩
def frz (f : Rho → Res (List D)) : Rho → Res D := fun ρ => (f ρ).map PyData.list
theorem d_o {f : Rho → Res (List D)} (h : OE X A W e f) : DE X A W e (frz f) := peI h fun σ H Q ⟨F, ρ, S, q⟩ => ⟨F, ρ, S, by
  unfold frz at q
  cases hf : f ρ with
  | ok ds =>
    rw [hf] at q
    exact fun p vs F' H' x hp hn hH hz hi => q (.ref p) _ H' (x.freeze hp hn hH) (.lst (.inl upd_same) hz (hi.mono (same_upd hp)))
  | ex c => rw [hf] at q; exact q
  | bad => rw [hf] at q; exact q⟩
theorem b_o {f : Rho → Res (List D)} (h : OE X A W e f) : BE X A W e (frz f) := b_d (d_o h)
end

/-! ### names, constants -/
def rd (i : Nat) : Rho → Res D := fun ρ => match ρ[i]? with
  | some (some (.d x)) => .ok x
  | _ => .bad
def rdB (i : Nat) : Rho → Res D := fun ρ => match ρ[i]? with
  | some (some (.d x)) => .ok x
  | some (some (.own xs)) => .ok (.list xs)
  | _ => .bad
def kst (d : D) : Rho → Res D := fun _ => .ok d
section
variable [Wd] {X : Cx} {A : Amb} {W : WX}
theorem d_v (i : Nat) {x : Str} {pos : Pos} (hN : X.N[i]? = some x := by rfl) (hv : Vis X.env.scope x := by first | exact Or.inl rfl | exact Or.inr (Or.inl rfl) | exact Or.inr (Or.inr rfl)) (hd : (x == ("__debug__" : Str)) = false := by decide)
    (hcd : (x == ("__classdict__" : Str)) = false := by decide) : DE X A W (.Name x pos) (rd i) := peI (pe_var hN hv hd hcd) fun σ H Q ⟨F, ρ, S, q⟩ => by
  cases hr : ρ[i]? with
  | none => simp [rd, hr] at q
  | some o =>
    cases o with
    | none => simp [rd, hr] at q
    | some b =>
      obtain ⟨v, e1, e2⟩ := S.val i _ hr
      cases b with
      | d x => simp only [rd, hr] at q; exact ⟨v, e1, q v F H (.refl S.le) e2⟩
      | own xs => simp [rd, hr] at q
      | dct xs => simp [rd, hr] at q
      | raw => simp [rd, hr] at q
theorem b_v (i : Nat) {x : Str} {pos : Pos} (hN : X.N[i]? = some x := by rfl) (hv : Vis X.env.scope x := by first | exact Or.inl rfl | exact Or.inr (Or.inl rfl) | exact Or.inr (Or.inr rfl)) (hd : (x == ("__debug__" : Str)) = false := by decide)
    (hcd : (x == ("__classdict__" : Str)) = false := by decide) : BE X A W (.Name x pos) (rdB i) := peI (pe_var hN hv hd hcd) fun σ H Q ⟨F, ρ, S, q⟩ => by
  cases hr : ρ[i]? with
  | none => simp [rdB, hr] at q
  | some o =>
    cases o with
    | none => simp [rdB, hr] at q
    | some b =>
      obtain ⟨v, e1, e2⟩ := S.val i _ hr
      cases b with
      | d x => simp only [rdB, hr] at q; exact ⟨v, e1, q v F H (.refl S.le) (.of e2)⟩
      | own xs =>
        simp only [rdB, hr] at q
        obtain ⟨p, vs, rfl, hf, h0, hp, hz, hi⟩ := e2
        exact ⟨_, e1, q _ F H (.refl S.le) (.lst (.inl hp) hz hi)⟩
      | dct xs => simp [rdB, hr] at q
      | raw => simp [rdB, hr] at q
theorem d_const {e : Expr} {v : V} {d : D} (h : PE X e (tC v)) (i : ∀ F, Is F v d) : DE X A W e (kst d) := peI h fun σ H Q ⟨F, ρ, S, q⟩ => q v F H (.refl S.le) (i _)
theorem d_int {i j pos} : DE X A W (.Constant (.int i) j pos) (kst (.int i)) := d_const pe_int fun _ => .int _
theorem d_bl {b j pos} : DE X A W (.Constant (.bool b) j pos) (kst (.bool b)) := d_const pe_bl fun _ => .bl _
theorem d_non {j pos} : DE X A W (.Constant .none j pos) (kst .none) := d_const pe_non fun _ => .non
theorem d_str {x j pos} : DE X A W (.Constant (.str x) j pos) (kst (.str x)) := d_const pe_str fun _ => .str _
/-- a module's constant -/
theorem d_glob {x : Str} {v : V} {d : D} {u : Value} {pos : Pos} (hg : Gl X x) (hm : X.mg x = some u) (r : RelV v u) (i : ∀ F, Is F v d) (hd : (x == ("__debug__" : Str)) = false := by decide) : DE X A W (.Name x pos) (kst d) :=
  d_const (pe_glob hg hm r hd) i
end
end DL

/-! The data layer, part 3: operators, built-ins, subscripts, slices. -/
namespace DL
open PySem PySem.Spec PyProof.Rows L2

/-! ### rules by data -/
/-- two data in, frozen data out -/
def rD [Wd] (g : D → D → Option D) : R2 := fun x y H Q => ∃ F a b d, Same F H ∧ IsH F H x a ∧ IsH F H y b ∧ g a b = some d ∧ ∀ v F' H', Ext F H F' H' → Is F' v d → Q v H'
/-- .. a new list out -/
def rO [Wd] (g : D → D → Option (List D)) : R2 := fun x y H Q => ∃ F a b ds, Same F H ∧ IsH F H x a ∧ IsH F H y b ∧ g a b = some ds ∧
  ∀ p vs F' H', Ext F H F' H' → F' p = none → H p = none → H' p = some (.lst vs) → vs.length ≤ sizeLine → IsA F' vs ds → Q (.ref p) H'
/-- a call's data in, frozen data out -/
def cD [Wd] (g : List D → Option D) : List V → Hp → VK → Prop := fun xs H Q => ∃ F as d, Same F H ∧ IsHA F H xs as ∧ g as = some d ∧ ∀ v F' H', Ext F H F' H' → Is F' v d → Q v H'
def cO [Wd] (g : List D → Option (List D)) : List V → Hp → VK → Prop := fun xs H Q => ∃ F as ds, Same F H ∧ IsHA F H xs as ∧ g as = some ds ∧
  ∀ p vs F' H', Ext F H F' H' → F' p = none → H p = none → H' p = some (.lst vs) → vs.length ≤ sizeLine → IsA F' vs ds → Q (.ref p) H'

def op2 {α : Type} (g : D → D → Option α) (fa fb : Rho → Res D) : Rho → Res α := fun ρ => (fa ρ).bind fun a => (fb ρ).bind fun b => .of (g a b)
section
variable [Wd] {X : Cx} {A : Amb} {W : WX} {a b : Expr} {fa fb : Rho → Res D}
theorem op2_run {r : R2} {α : Type} {g : D → D → Option α} {σ : L2.St} {H : Hp} {Q : VK} {F : Hp} {ρ : Rho} (S : Sim A F H σ ρ)
    (q : match op2 g fa fb ρ with
      | .ok d => ∀ x y F' H' a b, Ext F H F' H' → IsH F' H' x a → IsH F' H' y b → g a b = some d → r x y H' Q
      | .ex c => Pex A W F H σ c
      | .bad => False) : tOp r (tB A W fa) (tB A W fb) σ H Q := by
  unfold op2 at q
  refine ⟨F, ρ, S, ?_⟩
  cases ha : fa ρ with
  | bad => rw [ha] at q; exact q
  | ex c => rw [ha] at q; exact q
  | ok da =>
    rw [ha] at q
    intro x F1 H1 x1 i1
    refine ⟨F1, ρ, S.grow x1, ?_⟩
    cases hb : fb ρ with
    | bad => simp only [hb, Res.bind_ok, Res.bind_bad] at q
    | ex c => simp only [hb, Res.bind_ok, Res.bind_ex] at q; exact q.ext x1
    | ok db =>
      simp only [hb, Res.bind_ok] at q
      intro y F2 H2 x2 i2
      cases hg : g da db with
      | none => rw [hg] at q; exact q.elim
      | some d => rw [hg] at q; exact q x y F2 H2 da db (x1.trans x2) (i1.ext x2) i2 hg
theorem op2_D {g : D → D → Option D} {σ : L2.St} {H : Hp} {Q : VK} (h : tD A W (op2 g fa fb) σ H Q) : tOp (rD g) (tB A W fa) (tB A W fb) σ H Q := by
  obtain ⟨F, ρ, S, q⟩ := h
  refine op2_run (g := g) S ?_
  cases ho : op2 g fa fb ρ with
  | bad => rw [ho] at q; exact q
  | ex c => rw [ho] at q; exact q
  | ok d =>
    rw [ho] at q
    exact fun x y F' H' a b x1 i1 i2 hg => ⟨F', a, b, d, x1.le, i1, i2, hg, fun v F2 H2 x2 i => q v F2 H2 (x1.trans x2) i⟩
theorem op2_O {g : D → D → Option (List D)} {σ : L2.St} {H : Hp} {Q : VK} (h : tO A W (op2 g fa fb) σ H Q) : tOp (rO g) (tB A W fa) (tB A W fb) σ H Q := by
  obtain ⟨F, ρ, S, q⟩ := h
  refine op2_run (g := g) S ?_
  cases ho : op2 g fa fb ρ with
  | bad => rw [ho] at q; exact q
  | ex c => rw [ho] at q; exact q
  | ok d =>
    rw [ho] at q
    exact fun x y F' H' a b x1 i1 i2 hg => ⟨F', a, b, d, x1.le, i1, i2, hg, fun p vs F2 H2 x2 h1 h2 h3 h4 h5 => q p vs F2 H2 (x1.trans x2) h1 (Same.free x1.keep h2) h3 h4 h5⟩
theorem d_op {op : Operator} {g : D → D → Option D} {pos : Pos} (ho : OpR X (binaryOp op) (rD g)) (ha : BE X A W a fa) (hb : BE X A W b fb) : DE X A W (.BinOp a op b pos) (op2 g fa fb) :=
  peI (pe_op ho ha hb) fun σ H Q h => op2_D h
theorem o_op {op : Operator} {g : D → D → Option (List D)} {pos : Pos} (ho : OpR X (binaryOp op) (rO g)) (ha : BE X A W a fa) (hb : BE X A W b fb) : OE X A W (.BinOp a op b pos) (op2 g fa fb) :=
  peI (pe_op ho ha hb) fun σ H Q h => op2_O h
theorem d_cmp {op : CmpOp} {g : D → D → Option D} {pos : Pos} (ho : OpR X (compareOp op) (rD g)) (ha : BE X A W a fa) (hb : BE X A W b fb) (hm : behindInMarks op b = false) : DE X A W (.Compare a [op] [b] pos) (op2 g fa fb) :=
  peI (pe_cmpR ho ha hb hm) fun σ H Q h => op2_D h
theorem d_ix {g : D → D → Option D} {pos : Pos} (ho : IxR X (rD g)) (ha : BE X A W a fa) (hb : BE X A W b fb) (hs : PlainIx b) : DE X A W (.Subscript a b pos) (op2 g fa fb) :=
  peI (pe_ix ho ha hb hs) fun σ H Q h => op2_D h
end

/-! ### arithmetic, joining -/
def addD : D → D → Option D
  | .int i, .int j => some (.int (i + j))
  | .str x, .str y => if x.length + y.length ≤ sizeLine then some (.str (x ++ y)) else none
  | .list xs, .list ys => if xs.length + ys.length ≤ sizeLine then some (.list (xs ++ ys)) else none
  | .tuple xs, .tuple ys => if xs.length + ys.length ≤ sizeLine then some (.tuple (xs ++ ys)) else none
  | _, _ => none
def catD : D → D → Option (List D)
  | .list xs, .list ys => if xs.length + ys.length ≤ sizeLine then some (xs ++ ys) else none
  | _, _ => none
def intD (c : Int → Int → Bool) (g : Int → Int → Int) : D → D → Option D
  | .int i, .int j => if c i j = true then some (.int (g i j)) else none
  | _, _ => none
abbrev subD : D → D → Option D := intD (fun _ _ => true) fun i j => i - j
def smallI (i : Int) : Bool := Nat.blt i.natAbs 18446744073709551616
abbrev mulD : D → D → Option D := intD (fun i j => smallI i || smallI j) fun i j => i * j
abbrev modD : D → D → Option D := intD (fun _ j => decide (0 < j)) fun i j => i % j
abbrev divD : D → D → Option D := intD (fun _ j => decide (0 < j) && decide (j < 1073741824)) fun i j => i / j
abbrev shrD : D → D → Option D := intD (fun _ j => decide (0 ≤ j)) fun i j => i / 2 ^ j.toNat
section
variable [Wd] {X : Cx} {pins : List (Addr × Obj)} {σ : L2.St} {H : Hp} {s : Shared}
theorem Inv.lstR {p : Addr} {xs : List V} (I : Inv X pins σ H s) (h : Rd H p (.lst xs)) : xs.length ≤ sizeLine ∧ ∃ (its : List Value) (n : Nat), Vals xs its ∧ xs.length = its.length ∧ s.heap.get? p = some { cls := .type "list", data := .seq its.toArray n } := by
  obtain ⟨z, its, n, r, e⟩ := h.ok I.hok
  exact ⟨z, its, n, r, r.length, e⟩
/-- xs + ys -/
def rCatR : R2 := fun x y H Q => ∃ l b xs zs, x = .ref l ∧ y = .ref b ∧ Rd H l (.lst xs) ∧ Rd H b (.lst zs) ∧ xs.length + zs.length ≤ sizeLine ∧ ∀ p, H p = none → Q (.ref p) (upd H p (.lst (xs ++ zs)))
theorem op_catR : OpR X (binaryOp .Add) rCatR := by
  intro pins s σ H x y v u Q I rx ry h
  obtain ⟨l, b, xs, zs, rfl, rfl, hH, hB, hz, q⟩ := h
  cases rx
  cases ry
  obtain ⟨z, its, n, r, hl, e⟩ := Inv.lstR I hH
  obtain ⟨z2, its2, n2, r2, hl2, e2⟩ := Inv.lstR I hB
  refine PySem.P.add_list e e2 ?_ (by rw [List.size_toArray, List.size_toArray]; omega)
  have ea : its.toArray ++ its2.toArray = (its ++ its2).toArray := by simp
  rw [ea]
  exact ⟨.ref _, _, I.lnew (t' := s.toks) (r.append r2) (by rw [List.length_append]; omega), rfl, q _ I.fresh⟩
end
section
variable [Wd] {X : Cx}
theorem o_cat : OpR X (binaryOp .Add) (rO catD) := by
  intro pins s σ H x y v u Q I rx ry h
  obtain ⟨F, a, b, ds, le, ia, ib, e, q⟩ := h
  unfold catD at e
  split at e
  · rename_i xs ys
    split at e
    · rename_i hz
      cases e
      obtain ⟨p, vs, rfl, hp, z, t⟩ := ia.list le
      obtain ⟨p', vs', rfl, hp', z', t'⟩ := ib.list le
      have hl : vs.length + vs'.length ≤ sizeLine := by rw [t.length, t'.length]; exact hz
      exact op_catR pins s σ H _ _ v u Q I rx ry ⟨p, p', vs, vs', rfl, rfl, hp, hp', hl, fun l hn => q l _ F _ (.fresh le hn) (none_of_le le hn) hn upd_same (by rw [List.length_append]; exact hl) (t.append t')⟩
    · cases e
  · cases e
theorem Is.newT {F H : Hp} {p : Addr} {vs : List V} {ds : List D} (le : Same F H) (hn : H p = none) (z : vs.length ≤ sizeLine) (t : IsA F vs ds) : Is (upd F p (.tup vs)) (.ref p) (.tuple ds) :=
  .tup (.inl upd_same) z (t.mono (same_upd (none_of_le le hn)))
theorem Is.newL {F H : Hp} {p : Addr} {vs : List V} {ds : List D} (le : Same F H) (hn : H p = none) (z : vs.length ≤ sizeLine) (t : IsA F vs ds) : Is (upd F p (.lst vs)) (.ref p) (.list ds) :=
  .lst (.inl upd_same) z (t.mono (same_upd (none_of_le le hn)))
/-- a list nobody holds, frozen -/
theorem frozen {F H F' H' : Hp} {p : Addr} {vs : List V} {ds : List D} {Q : VK} (q : ∀ v F' H', Ext F H F' H' → Is F' v (.list ds) → Q v H') (x : Ext F H F' H') (hf : F' p = none) (hn : H p = none) (hp : H' p = some (.lst vs)) (z : vs.length ≤ sizeLine) (t : IsA F' vs ds) : Q (.ref p) H' :=
  q _ _ _ (x.freeze hf hn hp) (.lst (.inl upd_same) z (t.mono (same_upd hf)))
theorem IsH.tupIs {F H : Hp} {v : V} {ds : List D} (h : IsH F H v (.tuple ds)) : Is F v (.tuple ds) := by
  cases h with | of h => exact h
theorem o_add : OpR X (binaryOp .Add) (rD addD) := by
  intro pins s σ H x y v u Q I rx ry h
  obtain ⟨F, a, b, d, le, ia, ib, e, q⟩ := h
  unfold addD at e
  split at e
  · cases e
    have e1 := ia.int
    have e2 := ib.int
    subst e1 e2
    exact op_add pins s σ H _ _ v u Q I rx ry ⟨_, _, rfl, rfl, q _ F H (.refl le) (.int _)⟩
  · split at e
    · rename_i hz
      cases e
      have e1 := ia.str
      have e2 := ib.str
      subst e1 e2
      exact op_add_str pins s σ H _ _ v u Q I rx ry ⟨_, _, rfl, rfl, hz, q _ F H (.refl le) (.str _)⟩
    · cases e
  · split at e
    · rename_i hz
      cases e
      refine o_cat pins s σ H _ _ v u Q I rx ry ⟨F, _, _, _, le, ia, ib, if_pos hz, fun p vs F' H' x hf hn hp z t => frozen q x hf hn hp z t⟩
    · cases e
  · rename_i xs ys
    split at e
    · rename_i hz
      cases e
      obtain ⟨p, vs, rfl, hp, z, t⟩ := ia.tup le
      obtain ⟨p', vs', rfl, hp', z', t'⟩ := ib.tup le
      have hl : vs.length + vs'.length ≤ sizeLine := by rw [t.length, t'.length]; exact hz
      refine op_catA pins s σ H _ _ v u Q I rx ry ⟨p, p', vs, vs', rfl, rfl, .inl hp, .inl hp', hl, fun z0 => ?_, fun z0 z1 => ?_, fun _ _ l hn => ?_⟩
      · have : xs = [] := by
          subst z0
          cases t
          rfl
        subst this
        exact q _ F H (.refl le) ib.tupIs
      · have : ys = [] := by
          subst z1
          cases t'
          rfl
        subst this
        rw [List.append_nil] at q
        exact q _ F H (.refl le) ia.tupIs
      · exact q _ _ _ (.laid le hn) (.newT le hn (by rw [List.length_append]; exact hl) (t.append t'))
    · cases e
  · cases e
theorem o_intI {f : Value → Value → Sem Value} {c : Int → Int → Bool} {g : Int → Int → Int} {C : Int → Int → Prop} (hc : ∀ i j, c i j = true → C i j) (ho : OpR X f (rI C fun i j => .int (g i j))) : OpR X f (rD (intD c g)) := by
  intro pins s σ H x y v u Q I rx ry h
  obtain ⟨F, a, b, d, le, ia, ib, e, q⟩ := h
  unfold intD at e
  split at e
  · split at e
    · rename_i hh
      cases e
      have e1 := ia.int
      have e2 := ib.int
      subst e1 e2
      exact ho pins s σ H _ _ v u Q I rx ry ⟨_, _, rfl, rfl, hc _ _ hh, q _ F H (.refl le) (.int _)⟩
    · cases e
  · cases e
theorem o_intI0 {f : Value → Value → Sem Value} {g : Int → Int → Int} (ho : OpR X f (rI0 fun i j => .int (g i j))) : OpR X f (rD (intD (fun _ _ => true) g)) :=
  o_intI (C := fun _ _ => True) (fun _ _ _ => trivial) fun pins s σ H x y v u Q I rx ry h => ho pins s σ H x y v u Q I rx ry (let ⟨i, j, e1, e2, _, q⟩ := h; ⟨i, j, e1, e2, q⟩)
theorem o_sub : OpR X (binaryOp .Sub) (rD subD) := o_intI0 op_sub
theorem smallI_ok {i : Int} (h : smallI i = true) : -(2 ^ 64) < i ∧ i < 2 ^ 64 := by
  unfold smallI at h
  rw [Nat.blt_eq] at h
  omega
theorem o_mul : OpR X (binaryOp .Mult) (rD mulD) := o_intI (fun i j h => by
  rcases (Bool.or_eq_true _ _).mp h with h | h
  · exact .inl (smallI_ok h)
  · exact .inr (smallI_ok h)) op_mul
theorem o_mod : OpR X (binaryOp .Mod) (rD modD) := o_intI (fun i j h => of_decide_eq_true h) op_mod
theorem o_div : OpR X (binaryOp .FloorDiv) (rD divD) := o_intI (fun i j h => by
  rw [Bool.and_eq_true] at h
  exact ⟨of_decide_eq_true h.1, of_decide_eq_true h.2⟩) op_fdiv
theorem o_shr : OpR X (binaryOp .RShift) (rD shrD) := o_intI (fun i j h => of_decide_eq_true h) op_shr
theorem o_iadd : OpR X (inplaceOp .Add) (rD (intD (fun _ _ => true) fun i j => i + j)) := o_intI0 iop_add
end

/-! ### comparisons -/
def cmpI (p : Int → Int → Bool) : D → D → Option D
  | .int i, .int j => some (.bool (p i j))
  | _, _ => none
abbrev ltD : D → D → Option D := cmpI fun i j => decide (i < j)
abbrev leD : D → D → Option D := cmpI fun i j => decide (i ≤ j)
abbrev gtD : D → D → Option D := cmpI fun i j => decide (j < i)
abbrev geD : D → D → Option D := cmpI fun i j => decide (j ≤ i)
def eqD : D → D → Option D := fun a b => if SeqAt.shaped a = true ∧ SeqAt.shaped b = true then some (.bool (PyData.eqv a b)) else none
def neD : D → D → Option D := fun a b => if SeqAt.shaped a = true ∧ SeqAt.shaped b = true then some (.bool (!PyData.eqv a b)) else none
def isNoneD : D → D → Option D
  | d, .none => some (.bool (match d with | .none => true | _ => false))
  | _, _ => none
def isNotNoneD : D → D → Option D
  | d, .none => some (.bool (match d with | .none => false | _ => true))
  | _, _ => none
section
variable [Wd] {X : Cx}
theorem o_cmpI {f : Value → Value → Sem Value} {p : Int → Int → Bool} (ho : ∀ (i j : Int) (t u : Tok) (Q : Value → Shared → Prop) (s : Shared), Q (.bool (p i j)) s → wpAny (model X.prog X.w) X.A (f (.int i t) (.int j u)) Q X.xe s) : OpR X f (rD (cmpI p)) := by
  intro pins s σ H x y v u Q I rx ry h
  obtain ⟨F, a, b, d, le, ia, ib, e, q⟩ := h
  unfold cmpI at e
  split at e
  · cases e
    have e1 := ia.int
    have e2 := ib.int
    subst e1 e2
    obtain ⟨t, rfl⟩ := rx
    obtain ⟨t', rfl⟩ := ry
    exact ho _ _ t t' _ s ⟨.bl _, H, I, rfl, q _ F H (.refl le) (.bl _)⟩
  · cases e
theorem o_lt : OpR X (compareOp .Lt) (rD ltD) := o_cmpI fun _ _ _ _ _ _ h => lt_int h
theorem o_le : OpR X (compareOp .LtE) (rD leD) := o_cmpI fun _ _ _ _ _ _ h => le_int h
theorem o_gt : OpR X (compareOp .Gt) (rD gtD) := o_cmpI fun _ _ _ _ _ _ h => gt_int h
theorem o_ge : OpR X (compareOp .GtE) (rD geD) := o_cmpI fun _ _ _ _ _ _ h => ge_int h
theorem o_eq (hu : X.A.units + 64 < cLine) : OpR X (compareOp .Eq) (rD eqD) := by
  intro pins s σ H x y v u Q I rx ry h
  obtain ⟨F, a, b, d, le, ia, ib, e, q⟩ := h
  unfold eqD at e
  split at e
  · rename_i hs
    cases e
    exact op_eqD hu pins s σ H x y v u Q I rx ry ⟨a, b, ia.dp le (noDct_shaped hs.1), ib.dp le (noDct_shaped hs.2), hs.1, hs.2, q _ F H (.refl le) (.bl _)⟩
  · cases e
theorem o_ne (hu : X.A.units + 64 < cLine) : OpR X (compareOp .NotEq) (rD neD) := by
  intro pins s σ H x y v u Q I rx ry h
  obtain ⟨F, a, b, d, le, ia, ib, e, q⟩ := h
  unfold neD at e
  split at e
  · rename_i hs
    cases e
    exact op_neD hu pins s σ H x y v u Q I rx ry ⟨a, b, ia.dp le (noDct_shaped hs.1), ib.dp le (noDct_shaped hs.2), hs.1, hs.2, q _ F H (.refl le) (.bl _)⟩
  · cases e
end

/-! ### subscripts -/
def ixD : D → D → Option D
  | .list xs, .int i => atI xs i
  | .tuple xs, .int i => atI xs i
  | _, _ => none
theorem IsA.atI [Wd] {F : Hp} {vs : List V} {ds : List D} {i : Int} {d : D} (t : IsA F vs ds) (h : atI ds i = some d) : ∃ v, L2.atI vs i = some v ∧ Is F v d := by
  unfold L2.atI at h ⊢
  rw [t.length]
  cases hj : ixN ds.length i with
  | none => rw [hj] at h; cases h
  | some j =>
    rw [hj] at h
    exact t.get (i := j) h
section
variable [Wd] {X : Cx}
theorem o_ix : IxR X (rD ixD) := by
  intro value slice pins s σ H x y v u Q I rx ry h hs
  obtain ⟨F, a, b, d, le, ia, ib, e, q⟩ := h
  unfold ixD at e
  split at e
  · obtain ⟨p, vs, rfl, hp, z, t⟩ := ia.list le
    have e2 := ib.int
    subst e2
    obtain ⟨w, hw, iw⟩ := IsA.atI t e
    exact ix_list value slice pins s σ H _ _ v u Q I rx ry ⟨p, vs, _, w, rfl, rfl, .inl hp, hw, q w F H (.refl le) iw⟩ hs
  · obtain ⟨p, vs, rfl, hp, z, t⟩ := ia.tup le
    have e2 := ib.int
    subst e2
    obtain ⟨w, hw, iw⟩ := IsA.atI t e
    exact ix_tup value slice pins s σ H _ _ v u Q I rx ry ⟨p, vs, _, w, rfl, rfl, .inl hp, hw, q w F H (.refl le) iw⟩ hs
  · cases e
end
end DL

/-! The data layer, part 4: truth, and, or, not, displays, built-in calls, slices. -/
namespace DL
open PySem PySem.Spec PyProof.Rows L2

/-! ### truth -/
def truD : D → Option Bool
  | .none => some false
  | .bool b => some b
  | .int i => some (i != 0)
  | .str x => if x.length ≤ sizeLine then some ((x.length : Int) != 0) else none
  | .list xs => some (!xs.isEmpty)
  | .tuple xs => some (!xs.isEmpty)
  | .dict _ => none
theorem isEmpty_A [Wd] {F : Hp} : ∀ {vs : List V} {ds : List D}, IsA F vs ds → vs.isEmpty = ds.isEmpty
  | _, _, .nil => rfl
  | _, _, .cons _ _ => rfl
theorem IsH.tru [Wd] {K : PySem.W.Frag} {F H : Hp} {v : V} {d : D} {b : Bool} (le : Same F H) (h : IsH F H v d) (e : truD d = some b) : TruV K v H b := by
  cases d with
  | none => cases h.non; cases e; exact rfl
  | bool c => cases h.bl; cases e; exact rfl
  | int i => cases h.int; cases e; exact rfl
  | str x =>
    cases h.str
    have e' : (if x.length ≤ sizeLine then some ((x.length : Int) != 0) else none) = some b := e
    split at e'
    · rename_i hz; cases e'; exact ⟨hz, rfl⟩
    · cases e'
  | list xs =>
    obtain ⟨p, vs, rfl, hp, z, t⟩ := h.list le
    cases e
    exact .inl ⟨vs, .inl hp, by rw [isEmpty_A t]⟩
  | tuple xs =>
    obtain ⟨p, vs, rfl, hp, z, t⟩ := h.tup le
    cases e
    exact .inr (.inl ⟨vs, .inl hp, by rw [isEmpty_A t]⟩)
  | dict _ => cases e
def toTru (f : Rho → Res D) : Rho → Res Bool := fun ρ => (f ρ).bind fun d => .of (truD d)
def boolD : D → Option Bool
  | .bool b => some b
  | _ => none
def toB (f : Rho → Res D) : Rho → Res Bool := fun ρ => (f ρ).bind fun d => .of (boolD d)
def ofB (f : Rho → Res Bool) : Rho → Res D := fun ρ => (f ρ).map PyData.bool
def andT (f g : Rho → Res Bool) : Rho → Res Bool := fun ρ => (f ρ).bind fun b => if b = true then g ρ else .ok false
def orT (f g : Rho → Res Bool) : Rho → Res Bool := fun ρ => (f ρ).bind fun b => if b = true then .ok true else g ρ
def notT (f : Rho → Res Bool) : Rho → Res Bool := fun ρ => (f ρ).map not
section
variable [Wd] {X : Cx} {A : Amb} {W : WX} {a b c : Expr} {f g : Rho → Res D} {p q : Rho → Res Bool} {pos : Pos} {rest : List Expr}
/-- an expression as a test, by its value's truth -/
theorem t_val (h : BE X A W a f) (he : ∀ whole, isTrue a X.env whole = (do let v ← whole; standAt a.pos; holding [v] (truthy v)) := by intro _; rfl) : DT X A W a (toTru f) :=
  ptI (pt_truth h he) fun σ H Q ⟨F, ρ, S, q⟩ => ⟨F, ρ, S, by
    unfold toTru at q
    cases hf : f ρ with
    | bad => rw [hf] at q; exact q
    | ex c => rw [hf] at q; exact q
    | ok d =>
      rw [hf] at q
      simp only [Res.bind_ok] at q
      cases ht : truD d with
      | none => rw [ht] at q; exact q.elim
      | some b => rw [ht] at q; exact fun v F' H' x i => ⟨b, i.tru x.le ht, q F' H' x⟩⟩
theorem test_D {σ : L2.St} {H : Hp} {Q : Bool → Hp → Prop} (h : tT A W (toB f) σ H Q) : tTest (tD A W f) σ H Q := by
  obtain ⟨F, ρ, S, q⟩ := h
  refine ⟨F, ρ, S, ?_⟩
  unfold toB at q
  cases hf : f ρ with
  | bad => rw [hf] at q; exact q
  | ex c => rw [hf] at q; exact q
  | ok d =>
    rw [hf] at q
    simp only [Res.bind_ok] at q
    cases hb : boolD d with
    | none => rw [hb] at q; exact q.elim
    | some b =>
      rw [hb] at q
      intro v F' H' x i
      cases d with
      | bool c => cases hb; cases i; exact ⟨_, rfl, q F' H' x⟩
      | _ => cases hb
theorem tTest_mono {t t' : TE} {σ : L2.St} {H : Hp} {Q : Bool → Hp → Prop} (i : ∀ Q, t' σ H Q → t σ H Q) (h : tTest t' σ H Q) : tTest t σ H Q := i _ h
theorem t_cmp {op : CmpOp} {k : D → D → Option D} (ho : OpR X (compareOp op) (rD k)) (ha : BE X A W a f) (hb : BE X A W b g) (hm : behindInMarks op b = false) : DT X A W (.Compare a [op] [b] pos) (toB (op2 k f g)) :=
  ptI (pt_cmpR ho ha hb hm) fun σ H Q h => tTest_mono (fun Q h => op2_D h) (test_D h)
theorem t_and (ha : DT X A W a p) (hb : PW X (.BoolOp .And (b :: rest) pos) (tT A W q)) : PW X (.BoolOp .And (a :: b :: rest) pos) (tT A W (andT p q)) := pwI (pw_and ha hb) fun σ H Q ⟨F, ρ, S, h⟩ => ⟨F, ρ, S, by
  unfold andT at h
  cases hp : p ρ with
  | bad => rw [hp] at h; exact h
  | ex c => rw [hp] at h; exact h
  | ok b =>
    rw [hp] at h
    intro F' H' x
    cases b with
    | false => rw [if_neg Bool.false_ne_true]; exact h F' H' x
    | true =>
      rw [if_pos rfl]
      refine ⟨F', ρ, S.grow x, ?_⟩
      simp only [Res.bind_ok, if_true] at h
      cases hq : q ρ with
      | bad => rw [hq] at h; exact h
      | ex c => rw [hq] at h; exact h.ext x
      | ok b => rw [hq] at h; exact fun F2 H2 x2 => h F2 H2 (x.trans x2)⟩
theorem t_or (ha : DT X A W a p) (hb : PW X (.BoolOp .Or (b :: rest) pos) (tT A W q)) : PW X (.BoolOp .Or (a :: b :: rest) pos) (tT A W (orT p q)) := pwI (pw_or ha hb) fun σ H Q ⟨F, ρ, S, h⟩ => ⟨F, ρ, S, by
  unfold orT at h
  cases hp : p ρ with
  | bad => rw [hp] at h; exact h
  | ex c => rw [hp] at h; exact h
  | ok b =>
    rw [hp] at h
    intro F' H' x
    cases b with
    | true => rw [if_pos rfl]; exact h F' H' x
    | false =>
      rw [if_neg Bool.false_ne_true]
      refine ⟨F', ρ, S.grow x, ?_⟩
      simp only [Res.bind_ok, Bool.false_eq_true, if_false] at h
      cases hq : q ρ with
      | bad => rw [hq] at h; exact h
      | ex c => rw [hq] at h; exact h.ext x
      | ok b => rw [hq] at h; exact fun F2 H2 x2 => h F2 H2 (x.trans x2)⟩
theorem t_and1 (ha : DT X A W a p) : PW X (.BoolOp .And [a] pos) (tT A W p) := pw_and1 ha
theorem t_or1 (ha : DT X A W a p) : PW X (.BoolOp .Or [a] pos) (tT A W p) := pw_or1 ha
theorem t_not (ha : DT X A W a p) : DT X A W (.UnaryOp .Not a pos) (notT p) := ptI (pt_not ha) fun σ H Q ⟨F, ρ, S, h⟩ => ⟨F, ρ, S, by
  unfold notT at h
  cases hp : p ρ with
  | bad => rw [hp] at h; exact h
  | ex c => rw [hp] at h; exact h
  | ok b => rw [hp] at h; exact h⟩
/-- not e, as a value -/
theorem d_not (ha : BE X A W a f) : DE X A W (.UnaryOp .Not a pos) (ofB (notT (toTru f))) := peI (pe_notT ha) fun σ H Q ⟨F, ρ, S, h⟩ => ⟨F, ρ, S, by
  unfold ofB notT toTru at h
  cases hf : f ρ with
  | bad => rw [hf] at h; exact h
  | ex c => rw [hf] at h; exact h
  | ok d =>
    rw [hf] at h
    simp only [Res.bind_ok] at h
    cases ht : truD d with
    | none => rw [ht] at h; exact h.elim
    | some b => rw [ht] at h; exact fun v F' H' x i => ⟨b, i.tru x.le ht, h _ F' H' x (.bl _)⟩⟩
/-- a and b, a or b as values, both bools -/
def andV (f g : Rho → Res D) : Rho → Res D := fun ρ => (toB f ρ).bind fun b => if b = true then g ρ else .ok (.bool false)
def orV (f g : Rho → Res D) : Rho → Res D := fun ρ => (toB f ρ).bind fun b => if b = true then .ok (.bool true) else g ρ
theorem d_and (ha : DE X A W a f) (hb : DE X A W (.BoolOp .And (b :: rest) pos) g) : DE X A W (.BoolOp .And (a :: b :: rest) pos) (andV f g) := peI (pe_and ha hb) fun σ H Q ⟨F, ρ, S, h⟩ => ⟨F, ρ, S, by
  unfold andV toB at h
  cases hf : f ρ with
  | bad => rw [hf] at h; exact h
  | ex c => rw [hf] at h; exact h
  | ok d =>
    rw [hf] at h
    simp only [Res.bind_ok] at h
    intro v F' H' x i
    cases d with
    | bool c =>
      cases i
      refine ⟨c, rfl, ?_⟩
      cases c with
      | false => rw [if_neg Bool.false_ne_true]; exact h _ F' H' x (.bl _)
      | true =>
        rw [if_pos rfl]
        refine ⟨F', ρ, S.grow x, ?_⟩
        simp only [boolD, Res.of_some, Res.bind_ok, if_true] at h
        cases hg : g ρ with
        | bad => rw [hg] at h; exact h
        | ex c => rw [hg] at h; exact h.ext x
        | ok d => rw [hg] at h; exact fun v F2 H2 x2 i => h v F2 H2 (x.trans x2) i
    | _ => exact h.elim⟩
theorem d_or (ha : DE X A W a f) (hb : DE X A W (.BoolOp .Or (b :: rest) pos) g) : DE X A W (.BoolOp .Or (a :: b :: rest) pos) (orV f g) := peI (pe_or ha hb) fun σ H Q ⟨F, ρ, S, h⟩ => ⟨F, ρ, S, by
  unfold orV toB at h
  cases hf : f ρ with
  | bad => rw [hf] at h; exact h
  | ex c => rw [hf] at h; exact h
  | ok d =>
    rw [hf] at h
    simp only [Res.bind_ok] at h
    intro v F' H' x i
    cases d with
    | bool c =>
      cases i
      refine ⟨c, rfl, ?_⟩
      cases c with
      | true => rw [if_pos rfl]; exact h _ F' H' x (.bl _)
      | false =>
        rw [if_neg Bool.false_ne_true]
        refine ⟨F', ρ, S.grow x, ?_⟩
        simp only [boolD, Res.of_some, Res.bind_ok, Bool.false_eq_true, if_false] at h
        cases hg : g ρ with
        | bad => rw [hg] at h; exact h
        | ex c => rw [hg] at h; exact h.ext x
        | ok d => rw [hg] at h; exact fun v F2 H2 x2 i => h v F2 H2 (x.trans x2) i
    | _ => exact h.elim⟩
theorem d_one {op} (h : DE X A W a f) : DE X A W (.BoolOp op [a] pos) f := pe_one h
/-- a op b op' c -/
def chV (k k' : D → D → Option D) (f g e : Rho → Res D) : Rho → Res D := fun ρ => (f ρ).bind fun a => (g ρ).bind fun b => (Res.of ((k a b).bind boolD)).bind fun t => if t = true then (e ρ).bind fun c => .of (k' b c) else .ok (.bool false)
theorem ch_ok {k k' : D → D → Option D} {e : Rho → Res D} {σ : L2.St} {H : Hp} {Q : VK} (h : tD A W (chV k k' f g e) σ H Q) : tChain (rD k) (rD k') (tB A W f) (tB A W g) (tB A W e) σ H Q := by
  obtain ⟨F, ρ, S, h⟩ := h
  refine ⟨F, ρ, S, ?_⟩
  unfold chV at h
  cases hf : f ρ with
  | bad => rw [hf] at h; exact h
  | ex c => rw [hf] at h; exact h
  | ok da =>
    rw [hf] at h
    intro x F1 H1 x1 i1
    refine ⟨F1, ρ, S.grow x1, ?_⟩
    cases hg : g ρ with
    | bad => simp only [hg, Res.bind_ok, Res.bind_bad] at h
    | ex c => simp only [hg, Res.bind_ok, Res.bind_ex] at h; exact h.ext x1
    | ok db =>
      simp only [hg, Res.bind_ok] at h
      intro y F2 H2 x2 i2
      cases hk : k da db with
      | none => rw [hk] at h; exact h.elim
      | some t =>
        rw [hk] at h
        refine ⟨F2, da, db, t, x2.le, i1.ext x2, i2, hk, fun v F3 H3 x3 i3 => ?_⟩
        cases t with
        | bool b =>
          cases i3
          refine ⟨b, rfl, ?_⟩
          simp only [Option.bind_some, boolD, Res.of_some, Res.bind_ok] at h
          cases b with
          | false =>
            rw [if_neg Bool.false_ne_true]
            exact h _ F3 H3 ((x1.trans x2).trans x3) (.bl _)
          | true =>
            rw [if_pos rfl]
            simp only [if_true] at h
            refine ⟨F3, ρ, ((S.grow x1).grow x2).grow x3, ?_⟩
            cases he : e ρ with
            | bad => rw [he] at h; exact h
            | ex c => rw [he] at h; exact h.ext ((x1.trans x2).trans x3)
            | ok dc =>
              rw [he] at h
              intro z F4 H4 x4 i4
              simp only [Res.bind_ok] at h
              cases hk' : k' db dc with
              | none => rw [hk'] at h; exact h.elim
              | some t' =>
                rw [hk'] at h
                exact ⟨F4, db, dc, t', x4.le, (i2.ext x3).ext x4, i4, hk', fun w F5 H5 x5 i5 => h w F5 H5 ((((x1.trans x2).trans x3).trans x4).trans x5) i5⟩
        | _ => exact h.elim
theorem d_chain {op op' : CmpOp} {k k' : D → D → Option D} {e : Rho → Res D} (ho : OpR X (compareOp op) (rD k)) (ho' : OpR X (compareOp op') (rD k')) (ha : BE X A W a f) (hb : BE X A W b g) (hc : BE X A W c e)
    (hm : lastMarks [op, op'] [b, c] = false := by with_unfolding_all rfl) : DE X A W (.Compare a [op, op'] [b, c] pos) (chV k k' f g e) := peI (pe_chain ho ho' ha hb hc hm) fun σ H Q h => ch_ok h
theorem t_chain {op op' : CmpOp} {k k' : D → D → Option D} {e : Rho → Res D} (ho : OpR X (compareOp op) (rD k)) (ho' : OpR X (compareOp op') (rD k')) (ha : BE X A W a f) (hb : BE X A W b g) (hc : BE X A W c e)
    (hm : lastMarks [op, op'] [b, c] = false := by with_unfolding_all rfl) : DT X A W (.Compare a [op, op'] [b, c] pos) (toB (chV k k' f g e)) := ptI (pt_chain ho ho' ha hb hc hm) fun σ H Q h => tTest_mono (fun Q h => ch_ok h) (test_D h)
end

/-! ### arguments, displays -/
def asNil : Rho → Res (List D) := fun _ => .ok []
def asCons (f : Rho → Res D) (g : Rho → Res (List D)) : Rho → Res (List D) := fun ρ => (f ρ).bind fun d => (g ρ).map (d :: ·)
section
variable [Wd] {X : Cx} {A : Amb} {W : WX} {e : Expr} {es : List Expr} {f : Rho → Res D} {g : Rho → Res (List D)} {pos : Pos}
theorem as_nil : DAs X A W [] asNil := paI pa_nil fun σ H Q ⟨F, ρ, S, q⟩ => q [] F H (.refl S.le) .nil
theorem as_cons (h : DE X A W e f) (t : DAs X A W es g) (hs : starEach (e :: es) X.env = (false, eval e X.env) :: starEach es X.env := by rfl) : DAs X A W (e :: es) (asCons f g) := paI (pa_cons h t hs) fun σ H Q ⟨F, ρ, S, q⟩ => ⟨F, ρ, S, by
  unfold asCons at q
  cases hf : f ρ with
  | bad => rw [hf] at q; exact q
  | ex c => rw [hf] at q; exact q
  | ok d =>
    rw [hf] at q
    intro v F1 H1 x1 i1
    refine ⟨F1, ρ, S.grow x1, ?_⟩
    cases hg : g ρ with
    | bad => simp only [hg, Res.bind_ok, Res.map_bad] at q
    | ex c => simp only [hg, Res.bind_ok, Res.map_ex] at q; exact q.ext x1
    | ok ds =>
      simp only [hg, Res.bind_ok, Res.map_ok] at q
      exact fun vs F2 H2 x2 i2 => q (v :: vs) F2 H2 (x1.trans x2) (.cons (i1.mono x2.up) i2)⟩
theorem IsHA.ext {F H F' H' : Hp} (x : Ext F H F' H') : ∀ {vs : List V} {ds : List D}, IsHA F H vs ds → IsHA F' H' vs ds
  | _, _, .nil => .nil
  | _, _, .cons h t => .cons (h.ext x) (IsHA.ext x t)
theorem bs_nil : BAs X A W [] asNil := paI pa_nil fun σ H Q ⟨F, ρ, S, q⟩ => q [] F H (.refl S.le) .nil
theorem bs_cons (h : BE X A W e f) (t : BAs X A W es g) (hs : starEach (e :: es) X.env = (false, eval e X.env) :: starEach es X.env := by rfl) : BAs X A W (e :: es) (asCons f g) := paI (pa_cons h t hs) fun σ H Q ⟨F, ρ, S, q⟩ => ⟨F, ρ, S, by
  unfold asCons at q
  cases hf : f ρ with
  | bad => rw [hf] at q; exact q
  | ex c => rw [hf] at q; exact q
  | ok d =>
    rw [hf] at q
    intro v F1 H1 x1 i1
    refine ⟨F1, ρ, S.grow x1, ?_⟩
    cases hg : g ρ with
    | bad => simp only [hg, Res.bind_ok, Res.map_bad] at q
    | ex c => simp only [hg, Res.bind_ok, Res.map_ex] at q; exact q.ext x1
    | ok ds =>
      simp only [hg, Res.bind_ok, Res.map_ok] at q
      exact fun vs F2 H2 x2 i2 => q (v :: vs) F2 H2 (x1.trans x2) (.cons (i1.ext x2) i2)⟩
def small (ds : List D) : Bool := decide (ds.length ≤ 1000)
def disp (g : Rho → Res (List D)) : Rho → Res (List D) := fun ρ => (g ρ).bind fun ds => if ds.length ≤ 1000 then .ok ds else .bad
theorem line1000 {n : Nat} (h : n ≤ 1000) : n ≤ sizeLine := Nat.le_trans h (by rw [sizeLine_eq]; decide)
def dispT (g : Rho → Res (List D)) : Rho → Res D := fun ρ => (disp g ρ).map PyData.tuple
theorem d_tup {k} (h : DAs X A W es g) : DE X A W (.Tuple es k pos) (dispT g) := peI (pe_tup h) fun σ H Q ⟨F, ρ, S, q⟩ => ⟨F, ρ, S, by
  unfold dispT disp at q
  cases hg : g ρ with
  | bad => rw [hg] at q; exact q
  | ex c => rw [hg] at q; exact q
  | ok ds =>
    rw [hg] at q
    simp only [Res.bind_ok] at q
    by_cases hz : ds.length ≤ 1000
    · rw [if_pos hz] at q
      intro vs F1 H1 x1 i1
      have z : vs.length ≤ sizeLine := line1000 (by rw [i1.length]; exact hz)
      exact ⟨z, fun p hp => q _ _ _ (x1.trans (.laid x1.le hp)) (.newT x1.le hp z i1)⟩
    · rw [if_neg hz] at q; exact q.elim⟩
theorem o_lst (h : DAs X A W es g) : OE X A W (.List es pos) (disp g) := peI (pe_lst h) fun σ H Q ⟨F, ρ, S, q⟩ => ⟨F, ρ, S, by
  unfold disp at q
  cases hg : g ρ with
  | bad => rw [hg] at q; exact q
  | ex c => rw [hg] at q; exact q
  | ok ds =>
    rw [hg] at q
    simp only [Res.bind_ok] at q
    by_cases hz : ds.length ≤ 1000
    · rw [if_pos hz] at q
      intro vs F1 H1 x1 i1
      have z : vs.length ≤ sizeLine := line1000 (by rw [i1.length]; exact hz)
      exact ⟨z, fun p hp => q p vs F1 _ (x1.trans (.fresh x1.le hp)) (none_of_le x1.le hp) (Same.free x1.keep hp) upd_same z i1⟩
    · rw [if_neg hz] at q; exact q.elim⟩
end

/-! ### built-ins by name -/
def cb {α : Type} (k : List D → Option α) (g : Rho → Res (List D)) : Rho → Res α := fun ρ => (g ρ).bind fun ds => .of (k ds)
section
variable [Wd] {X : Cx} {A : Amb} {W : WX} {e : Expr} {es : List Expr} {g : Rho → Res (List D)} {x : Str} {p pos : Pos} {T id : String}
theorem cb_D {k : List D → Option D} {σ : L2.St} {H : Hp} {Q : VK} (h : tD A W (cb k g) σ H Q) : tCB (cD k) (tBs A W g) σ H Q := by
  obtain ⟨F, ρ, S, q⟩ := h
  refine ⟨F, ρ, S, ?_⟩
  unfold cb at q
  cases hg : g ρ with
  | bad => rw [hg] at q; exact q
  | ex c => rw [hg] at q; exact q
  | ok ds =>
    rw [hg] at q
    simp only [Res.bind_ok] at q
    cases hk : k ds with
    | none => rw [hk] at q; exact q.elim
    | some d => rw [hk] at q; exact fun vs F1 H1 x1 i1 => ⟨F1, ds, d, x1.le, i1, hk, fun v F2 H2 x2 i2 => q v F2 H2 (x1.trans x2) i2⟩
theorem cb_O {k : List D → Option (List D)} {σ : L2.St} {H : Hp} {Q : VK} (h : tO A W (cb k g) σ H Q) : tCB (cO k) (tBs A W g) σ H Q := by
  obtain ⟨F, ρ, S, q⟩ := h
  refine ⟨F, ρ, S, ?_⟩
  unfold cb at q
  cases hg : g ρ with
  | bad => rw [hg] at q; exact q
  | ex c => rw [hg] at q; exact q
  | ok ds =>
    rw [hg] at q
    simp only [Res.bind_ok] at q
    cases hk : k ds with
    | none => rw [hk] at q; exact q.elim
    | some d => rw [hk] at q; exact fun vs F1 H1 x1 i1 => ⟨F1, ds, d, x1.le, i1, hk, fun p vs F2 H2 x2 h1 h2 h3 h4 h5 => q p vs F2 H2 (x1.trans x2) h1 (Same.free x1.keep h2) h3 h4 h5⟩
theorem d_callB {k : List D → Option D} (hc : CallR X (.builtin id) (cD k)) (hg : Gl X x) (hm : X.mg x = none) (hv : bootBuiltins x = some (.builtin id)) (ha : BAs X A W (e :: es) g) (hn : x ≠ "__name__" := by decide) (hdb : (x == ("__debug__" : Str)) = false := by decide)
    (he : starEach (e :: es) X.env = (false, eval e X.env) :: starEach es X.env := by rfl) (hpl : (backTo pos (starEach es X.env)).any (·.1) = false := by rfl) : DE X A W (.Call (.Name x p) (e :: es) [] pos) (cb k g) :=
  peI (pe_callB hc hg hm hv ha hn hdb he hpl) fun σ H Q h => cb_D h
theorem o_callB {k : List D → Option (List D)} (hc : CallR X (.builtin id) (cO k)) (hg : Gl X x) (hm : X.mg x = none) (hv : bootBuiltins x = some (.builtin id)) (ha : BAs X A W (e :: es) g) (hn : x ≠ "__name__" := by decide) (hdb : (x == ("__debug__" : Str)) = false := by decide)
    (he : starEach (e :: es) X.env = (false, eval e X.env) :: starEach es X.env := by rfl) (hpl : (backTo pos (starEach es X.env)).any (·.1) = false := by rfl) : OE X A W (.Call (.Name x p) (e :: es) [] pos) (cb k g) :=
  peI (pe_callB hc hg hm hv ha hn hdb he hpl) fun σ H Q h => cb_O h
theorem d_callTy {k : List D → Option D} (hc : CallR X (.type T) (cD k)) (hg : Gl X x) (hm : X.mg x = none) (hv : bootBuiltins x = some (.type T)) (ha : BAs X A W (e :: es) g) (hn : x ≠ "__name__" := by decide) (hdb : (x == ("__debug__" : Str)) = false := by decide)
    (he : starEach (e :: es) X.env = (false, eval e X.env) :: starEach es X.env := by rfl) (hpl : (backTo pos (starEach es X.env)).any (·.1) = false := by rfl) : DE X A W (.Call (.Name x p) (e :: es) [] pos) (cb k g) :=
  peI (pe_callTy hc hg hm hv ha hn hdb he hpl) fun σ H Q h => cb_D h
theorem o_callTy {k : List D → Option (List D)} (hc : CallR X (.type T) (cO k)) (hg : Gl X x) (hm : X.mg x = none) (hv : bootBuiltins x = some (.type T)) (ha : BAs X A W (e :: es) g) (hn : x ≠ "__name__" := by decide) (hdb : (x == ("__debug__" : Str)) = false := by decide)
    (he : starEach (e :: es) X.env = (false, eval e X.env) :: starEach es X.env := by rfl) (hpl : (backTo pos (starEach es X.env)).any (·.1) = false := by rfl) : OE X A W (.Call (.Name x p) (e :: es) [] pos) (cb k g) :=
  peI (pe_callTy hc hg hm hv ha hn hdb he hpl) fun σ H Q h => cb_O h
theorem IsHA.one {F H : Hp} {vs : List V} {a : D} (h : IsHA F H vs [a]) : ∃ v, vs = [v] ∧ IsH F H v a := by
  cases h with | cons h t => cases t; exact ⟨_, rfl, h⟩
theorem IsHA.two {F H : Hp} {vs : List V} {a b : D} (h : IsHA F H vs [a, b]) : ∃ v w, vs = [v, w] ∧ IsH F H v a ∧ IsH F H w b := by
  cases h with | cons h t => cases t with | cons h' t => cases t; exact ⟨_, _, rfl, h, h'⟩
def lenD : List D → Option D
  | [.list xs] => some (.int xs.length)
  | [.tuple xs] => some (.int xs.length)
  | [.str x] => if x.length ≤ sizeLine then some (.int x.length) else none
  | _ => none
theorem c_len : CallR X (.builtin "len") (cD lenD) := by
  intro pins s σ H xs us Q I r h
  obtain ⟨F, as, d, le, ia, e, q⟩ := h
  unfold lenD at e
  split at e
  · cases e
    obtain ⟨v, rfl, i⟩ := ia.one
    obtain ⟨p, vs, rfl, hp, z, t⟩ := i.list le
    exact call_len_seq pins s σ H _ us Q I r ⟨p, vs, rfl, .inl (.inl hp), by rw [t.length]; exact q _ F H (.refl le) (.int _)⟩
  · cases e
    obtain ⟨v, rfl, i⟩ := ia.one
    obtain ⟨p, vs, rfl, hp, z, t⟩ := i.tup le
    exact call_len_seq pins s σ H _ us Q I r ⟨p, vs, rfl, .inr (.inl hp), by rw [t.length]; exact q _ F H (.refl le) (.int _)⟩
  · split at e
    · rename_i hz
      cases e
      obtain ⟨v, rfl, i⟩ := ia.one
      cases i.str
      exact call_len_str pins s σ H _ us Q I r ⟨_, rfl, hz, q _ F H (.refl le) (.int _)⟩
    · cases e
  · cases e
def minD : List D → Option D
  | [.int i, .int j] => some (.int (if j < i then j else i))
  | _ => none
def maxD : List D → Option D
  | [.int i, .int j] => some (.int (if j > i then j else i))
  | _ => none
theorem c_min2 (hc : X.calm = true) : CallR X (.builtin "min") (cD minD) := by
  intro pins s σ H xs us Q I r h
  obtain ⟨F, as, d, le, ia, e, q⟩ := h
  unfold minD at e
  split at e
  · cases e
    obtain ⟨v, w, rfl, i, j⟩ := ia.two
    cases i.int
    cases j.int
    exact call_min2 hc pins s σ H _ us Q I r ⟨_, _, rfl, q _ F H (.refl le) (.int _)⟩
  · cases e
theorem c_max2 (hc : X.calm = true) : CallR X (.builtin "max") (cD maxD) := by
  intro pins s σ H xs us Q I r h
  obtain ⟨F, as, d, le, ia, e, q⟩ := h
  unfold maxD at e
  split at e
  · cases e
    obtain ⟨v, w, rfl, i, j⟩ := ia.two
    cases i.int
    cases j.int
    exact call_max2 hc pins s σ H _ us Q I r ⟨_, _, rfl, q _ F H (.refl le) (.int _)⟩
  · cases e
def toListD : List D → Option (List D)
  | [.list xs] => some xs
  | [.tuple xs] => some xs
  | _ => none
theorem c_list : CallR X (.type "list") (cO toListD) := by
  intro pins s σ H xs us Q I r h
  obtain ⟨F, as, d, le, ia, e, q⟩ := h
  unfold toListD at e
  split at e
  · cases e
    obtain ⟨v, rfl, i⟩ := ia.one
    obtain ⟨p, vs, rfl, hp, z, t⟩ := i.list le
    exact call_list_of pins s σ H _ us Q I r ⟨p, vs, rfl, .inl (.inl hp), fun l hl => q l vs F _ (.fresh le hl) (none_of_le le hl) hl upd_same z t⟩
  · cases e
    obtain ⟨v, rfl, i⟩ := ia.one
    obtain ⟨p, vs, rfl, hp, z, t⟩ := i.tup le
    exact call_list_of pins s σ H _ us Q I r ⟨p, vs, rfl, .inr (.inl hp), fun l hl => q l vs F _ (.fresh le hl) (none_of_le le hl) hl upd_same z t⟩
  · cases e
def toTupD : List D → Option D
  | [.list xs] => some (.tuple xs)
  | [.tuple xs] => some (.tuple xs)
  | _ => none
theorem c_tuple : CallR X (.type "tuple") (cD toTupD) := by
  intro pins s σ H xs us Q I r h
  obtain ⟨F, as, d, le, ia, e, q⟩ := h
  unfold toTupD at e
  split at e
  · cases e
    obtain ⟨v, rfl, i⟩ := ia.one
    obtain ⟨p, vs, rfl, hp, z, t⟩ := i.list le
    exact call_tuple_of pins s σ H _ us Q I r ⟨p, vs, rfl, .inl ⟨.inl hp, fun l hl => q _ _ _ (.laid le hl) (.newT le hl z t)⟩⟩
  · cases e
    obtain ⟨v, rfl, i⟩ := ia.one
    have it := i.tupIs
    obtain ⟨p, vs, rfl, hp, z, t⟩ := i.tup le
    exact call_tuple_of pins s σ H _ us Q I r ⟨p, vs, rfl, .inr ⟨.inl hp, q _ F H (.refl le) it⟩⟩
  · cases e
end

/-! ### isinstance -/
def tyN : D → String
  | .none => "NoneType"
  | .bool _ => "bool"
  | .int _ => "int"
  | .str _ => "str"
  | .list _ => "list"
  | .tuple _ => "tuple"
  | .dict _ => "dict"
def isiD (T : String) : D → Option Bool
  | .dict _ => none
  | d => if T = "int" then some (tyN d == "int" || tyN d == "bool") else if ["bool", "str", "list", "tuple"].contains T = true then some (tyN d == T) else none
theorem kit_tab : (["NoneType", "bool", "int", "str", "list", "tuple"].all fun a => ["int", "bool", "str", "list", "tuple"].all fun T => decide (kitB a T = some (if T = "int" then a == "int" || a == "bool" else a == T))) = true := by decide +kernel
theorem kit_D {T : String} {d : D} {b : Bool} (h : isiD T d = some b) : kitB (tyN d) T = some b := by
  have hd : tyN d ∈ ["NoneType", "bool", "int", "str", "list", "tuple"] := by
    cases d <;> first | (simp [tyN]; done) | cases h
  have hh : (if T = "int" then some (tyN d == "int" || tyN d == "bool") else if ["bool", "str", "list", "tuple"].contains T = true then some (tyN d == T) else none) = some b := by
    cases d <;> first | exact h | cases h
  have hT : T ∈ ["int", "bool", "str", "list", "tuple"] ∧ (if T = "int" then tyN d == "int" || tyN d == "bool" else tyN d == T) = b := by
    by_cases e : T = "int"
    · rw [if_pos e] at hh ⊢
      exact ⟨by rw [e]; exact List.mem_cons_self, Option.some.inj hh⟩
    · rw [if_neg e] at hh ⊢
      by_cases c : ["bool", "str", "list", "tuple"].contains T = true
      · rw [if_pos c] at hh
        exact ⟨List.mem_cons_of_mem _ (List.contains_iff_mem.mp c), Option.some.inj hh⟩
      · rw [if_neg c] at hh; cases hh
  have q := List.all_eq_true.mp (List.all_eq_true.mp kit_tab _ hd) _ hT.1
  rw [of_decide_eq_true q, hT.2]
theorem IsH.ty [Wd] {K : PySem.W.Frag} {F H : Hp} {v : V} {d : D} (le : Same F H) (h : IsH F H v d) (n : ∀ kvs, d ≠ .dict kvs) : TyX K H v (.type (tyN d)) := by
  cases d with
  | none => cases h.non; exact .base .non
  | bool b => cases h.bl; exact .base (.bl b)
  | int b => cases h.int; exact .base (.int b)
  | str b => cases h.str; exact .base (.str b)
  | list xs =>
    obtain ⟨p, vs, rfl, hp, z, t⟩ := h.list le
    rcases hp with hp | ⟨o, hp⟩
    · exact .base (.lst hp)
    · exact .base (.frz hp)
  | tuple xs =>
    obtain ⟨p, vs, rfl, hp, z, t⟩ := h.tup le
    rcases hp with hp | ⟨o, hp⟩
    · exact .base (.tup hp)
    · exact .fTuple hp
  | dict kvs => exact absurd rfl (n kvs)
def isiR (T : String) (f : Rho → Res D) : Rho → Res D := fun ρ => (f ρ).bind fun d => .of ((isiD T d).map PyData.bool)
section
variable [Wd] {X : Cx} {A : Amb} {W : WX} {e c : Expr} {f : Rho → Res D} {p pos : Pos} {T : String}
theorem d_isi (hm : X.mg "isinstance" = none) (he : BE X A W e f) (hT : PE X c (tC (.ty T))) (hg : Gl X "isinstance" := by rfl)
    (hs : starEach (e :: [c]) X.env = (false, eval e X.env) :: starEach [c] X.env := by rfl) (hs2 : starEach [c] X.env = (false, eval c X.env) :: starEach [] X.env := by rfl) (hpl : (backTo pos (starEach [c] X.env)).any (·.1) = false := by rfl) :
    DE X A W (.Call (.Name "isinstance" p) [e, c] [] pos) (isiR T f) :=
  peI (pe_callB call_isi hg hm (by decide +kernel) (pa_cons he (pa_cons hT pa_nil hs2) hs) (by decide) (by decide) hs hpl) fun σ H Q ⟨F, ρ, S, q⟩ => ⟨F, ρ, S, by
    unfold isiR at q
    cases hf : f ρ with
    | bad => rw [hf] at q; exact q
    | ex c => rw [hf] at q; exact q
    | ok d =>
      rw [hf] at q
      simp only [Res.bind_ok] at q
      cases hk : isiD T d with
      | none => rw [hk] at q; exact q.elim
      | some b =>
        rw [hk] at q
        exact fun v F1 H1 x1 i1 => ⟨v, .ty T, .type (tyN d), .type T, b, rfl, .ty T, i1.ty x1.le (fun kvs z => by subst z; cases hk), kit_ty (kit_D hk), q _ F1 H1 x1 (.bl _)⟩⟩
end

/-! ### slices -/
def cutG {α : Type} (xs : List α) (lo hi : Option Int) : List α := (xs.drop (HT.sIx xs.length 0 lo)).take (HT.sIx xs.length xs.length hi - HT.sIx xs.length 0 lo)
theorem IsA.cut [Wd] {F : Hp} {vs : List V} {ds : List D} (lo hi : Option Int) (t : IsA F vs ds) : IsA F (cutV vs lo hi) (cutG ds lo hi) := by
  unfold cutV cutG
  rw [t.length]
  exact (t.drop _).take _
def cutO : D → Option Int → Option Int → Option (List D)
  | .list xs, lo, hi => some (cutG xs lo hi)
  | _, _, _ => none
def cutD : D → Option Int → Option Int → Option D
  | .list xs, lo, hi => some (.list (cutG xs lo hi))
  | .tuple xs, lo, hi => some (.tuple (cutG xs lo hi))
  | .str x, lo, hi => if x.length ≤ sizeLine then some (.str (cutS x lo hi)) else none
  | _, _, _ => none
abbrev SlK := V → Option Int → Option Int → Hp → VK → Prop
def sD [Wd] (g : D → Option Int → Option Int → Option D) : SlK := fun x lo hi H Q => ∃ F a d, Same F H ∧ IsH F H x a ∧ g a lo hi = some d ∧ ∀ v F' H', Ext F H F' H' → Is F' v d → Q v H'
def sO [Wd] (g : D → Option Int → Option Int → Option (List D)) : SlK := fun x lo hi H Q => ∃ F a ds, Same F H ∧ IsH F H x a ∧ g a lo hi = some ds ∧
  ∀ p vs F' H', Ext F H F' H' → F' p = none → H p = none → H' p = some (.lst vs) → vs.length ≤ sizeLine → IsA F' vs ds → Q (.ref p) H'
section
variable [Wd] {X : Cx}
theorem s_list : SlR X (sO cutO) := by
  intro pins s σ H x v vl vu lo hi sl Q I rx hs pl pu h
  obtain ⟨F, a, ds, le, ia, e, q⟩ := h
  unfold cutO at e
  split at e
  · cases e
    obtain ⟨p, vs, rfl, hp, z, t⟩ := ia.list le
    exact sl_list pins s σ H _ v vl vu _ _ sl Q I rx hs pl pu ⟨p, vs, rfl, .inl hp, fun l hl => q l _ F _ (.fresh le hl) (none_of_le le hl) hl upd_same (Nat.le_trans (cutV_length _ _ _) z) (t.cut _ _)⟩
  · cases e
theorem s_any : SlR X (sD cutD) := by
  intro pins s σ H x v vl vu lo hi sl Q I rx hs pl pu h
  obtain ⟨F, a, d, le, ia, e, q⟩ := h
  cases a with
  | list xs =>
    cases e
    exact s_list pins s σ H _ v vl vu _ _ sl Q I rx hs pl pu ⟨F, _, _, le, ia, rfl, fun p vs F' H' x hf hn hp z t => frozen q x hf hn hp z t⟩
  | tuple xs =>
    cases e
    have it := ia.tupIs
    obtain ⟨p, vs, rfl, hp, z, t⟩ := ia.tup le
    refine sl_tupA pins s σ H _ v vl vu _ _ sl Q I rx hs pl pu ⟨p, vs, rfl, .inl hp, fun hw => ?_, fun _ l hl => q _ _ _ (.laid le hl) (.newT le hl (Nat.le_trans (cutV_length _ _ _) z) (t.cut _ _))⟩
    have e1 : cutG xs lo hi = xs := by
      unfold cutG
      rw [← t.length, hw.1, hw.2, List.drop_zero, t.length, Nat.sub_zero, List.take_length]
    rw [e1] at q
    exact q _ F H (.refl le) it
  | str y =>
    have e' : (if y.length ≤ sizeLine then some (PyData.str (cutS y lo hi)) else none) = some d := e
    split at e'
    · rename_i hz
      cases e'
      cases ia.str
      exact sl_str pins s σ H _ v vl vu _ _ sl Q I rx hs pl pu ⟨_, rfl, hz, q _ F H (.refl le) (.str _)⟩
    · cases e'
  | _ => cases e
end
def intOf : D → Option Int
  | .int i => some i
  | _ => none
def ptN : Rho → Res (Option Int) := fun _ => .ok none
def ptS (f : Rho → Res D) : Rho → Res (Option Int) := fun ρ => (f ρ).bind fun d => (Res.of (intOf d)).map some
def sl3 {α : Type} (g : D → Option Int → Option Int → Option α) (f : Rho → Res D) (lo hi : Rho → Res (Option Int)) : Rho → Res α := fun ρ => (f ρ).bind fun a => (lo ρ).bind fun l => (hi ρ).bind fun u => .of (g a l u)
/-- a part's reading -/
def tPt [Wd] (A : Amb) (W : WX) (f : Rho → Res (Option Int)) : TO := fun σ H Q => ∃ F ρ, Sim A F H σ ρ ∧ match f ρ with
  | .ok o => ∀ F' H', Ext F H F' H' → Q o H'
  | .ex c => Pex A W F H σ c
  | .bad => False
section
variable [Wd] {X : Cx} {A : Amb} {W : WX} {e : Expr} {f : Rho → Res D} {lo hi : Option Expr} {l u : Rho → Res (Option Int)} {p2 pos : Pos}
theorem poI {o : Option Expr} {t t' : TO} (h : PO X o t) (i : ∀ σ H Q, t' σ H Q → t σ H Q) : PO X o t' := ⟨fun pins s σ H Q I q => h.run pins s σ H Q I (i _ _ _ q)⟩
theorem p_none : PO X none (tPt A W ptN) := poI po_none fun σ H Q ⟨F, ρ, S, q⟩ => q F H (.refl S.le)
theorem p_some (h : BE X A W e f) : PO X (some e) (tPt A W (ptS f)) := poI (po_some h) fun σ H Q ⟨F, ρ, S, q⟩ => ⟨F, ρ, S, by
  unfold ptS at q
  cases hf : f ρ with
  | bad => rw [hf] at q; exact q
  | ex c => rw [hf] at q; exact q
  | ok d =>
    rw [hf] at q
    intro v F1 H1 x1 i1
    cases d with
    | int i => cases i1.int; exact ⟨i, rfl, q F1 H1 x1⟩
    | _ => exact q.elim⟩
theorem sl_run {r : SlK} {α : Type} {g : D → Option Int → Option Int → Option α} {σ : L2.St} {H : Hp} {Q : VK} {F : Hp} {ρ : Rho} (S : Sim A F H σ ρ)
    (q : match sl3 g f l u ρ with
      | .ok d => ∀ x F' H' a o o', Ext F H F' H' → IsH F' H' x a → g a o o' = some d → r x o o' H' Q
      | .ex c => Pex A W F H σ c
      | .bad => False) : tSl r (tB A W f) (tPt A W l) (tPt A W u) σ H Q := by
  unfold sl3 at q
  refine ⟨F, ρ, S, ?_⟩
  cases hf : f ρ with
  | bad => rw [hf] at q; exact q
  | ex c => rw [hf] at q; exact q
  | ok da =>
    rw [hf] at q
    intro x F1 H1 x1 i1
    refine ⟨F1, ρ, S.grow x1, ?_⟩
    simp only [Res.bind_ok] at q
    cases hl : l ρ with
    | bad => rw [hl] at q; exact q
    | ex c => rw [hl] at q; exact q.ext x1
    | ok o =>
      rw [hl] at q
      intro F2 H2 x2
      refine ⟨F2, ρ, (S.grow x1).grow x2, ?_⟩
      simp only [Res.bind_ok] at q
      cases hu : u ρ with
      | bad => rw [hu] at q; exact q
      | ex c => rw [hu] at q; exact q.ext (x1.trans x2)
      | ok o' =>
        rw [hu] at q
        intro F3 H3 x3
        simp only [Res.bind_ok] at q
        cases hg : g da o o' with
        | none => rw [hg] at q; exact q.elim
        | some d => rw [hg] at q; exact q x F3 H3 da o o' ((x1.trans x2).trans x3) ((i1.ext x2).ext x3) hg
theorem d_slice {g : D → Option Int → Option Int → Option D} (hr : SlR X (sD g)) (he : BE X A W e f) (hl : PO X lo (tPt A W l)) (hu : PO X hi (tPt A W u)) : DE X A W (.Subscript e (.Slice lo hi none p2) pos) (sl3 g f l u) :=
  peI (pe_slice hr he hl hu) fun σ H Q ⟨F, ρ, S, q⟩ => sl_run (g := g) S (by
    cases ho : sl3 g f l u ρ with
    | bad => rw [ho] at q; exact q
    | ex c => rw [ho] at q; exact q
    | ok d => rw [ho] at q; exact fun x F' H' a o o' x1 i1 hg => ⟨F', a, d, x1.le, i1, hg, fun v F2 H2 x2 i => q v F2 H2 (x1.trans x2) i⟩)
theorem o_slice {g : D → Option Int → Option Int → Option (List D)} (hr : SlR X (sO g)) (he : BE X A W e f) (hl : PO X lo (tPt A W l)) (hu : PO X hi (tPt A W u)) : OE X A W (.Subscript e (.Slice lo hi none p2) pos) (sl3 g f l u) :=
  peI (pe_slice hr he hl hu) fun σ H Q ⟨F, ρ, S, q⟩ => sl_run (g := g) S (by
    cases ho : sl3 g f l u ρ with
    | bad => rw [ho] at q; exact q
    | ex c => rw [ho] at q; exact q
    | ok d => rw [ho] at q; exact fun x F' H' a o o' x1 i1 hg => ⟨F', a, d, x1.le, i1, hg, fun p vs F2 H2 x2 h1 h2 h3 h4 h5 => q p vs F2 H2 (x1.trans x2) h1 (Same.free x1.keep h2) h3 h4 h5⟩)
end
end DL

/-! The data layer, part 5: what is walked; targets; comprehensions. -/
namespace DL
open PySem PySem.Spec PyProof.Rows L2

/-! ### what a walk yields -/
/-- the iterator J yields xs, as long as F1 stands frozen and H1 stands -/
def ItH [Wd] (J : It) (F1 H1 : Hp) (xs : List D) : Prop := ∀ (i : Nat) (F H : Hp), Same F1 F → Same F H → Same H1 H →
  (∀ x, xs[i]? = some x → J.go i H ∧ ∀ v H', J.yld i H v H' → ∃ F', Ext F H F' H' ∧ Is F' v x) ∧ (xs.length ≤ i → J.stop i H)
/-- .. as long as F1 stands frozen -/
def ItF [Wd] (J : It) (F1 : Hp) (xs : List D) : Prop := ∀ (i : Nat) (F H : Hp), Same F1 F → Same F H →
  (∀ x, xs[i]? = some x → J.go i H ∧ ∀ v H', J.yld i H v H' → ∃ F', Ext F H F' H' ∧ Is F' v x) ∧ (xs.length ≤ i → J.stop i H)
theorem ItF.h [Wd] {J : It} {F1 H1 : Hp} {xs : List D} (h : ItF J F1 xs) : ItH J F1 H1 xs := fun i F H a b _ => h i F H a b
def tIH [Wd] (A : Amb) (W : WX) (f : Rho → Res (List D)) : TI := fun σ H R => ∃ F ρ, Sim A F H σ ρ ∧ match f ρ with
  | .ok xs => ∀ J F' H', Ext F H F' H' → ItH J F' H' xs → xs.length ≤ sizeLine → R J H'
  | .ex c => Pex A W F H σ c
  | .bad => False
def tIF [Wd] (A : Amb) (W : WX) (f : Rho → Res (List D)) : TI := fun σ H R => ∃ F ρ, Sim A F H σ ρ ∧ match f ρ with
  | .ok xs => ∀ J F' H', Ext F H F' H' → ItF J F' xs → xs.length ≤ sizeLine → R J H'
  | .ex c => Pex A W F H σ c
  | .bad => False
theorem piI [Wd] {X : Cx} {tg e : Expr} {t t' : TI} (h : PI X tg e t) (i : ∀ σ H Q, t' σ H Q → t σ H Q) : PI X tg e t' := ⟨fun pins s σ H Q I q => h.run pins s σ H Q I (i _ _ _ q)⟩
abbrev IH [Wd] (X : Cx) (A : Amb) (W : WX) (tg e : Expr) (f : Rho → Res (List D)) : Prop := PI X tg e (tIH A W f)
abbrev IF [Wd] (X : Cx) (A : Amb) (W : WX) (tg e : Expr) (f : Rho → Res (List D)) : Prop := PI X tg e (tIF A W f)
theorem ih_f [Wd] {X : Cx} {A : Amb} {W : WX} {tg e : Expr} {f : Rho → Res (List D)} (h : IF X A W tg e f) : IH X A W tg e f := piI h fun σ H R ⟨F, ρ, S, q⟩ => ⟨F, ρ, S, by
  cases hf : f ρ with
  | bad => rw [hf] at q; exact q
  | ex c => rw [hf] at q; exact q
  | ok xs => rw [hf] at q; exact fun J F' H' x i z => q J F' H' x i.h z⟩

def seqOf : D → Option (List D)
  | .list xs => some xs
  | .tuple xs => some xs
  | _ => none
def toSeq (f : Rho → Res D) : Rho → Res (List D) := fun ρ => (f ρ).bind fun d => .of (seqOf d)
/-- a list or a tuple, as it comes -/
def iSeq (tl : TE) : TI := fun σ H R => tl σ H fun x H1 => ∃ a, x = .ref a ∧ ∃ xs, (Rd H1 a (.lst xs) ∧ ∀ K, R (Itl K a) H1) ∨ (Rd H1 a (.tup xs) ∧ ∀ K, R (Itt K a) H1)
section
variable [Wd] {X : Cx} {A : Amb} {W : WX} {tg e : Expr} {f : Rho → Res D}
theorem pi_seq {tl : TE} (hl : PE X e tl) : PI X tg e (iSeq tl) := by
  refine ⟨fun pins s σ H R I h => ?_⟩
  refine thn (hl.run pins s σ H _ I h) fun v s1 ⟨x, H1, I1, r1, q1⟩ => ?_
  obtain ⟨a, ex, xs, hq⟩ := q1
  subst ex
  cases r1
  rcases hq with ⟨hq, q⟩ | ⟨hq, q⟩
  · obtain ⟨its, rv, p, hz⟩ := I1.list (.inl hq)
    refine wpAny_pyIter_list p.isList ?_
    refine ⟨s1.heap.objs.size, [s1.heap.objs.size], _, _, H1, rfl, I1.kept (t' := s1.toks) fun b o e => Heap.get?_push_of_some _ e, turn_list a _, ⟨_, Heap.get?_push_size _ rfl, rfl, rfl⟩, fun b hb => ?_, q _⟩
    have e : b = s1.heap.objs.size := by simpa using hb
    subst e
    exact I1.fpOk (Nat.le_refl _) (I1.hok.fresh (Nat.le_refl _))
  · obtain ⟨its, rv, p, hz⟩ := I1.tuple (.inl hq)
    refine wpAny_pyIter_tuple (show s1.heap.IsTuple a its.toArray from p) ?_
    refine ⟨s1.heap.objs.size, [s1.heap.objs.size], _, _, H1, rfl, I1.kept (t' := s1.toks) fun b o e => Heap.get?_push_of_some _ e, turn_tuple a _, ⟨_, Heap.get?_push_size _ rfl, rfl, rfl⟩, fun b hb => ?_, q _⟩
    have e : b = s1.heap.objs.size := by simpa using hb
    subst e
    exact I1.fpOk (Nat.le_refl _) (I1.hok.fresh (Nat.le_refl _))
theorem itl_H {K : PySem.W.Frag} {F H : Hp} {a : Addr} {vs : List V} {xs : List D} (h : Rd H a (.lst vs)) (t : IsA F vs xs) : ItH (Itl K a) F H xs := fun i F' H' hF hl hH => by
  have hs : SqL K H' a vs := .inl (Rd.mono hH h)
  refine ⟨fun x hx => ?_, fun hi => ⟨vs, hs, by rw [t.length]; exact hi⟩⟩
  obtain ⟨v, hv, iv⟩ := t.get hx
  refine ⟨⟨vs, v, hs, hv⟩, fun v' H2 y => ?_⟩
  obtain ⟨rfl, y⟩ := y
  have e := (y vs hs).symm.trans hv
  cases e
  exact ⟨F', .refl hl, iv.mono hF⟩
theorem itt_H {K : PySem.W.Frag} {F H : Hp} {a : Addr} {vs : List V} {xs : List D} (h : Rd H a (.tup vs)) (t : IsA F vs xs) : ItH (Itt K a) F H xs := fun i F' H' hF hl hH => by
  have hs : SqT K H' a vs := .inl (Rd.mono hH h)
  refine ⟨fun x hx => ?_, fun hi => ⟨vs, hs, by rw [t.length]; exact hi⟩⟩
  obtain ⟨v, hv, iv⟩ := t.get hx
  refine ⟨⟨vs, v, hs, hv⟩, fun v' H2 y => ?_⟩
  obtain ⟨rfl, y⟩ := y
  have e := (y vs hs).symm.trans hv
  cases e
  exact ⟨F', .refl hl, iv.mono hF⟩
theorem ItF.of {J : It} {F : Hp} {xs : List D} (h : ItH J F F xs) : ItF J F xs := fun i F' H' hF hl => h i F' H' hF hl (hF.trans hl)
/-- over a list (one's own too) or a tuple, for a comprehension -/
theorem i_seq (h : BE X A W e f) : IH X A W tg e (toSeq f) := piI (pi_seq h) fun σ H R ⟨F, ρ, S, q⟩ => ⟨F, ρ, S, by
  unfold toSeq at q
  cases hf : f ρ with
  | bad => rw [hf] at q; exact q
  | ex c => rw [hf] at q; exact q
  | ok d =>
    rw [hf] at q
    simp only [Res.bind_ok] at q
    intro v F1 H1 x1 i1
    cases d with
    | list xs =>
      obtain ⟨p, vs, rfl, hp, z, t⟩ := i1.list x1.le
      exact ⟨p, rfl, vs, .inl ⟨hp, fun K => q (Itl K p) F1 H1 x1 (itl_H hp t) (by rw [← t.length]; exact z)⟩⟩
    | tuple xs =>
      obtain ⟨p, vs, rfl, hp, z, t⟩ := i1.tup x1.le
      exact ⟨p, rfl, vs, .inr ⟨hp, fun K => q (Itt K p) F1 H1 x1 (itt_H hp t) (by rw [← t.length]; exact z)⟩⟩
    | _ => exact q.elim⟩
/-- .. that is frozen, for a for -/
theorem i_seqF (h : DE X A W e f) : IF X A W tg e (toSeq f) := piI (pi_seq h) fun σ H R ⟨F, ρ, S, q⟩ => ⟨F, ρ, S, by
  unfold toSeq at q
  cases hf : f ρ with
  | bad => rw [hf] at q; exact q
  | ex c => rw [hf] at q; exact q
  | ok d =>
    rw [hf] at q
    simp only [Res.bind_ok] at q
    intro v F1 H1 x1 i1
    cases d with
    | list xs =>
      cases i1 with
      | lst hp z t => exact ⟨_, rfl, _, .inl ⟨Rd.mono x1.le hp, fun K => q (Itl K _) F1 H1 x1 (.of (itl_H hp t)) (by rw [← t.length]; exact z)⟩⟩
    | tuple xs =>
      cases i1 with
      | tup hp z t => exact ⟨_, rfl, _, .inr ⟨Rd.mono x1.le hp, fun K => q (Itt K _) F1 H1 x1 (.of (itt_H hp t)) (by rw [← t.length]; exact z)⟩⟩
    | _ => exact q.elim⟩
end

/-! ### ranges -/
def upTo (lo : Int) (n : Nat) : List D := (List.range n).map fun k => .int (lo + (k : Nat))
def smallR (i : Int) : Bool := Nat.ble i.natAbs 1000000
def rng1 : List D → Option (List D)
  | [.int j] => if smallR j = true then some (upTo 0 j.toNat) else none
  | _ => none
def rng2 : List D → Option (List D)
  | [.int i, .int j] => if (smallR i && smallR j) = true then some (upTo i (j - i).toNat) else none
  | _ => none
theorem smallR_ok {i : Int} (h : smallR i = true) : -1000000 ≤ i ∧ i ≤ 1000000 := by
  unfold smallR at h
  rw [Nat.ble_eq] at h
  omega
theorem smallR_of {i : Int} (h1 : -1000000 ≤ i) (h2 : i ≤ 1000000) : smallR i = true := by
  unfold smallR
  rw [Nat.ble_eq]
  omega
theorem smallI_of {i : Int} (h1 : -1000000 ≤ i) (h2 : i ≤ 1000000) : smallI i = true := by
  unfold smallI
  rw [Nat.blt_eq]
  omega
theorem itr_F [Wd] {lo : Int} {n : Nat} {F : Hp} : ItF (Itr lo n) F (upTo lo n) := fun i F' H' hF hl => by
  refine ⟨fun x hx => ?_, fun hi => ?_⟩
  · unfold upTo at hx
    rw [List.getElem?_map] at hx
    obtain ⟨k, hk, e⟩ := Option.map_eq_some_iff.mp hx
    obtain ⟨h1, h2⟩ := List.getElem?_eq_some_iff.mp hk
    rw [List.getElem_range] at h2
    subst h2
    rw [List.length_range] at h1
    refine ⟨h1, fun v H2 y => ?_⟩
    obtain ⟨rfl, rfl⟩ := y
    subst e
    exact ⟨F', .refl hl, .int _⟩
  · unfold upTo at hi
    rw [List.length_map, List.length_range] at hi
    exact hi
theorem upTo_len (lo : Int) (n : Nat) : (upTo lo n).length = n := by unfold upTo; rw [List.length_map, List.length_range]
section
variable [Wd] {X : Cx} {A : Amb} {W : WX} {tg e e2 : Expr} {g : Rho → Res (List D)} {p pos : Pos}
theorem i_rng1 (hm : X.mg "range" = none) (ha : BAs X A W [e] g) (hg : Gl X "range" := by rfl) (hs : starEach [e] X.env = [(false, eval e X.env)] := by rfl) : IF X A W tg (.Call (.Name "range" p) [e] [] pos) (cb rng1 g) :=
  piI (pi_range1 hg hm ha hs) fun σ H R ⟨F, ρ, S, q⟩ => ⟨F, ρ, S, by
    unfold cb at q
    cases hf : g ρ with
    | bad => rw [hf] at q; exact q
    | ex c => rw [hf] at q; exact q
    | ok ds =>
      rw [hf] at q
      simp only [Res.bind_ok] at q
      intro vs F1 H1 x1 i1
      cases hk : rng1 ds with
      | none => rw [hk] at q; exact q.elim
      | some xs =>
        rw [hk] at q
        unfold rng1 at hk
        split at hk
        · rename_i j
          split at hk
          · rename_i hj
            cases hk
            have := smallR_ok hj
            obtain ⟨v, rfl, i⟩ := i1.one
            cases i.int
            refine ⟨j, rfl, by omega, by omega, q _ F1 H1 x1 itr_F (by rw [upTo_len, sizeLine_eq]; omega)⟩
          · cases hk
        · cases hk⟩
theorem i_rng2 (hm : X.mg "range" = none) (ha : BAs X A W [e, e2] g) (hg : Gl X "range" := by rfl) (hs : starEach [e, e2] X.env = [(false, eval e X.env), (false, eval e2 X.env)] := by rfl) (hs2 : starEach [e2] X.env = [(false, eval e2 X.env)] := by rfl) :
    IF X A W tg (.Call (.Name "range" p) [e, e2] [] pos) (cb rng2 g) :=
  piI (pi_range2 hg hm ha hs hs2) fun σ H R ⟨F, ρ, S, q⟩ => ⟨F, ρ, S, by
    unfold cb at q
    cases hf : g ρ with
    | bad => rw [hf] at q; exact q
    | ex c => rw [hf] at q; exact q
    | ok ds =>
      rw [hf] at q
      simp only [Res.bind_ok] at q
      intro vs F1 H1 x1 i1
      cases hk : rng2 ds with
      | none => rw [hk] at q; exact q.elim
      | some xs =>
        rw [hk] at q
        unfold rng2 at hk
        split at hk
        · rename_i i j
          split at hk
          · rename_i hj
            cases hk
            rw [Bool.and_eq_true] at hj
            have h1 := smallR_ok hj.1
            have h2 := smallR_ok hj.2
            obtain ⟨v, w, rfl, i1, i2⟩ := i1.two
            cases i1.int
            cases i2.int
            exact ⟨i, j, rfl, ⟨by omega, by omega, by omega, by omega⟩, q _ F1 H1 x1 itr_F (by rw [upTo_len, sizeLine_eq]; omega)⟩
          · cases hk
        · cases hk⟩
end

/-! ### targets -/
/-- a target: the slots it writes, what the bindings become -/
structure Tg where
  at_ : List Nat
  run : D → Rho → Res Rho
/-- the target's reading by data: only the slots t.at_ are written -/
def TgSim [Wd] (t : Tg) (g : TG) : Prop := ∀ (A : Amb) (F H : Hp) (σ : L2.St) (ρ ρ' : Rho) (v : V) (d : D) (Q : L2.St → Hp → Prop), Sim A F H σ ρ → Is F v d → t.run d ρ = .ok ρ' →
    (∀ σ', Sim A F H σ' ρ' → σ'.length = σ.length → (∀ i, i ∉ t.at_ → σ'[i]? = σ[i]?) → Q σ' H) → g v σ H Q
def tgName (i : Nat) : Tg := ⟨[i], fun d ρ => .ok (ρ.set i (some (.d d)))⟩
def tgPair (i j : Nat) : Tg := ⟨[i, j], fun d ρ => match d with
  | .tuple [x, y] => .ok ((ρ.set i (some (.d x))).set j (some (.d y)))
  | _ => .bad⟩
theorem tgs_name [Wd] {i : Nat} : TgSim (tgName i) (gName i) := fun A F H σ ρ ρ' v d Q S i1 e q => by
  cases e
  exact q _ (S.setD i1) (by simp) fun j hj => List.getElem?_set_ne (fun z => hj (by simp [tgName, z]))
theorem tgs_pair [Wd] {K : PySem.W.Frag} {i j : Nat} : TgSim (tgPair i j) (gTup K 2 (gCons (gName i) (gCons (gName j) gNil))) := fun A F H σ ρ ρ' v d Q S i1 e q => by
  unfold tgPair at e
  simp only at e
  split at e
  · cases e
    cases i1 with
    | tup h z t =>
      cases t with
      | cons h1 t =>
        cases t with
        | cons h2 t =>
          cases t
          refine ⟨_, _, rfl, .inl (Rd.mono S.le h), rfl, _, _, rfl, _, _, rfl, rfl, ?_⟩
          refine q _ ((S.setD h1).setD h2) (by simp) fun k hk => ?_
          rw [List.getElem?_set_ne (fun z => hk (by simp [tgPair, z])), List.getElem?_set_ne (fun z => hk (by simp [tgPair, z]))]
  · cases e

/-! ### comprehensions -/
def wipeR (ρ : Rho) : List Nat → Rho
  | [] => ρ
  | v :: vs => (wipeR ρ vs).set v none
theorem Sim.wipe [Wd] {A : Amb} {F H : Hp} {σ : L2.St} {ρ : Rho} (S : Sim A F H σ ρ) : ∀ vs : List Nat, Sim A F H (wipe σ vs) (wipeR ρ vs)
  | [] => S
  | v :: vs => (Sim.wipe S vs).drop v none
theorem wipe_in {σ : L2.St} {i : Nat} (hi : i < σ.length) : ∀ {vs : List Nat}, i ∈ vs → (wipe σ vs)[i]? = some none
  | [], h => by cases h
  | v :: vs, h => by
    unfold wipe
    by_cases e : v = i
    · subst e
      rw [List.getElem?_set_self (by rw [wipe_length]; exact hi)]
    · rw [List.getElem?_set_ne e]
      rcases List.mem_cons.mp h with z | z
      · exact absurd z.symm e
      · exact wipe_in hi z
theorem wipe_eq {σ σ2 : L2.St} {vs : List Nat} (hl : σ2.length = (wipe σ vs).length) (h : ∀ i, i ∉ vs → σ2[i]? = (wipe σ vs)[i]?) : wipe σ2 vs = wipe σ vs := by
  apply List.ext_getElem?
  intro i
  by_cases hi : i ∈ vs
  · by_cases hs : i < σ.length
    · rw [wipe_in hs hi, wipe_in (by rw [hl, wipe_length]; exact hs) hi]
    · rw [List.getElem?_eq_none (by rw [wipe_length, hl, wipe_length]; omega), List.getElem?_eq_none (by rw [wipe_length]; omega)]
  · rw [wipe_out hi, h i hi]
def Res.noex {α : Type} : Res α → Res α
  | .ok a => .ok a
  | _ => .bad
@[simp] theorem Res.noex_ok {α : Type} (a : α) : (Res.ok a).noex = .ok a := rfl
def lcL (t : Tg) (c : Rho → Res Bool) (e : Rho → Res D) (ρ : Rho) : List D → Res (List D)
  | [] => .ok []
  | x :: xs => (t.run x ρ).noex.bind fun ρ1 => (c ρ1).noex.bind fun b => if b = true then (e ρ1).noex.bind fun y => (lcL t c e ρ xs).map (y :: ·) else lcL t c e ρ xs
def lc (fi : Rho → Res (List D)) (t : Tg) (c : Rho → Res Bool) (e : Rho → Res D) (vs : List Nat) : Rho → Res (List D) := fun ρ => (fi ρ).bind fun xs => (lcL t c e (wipeR ρ vs) xs).noex
abbrev W0 : WX := fun _ _ _ _ => False
theorem noex_ok {α : Type} {r : Res α} {β : Type} {f : α → Res β} {b : β} (h : r.noex.bind f = .ok b) : ∃ a, r = .ok a ∧ f a = .ok b := by
  cases r with
  | ok a => exact ⟨a, rfl, h⟩
  | ex c => cases h
  | bad => cases h
theorem map_ok {α β : Type} {r : Res α} {f : α → β} {b : β} (h : r.map f = .ok b) : ∃ a, r = .ok a ∧ f a = b := by
  cases r with
  | ok a => cases h; exact ⟨a, rfl, rfl⟩
  | ex c => cases h
  | bad => cases h
section
variable [Wd] {X : Cx} {A : Amb} {W : WX}
abbrev DTs (X : Cx) (A : Amb) (W : WX) (ifs : List Expr) (f : Rho → Res Bool) : Prop := PTs X ifs (tT A W f)
def yes : Rho → Res Bool := fun _ => .ok true
theorem ts_nil : DTs X A W [] yes := ⟨fun pins s σ H Q I ⟨F, ρ, S, q⟩ => pts_nil.run pins s σ H Q I (q F H (.refl S.le))⟩
theorem ts_one {c : Expr} {f : Rho → Res Bool} (h : DT X A W c f) : DTs X A W [c] f := pts_one h
theorem lc_ok {fi : Rho → Res (List D)} {t : Tg} {g : TG} {c : Rho → Res Bool} {e : Rho → Res D} {vs : List Nat} (hs : TgSim t g) (hv : ∀ i ∈ t.at_, i ∈ vs) {σ : L2.St} {H : Hp} {Q : VK} (h : tO A W (lc fi t c e vs) σ H Q) :
    tLc (tIH A W fi) g (tT A W0 c) (tD A W0 e) vs σ H Q := by
  obtain ⟨F, ρ, S, q⟩ := h
  refine ⟨F, ρ, S, ?_⟩
  unfold lc at q
  cases hf : fi ρ with
  | bad => rw [hf] at q; exact q
  | ex c => rw [hf] at q; exact q
  | ok xs =>
    rw [hf] at q
    simp only [Res.bind_ok] at q
    intro J F1 H1 x1 J1 hz D hD
    cases hl : lcL t c e (wipeR ρ vs) xs with
    | bad => rw [hl] at q; exact q.elim
    | ex c' => rw [hl] at q; exact q.elim
    | ok ds =>
      rw [hl] at q
      refine ⟨fun i m H => ∃ F' acc done rest, m = xs.length - i ∧ i ≤ xs.length ∧ Ext F1 H1 F' H ∧ F' D = none ∧ H D = some (.lst acc) ∧ acc.length ≤ i ∧ IsA F' acc done ∧ lcL t c e (wipeR ρ vs) (xs.drop i) = .ok rest ∧ done ++ rest = ds,
        ⟨xs.length, F1, [], [], ds, by simp, Nat.zero_le _, .fresh x1.le hD, none_of_le x1.le hD, upd_same, Nat.le_refl _, .nil, by simpa using hl, rfl⟩, ?_⟩
      rintro i m H2 ⟨F2, acc, done, rest, rfl, hi, x2, fD, hA, ha, iA, hr, hd⟩
      obtain ⟨go, stop⟩ := J1 i F2 H2 x2.up x2.le x2.keep
      by_cases hlt : i < xs.length
      · obtain ⟨g1, g2⟩ := go xs[i] (List.getElem?_eq_getElem hlt)
        rw [List.drop_eq_getElem_cons hlt] at hr
        unfold lcL at hr
        obtain ⟨ρ1, hρ, hr⟩ := noex_ok hr
        obtain ⟨b, hb, hr⟩ := noex_ok hr
        refine .inr ⟨g1, fun H => ∃ F' acc done rest, Ext F1 H1 F' H ∧ F' D = none ∧ H D = some (.lst acc) ∧ acc.length ≤ i + 1 ∧ IsA F' acc done ∧ lcL t c e (wipeR ρ vs) (xs.drop (i + 1)) = .ok rest ∧ done ++ rest = ds,
          fun H' ⟨F', acc, done, rest, a1, a2, a3, a4, a5, a6, a7⟩ => ⟨xs.length - (i + 1), by omega, F', acc, done, rest, rfl, hlt, a1, a2, a3, a4, a5, a6, a7⟩, fun v H3 hy => ?_⟩
        obtain ⟨F3, x3, i3⟩ := g2 v H3 hy
        have S3 : Sim A F3 H3 (wipe σ vs) (wipeR ρ vs) := (((S.grow x1).wipe vs).grow (x2.trans x3))
        refine hs A F3 H3 _ _ ρ1 v _ _ S3 i3 hρ fun σ2 S4 hl2 ho => ⟨wipe_eq hl2 fun j hj => ho j fun z => hj (hv j z), F3, ρ1, S4, ?_⟩
        rw [hb]
        intro F4 H4 x4
        cases b with
        | false =>
          rw [if_neg Bool.false_ne_true] at hr ⊢
          exact ⟨F4, acc, done, rest, x2.trans (x3.trans x4), (x3.trans x4).new _ _ fD hA, (x3.trans x4).keep _ _ hA, by omega, iA.mono (x3.trans x4).up, hr, hd⟩
        | true =>
          rw [if_pos rfl] at hr ⊢
          obtain ⟨y, hy, hr⟩ := noex_ok hr
          obtain ⟨rest', hr', hrr⟩ := map_ok hr
          refine ⟨F4, ρ1, S4.grow x4, ?_⟩
          rw [hy]
          intro w F5 H5 x5 i5
          have x6 := x3.trans (x4.trans x5)
          have hA5 := x6.keep _ _ hA
          have fD5 := x6.new _ _ fD hA
          refine ⟨acc, hA5, by omega, F5, acc ++ [w], done ++ [y], rest', ?_, fD5, upd_same, by rw [List.length_append]; simp; omega, (iA.mono x6.up).append (.cons i5 .nil), hr', ?_⟩
          · have x7 := x2.trans x6
            refine ⟨x7.up, fun b o eb => ?_, fun b o eb => ?_, x7.new⟩
            · rw [upd_ne (ne_of_none eb hD)]; exact x7.keep _ _ eb
            · rw [upd_ne (ne_of_none eb fD5)]; exact x7.le _ _ eb
          · rw [← hd, ← hrr]; simp
      · have ei : i = xs.length := by omega
        subst ei
        refine .inl ⟨stop (Nat.le_refl _), ?_⟩
        rw [List.drop_length] at hr
        cases hr
        rw [List.append_nil] at hd
        subst hd
        exact q D acc F2 H2 (x1.trans x2) fD (Same.free x1.keep hD) hA (by omega) iA
theorem o_lc {elt tg iter : Expr} {ifs : List Expr} {scope : Scope} {own : List (Str × Nat)} {pos : Pos} {fi : Rho → Res (List D)} {t : Tg} {g : TG} {c : Rho → Res Bool} {e : Rho → Res D} (hc : X.calm = true) (hN : X.N.Nodup) (hi : IH X A W tg iter fi) (ok : BlkOk X.N X.env.scope scope own)
    (hg : ∀ (s : Shared) (H : Hp) (C : Addr) (cl : List (Str × Addr)) (fp : List Addr), PG (X.blk s H scope (compEnvC scope cl C X.env) fp) tg g) (hs : TgSim t g)
    (ht : ∀ (s : Shared) (H : Hp) (C : Addr) (cl : List (Str × Addr)) (fp : List Addr), DTs (X.blk s H scope (compEnvC scope cl C X.env) fp) A W0 ifs c)
    (he : ∀ (s : Shared) (H : Hp) (C : Addr) (cl : List (Str × Addr)) (fp : List Addr), DE (X.blk s H scope (compEnvC scope cl C X.env) fp) A W0 elt e)
    (hv : ∀ i ∈ t.at_, i ∈ own.map (·.2) := by decide) (hf : ∀ x, foldedSetIterable iter X.env x = pure x := by intro _; rfl) :
    OE X A W (.ListComp elt [⟨tg, iter, ifs, 0⟩] scope pos) (lc fi t c e (own.map (·.2))) := peI (pe_lc hc hN hi ok hg ht he hf) fun σ H Q h => lc_ok hs hv h
end
end DL

/-! The data layer, part 6: statements, calls, defs. -/
namespace DL
open PySem PySem.Spec PyProof.Rows L2

/-- a statement's outcome -/
inductive SO where
  | nx (ρ : Rho)
  | rt (d : D)
  | ro (xs : List D)
  | bk (ρ : Rho)
  | ct (ρ : Rho)
  | ex (c : Exc)
  | bad
def Po [Wd] (A : Amb) (W : WX) (E : Ends) (F : Hp) : SO → Prop
  | .nx ρ => ∀ σ F' H', Sim A F' H' σ ρ → Same F F' → E.nx σ H'
  | .rt d => ∀ v F' H', Ext A.F0 A.H0 F' H' → Is F' v d → E.rt v H'
  | .ro xs => ∀ p vs F' H', Ext A.F0 A.H0 F' H' → F' p = none → A.H0 p = none → H' p = some (.lst vs) → vs.length ≤ sizeLine → IsA F' vs xs → E.rt (.ref p) H'
  | .bk ρ => ∀ σ F' H', Sim A F' H' σ ρ → Same F F' → E.bk σ H'
  | .ct ρ => ∀ σ F' H', Sim A F' H' σ ρ → Same F F' → E.ct σ H'
  | .ex c => ∀ (σ : L2.St) cls dd F' H', Ext A.F0 A.H0 F' H' → Same F F' → σ.length = A.n → Zx A.Z c cls dd F' → W cls dd σ H'
  | .bad => False
def tS [Wd] (A : Amb) (W : WX) (g : Rho → SO) : TS := fun E σ H => ∃ F ρ, Sim A F H σ ρ ∧ Po A W E F (g ρ)
theorem psI [Wd] {X : Cx} {st : Stmt} {t t' : TS} (h : PS X st t) (i : ∀ E σ H, t' E σ H → t E σ H) : PS X st t' := ⟨fun pins s σ H E I q => h.run pins s σ H E I (i _ _ _ q)⟩
theorem pssI [Wd] {X : Cx} {st : List Stmt} {t t' : TS} (h : PSs X st t) (i : ∀ E σ H, t' E σ H → t E σ H) : PSs X st t' := ⟨fun pins s σ H E I q => h.run pins s σ H E I (i _ _ _ q)⟩
abbrev DS [Wd] (X : Cx) (A : Amb) (W : WX) (st : Stmt) (g : Rho → SO) : Prop := PS X st (tS A W g)
abbrev DSs [Wd] (X : Cx) (A : Amb) (W : WX) (st : List Stmt) (g : Rho → SO) : Prop := PSs X st (tS A W g)
theorem Po.pex [Wd] {A : Amb} {W : WX} {E : Ends} {F H : Hp} {σ : L2.St} {ρ : Rho} {c : Exc} (S : Sim A F H σ ρ) (h : Po A W E F (.ex c)) : Pex A W F H σ c :=
  fun cls dd F' H' x z => h σ cls dd F' H' (S.ext.trans x) x.up (S.len.trans S.num) z
theorem Po.mono [Wd] {A : Amb} {W : WX} {E : Ends} {F F' : Hp} (h : Same F F') : ∀ {o : SO}, Po A W E F o → Po A W E F' o
  | .nx _, q => fun σ F2 H2 S e => q σ F2 H2 S (h.trans e)
  | .rt _, q => q
  | .ro _, q => q
  | .bk _, q => fun σ F2 H2 S e => q σ F2 H2 S (h.trans e)
  | .ct _, q => fun σ F2 H2 S e => q σ F2 H2 S (h.trans e)
  | .ex _, q => fun σ cls dd F2 H2 x e l z => q σ cls dd F2 H2 x (h.trans e) l z
  | .bad, q => q

/-! ### small statements -/
def thenS {α : Type} (f : Rho → Res α) (k : Rho → α → SO) : Rho → SO := fun ρ => match f ρ with
  | .ok a => k ρ a
  | .ex c => .ex c
  | .bad => .bad
def retS (f : Rho → Res D) : Rho → SO := thenS f fun _ d => .rt d
def retO (f : Rho → Res (List D)) : Rho → SO := thenS f fun _ d => .ro d
def retN : Rho → SO := fun _ => .rt .none
def dropS (f : Rho → Res D) : Rho → SO := thenS f fun ρ _ => .nx ρ
def setS (i : Nat) (f : Rho → Res D) : Rho → SO := thenS f fun ρ d => .nx (ρ.set i (some (.d d)))
def setO (i : Nat) (f : Rho → Res (List D)) : Rho → SO := thenS f fun ρ d => .nx (ρ.set i (some (.own d)))
def tgtS (t : Tg) (f : Rho → Res D) : Rho → SO := thenS f fun ρ d => match t.run d ρ with
  | .ok ρ' => .nx ρ'
  | _ => .bad
section
variable [Wd] {X : Cx} {A : Amb} {W : WX} {e : Expr} {f : Rho → Res D} {fo : Rho → Res (List D)} {pos : Pos}
/-- from a value's reading to a statement's -/
theorem then_D {k : Rho → D → SO} {E : Ends} {σ : L2.St} {H : Hp} {Q : VK} (h : tS A W (thenS f k) E σ H)
    (i : ∀ F ρ d, Sim A F H σ ρ → Po A W E F (k ρ d) → ∀ v F' H', Ext F H F' H' → Is F' v d → Q v H') : tD A W f σ H Q := by
  obtain ⟨F, ρ, S, q⟩ := h
  refine ⟨F, ρ, S, ?_⟩
  unfold thenS at q
  cases hf : f ρ with
  | bad => rw [hf] at q; exact q
  | ex c => rw [hf] at q; exact q.pex S
  | ok d => rw [hf] at q; exact i F ρ d S q
theorem then_O {k : Rho → List D → SO} {E : Ends} {σ : L2.St} {H : Hp} {Q : VK} (h : tS A W (thenS fo k) E σ H)
    (i : ∀ F ρ d, Sim A F H σ ρ → Po A W E F (k ρ d) → ∀ p vs F' H', Ext F H F' H' → F' p = none → H p = none → H' p = some (.lst vs) → vs.length ≤ sizeLine → IsA F' vs d → Q (.ref p) H') : tO A W fo σ H Q := by
  obtain ⟨F, ρ, S, q⟩ := h
  refine ⟨F, ρ, S, ?_⟩
  unfold thenS at q
  cases hf : fo ρ with
  | bad => rw [hf] at q; exact q
  | ex c => rw [hf] at q; exact q.pex S
  | ok d => rw [hf] at q; exact i F ρ d S q
theorem s_ret (h : DE X A W e f) : DS X A W (.Return (some e) pos) (retS f) := psI (ps_ret h) fun E σ H q => then_D q fun F ρ d S q v F' H' x i => q v F' H' (S.ext.trans x) i
theorem s_retO (h : OE X A W e fo) : DS X A W (.Return (some e) pos) (retO fo) := psI (ps_ret h) fun E σ H q => then_O q fun F ρ d S q p vs F' H' x h1 h2 h3 h4 h5 => q p vs F' H' (S.ext.trans x) h1 (Same.free S.ext.keep h2) h3 h4 h5
theorem s_retN : DS X A W (.Return none pos) retN := psI ps_retN fun E σ H ⟨F, ρ, S, q⟩ => q .non F H S.ext .non
theorem s_drop (h : DE X A W e f) (hs : swapsWith e none pos.line X.env = pure false := by rfl) : DS X A W (.Expr e pos) (dropS f) := psI (ps_expr h hs) fun E σ H q => then_D q fun F ρ d S q v F' H' x i => q σ F' H' (S.grow x) x.up
theorem s_set (i : Nat) {x : Str} {pos' : Pos} (hN : X.N.Nodup) (h : DE X A W e f) (hi : X.N[i]? = some x := by rfl) (hx : Loc X.env.scope x := by first | exact Or.inl rfl | exact Or.inr rfl) (hs : swapsWith e (some (.Name x pos')) pos.line X.env = pure false := by rfl)
    (hf : X.fn x = true ∨ X.env.scope.names.lookup x = some .local := by first | exact .inl rfl | exact .inr rfl | assumption) : DS X A W (.Assign [.Name x pos'] e pos) (setS i f) :=
  psI (ps_set hN hi hx h hs hf) fun E σ H q => then_D q fun F ρ d S q v F' H' x i => q _ F' H' ((S.grow x).setD i) x.up
theorem s_setO (i : Nat) {x : Str} {pos' : Pos} (hN : X.N.Nodup) (h : OE X A W e fo) (hi : X.N[i]? = some x := by rfl) (hx : Loc X.env.scope x := by first | exact Or.inl rfl | exact Or.inr rfl) (hs : swapsWith e (some (.Name x pos')) pos.line X.env = pure false := by rfl)
    (hf : X.fn x = true ∨ X.env.scope.names.lookup x = some .local := by first | exact .inl rfl | exact .inr rfl | assumption) : DS X A W (.Assign [.Name x pos'] e pos) (setO i fo) :=
  psI (ps_set hN hi hx h hs hf) fun E σ H q => then_O q fun F ρ d S q p vs F' H' x h1 h2 h3 h4 h5 =>
    q _ F' H' ((S.grow x).setO ⟨p, vs, rfl, h1, Same.free S.ext.keep h2, h3, h4, h5⟩ fun j b _ e o => S.new h2 j b e o) x.up
theorem s_tgt {tg : Expr} {t : Tg} {g : TG} (h : DE X A W e f) (hg : PG X tg g) (hs : TgSim t g) (h0 : swapsWithSole [tg] e pos.line X.env = pure false := by rfl) (hw : swappedStores [tg] e X.env = pure none := by rfl)
    (h1 : (assignEach [tg] X.env).map (·.2) = [assign tg X.env] := by rfl) : DS X A W (.Assign [tg] e pos) (tgtS t f) :=
  psI (ps_asg h hg h0 hw h1) fun E σ H q => then_D q fun F ρ d S q v F' H' x i => by
    cases hr : t.run d ρ with
    | ok ρ' => rw [hr] at q; exact hs A F' H' σ ρ ρ' v d _ (S.grow x) i hr fun σ' S' _ _ => q σ' F' H' S' x.up
    | ex c => rw [hr] at q; exact q.elim
    | bad => rw [hr] at q; exact q.elim
/-- name = [..] on one line -/
theorem s_setLc (i : Nat) {y : Str} {py : Pos} {elt tg iter : Expr} {ifs : List Expr} {scope : Scope} {own : List (Str × Nat)} {spos : Pos} {fi : Rho → Res (List D)} {t : Tg} {g : TG} {c : Rho → Res Bool} {e : Rho → Res D} (hc : X.calm = true) (hN : X.N.Nodup)
    (hsw : swapsWith (.ListComp elt [⟨tg, iter, ifs, 0⟩] scope pos) (some (.Name y py)) spos.line X.env = pure true) (hi : IH X A W tg iter fi) (ok : BlkOk X.N X.env.scope scope own)
    (hg : ∀ (s : Shared) (H : Hp) (C : Addr) (cl : List (Str × Addr)) (fp : List Addr), PG (X.blk s H scope (compEnvC scope cl C X.env) fp) tg g) (hs : TgSim t g)
    (ht : ∀ (s : Shared) (H : Hp) (C : Addr) (cl : List (Str × Addr)) (fp : List Addr), DTs (X.blk s H scope (compEnvC scope cl C X.env) fp) A W0 ifs c)
    (he : ∀ (s : Shared) (H : Hp) (C : Addr) (cl : List (Str × Addr)) (fp : List Addr), DE (X.blk s H scope (compEnvC scope cl C X.env) fp) A W0 elt e)
    (hy : X.N[i]? = some y := by rfl) (hyl : X.env.scope.names.lookup y = some .local := by rfl) (hv : ∀ i ∈ t.at_, i ∈ own.map (·.2) := by decide) (hf : ∀ x, foldedSetIterable iter X.env x = pure x := by intro _; rfl) :
    DS X A W (.Assign [.Name y py] (.ListComp elt [⟨tg, iter, ifs, 0⟩] scope pos) spos) (setS i (frz (lc fi t c e (own.map (·.2))))) :=
  psI (ps_setLc hc hN hy hyl hsw hi ok hg ht he hf) fun E σ H q => lc_ok hs hv (Q := fun x H1 => gName i x σ H1 E.nx) (by
    obtain ⟨F, ρ, S, q⟩ := q
    refine ⟨F, ρ, S, ?_⟩
    unfold setS thenS frz at q
    cases hl : lc fi t c e (own.map (·.2)) ρ with
    | bad => rw [hl] at q; exact q
    | ex c => rw [hl] at q; exact q.pex S
    | ok ds =>
      rw [hl] at q
      intro p vs F' H' x h1 h2 h3 h4 h5
      have x' := x.freeze h1 h2 h3
      exact q _ _ H' ((S.grow x').setD (.lst (.inl upd_same) h4 (h5.mono (same_upd h1)))) x'.up)
theorem s_pass : DS X A W (.Pass pos) SO.nx := psI ps_pass fun E σ H ⟨F, ρ, S, q⟩ => q σ F H S (Same.refl _)
theorem s_break : DS X A W (.Break pos) SO.bk := psI ps_break fun E σ H ⟨F, ρ, S, q⟩ => q σ F H S (Same.refl _)
theorem s_cont : DS X A W (.Continue pos) SO.ct := psI ps_continue fun E σ H ⟨F, ρ, S, q⟩ => q σ F H S (Same.refl _)
theorem s_doc {x j pos pos'} : DS X A W (.Expr (.Constant (.str x) j pos) pos') SO.nx := psI ps_doc fun E σ H ⟨F, ρ, S, q⟩ => q σ F H S (Same.refl _)
end

/-! ### blocks, if -/
def seqS (g k : Rho → SO) : Rho → SO := fun ρ => match g ρ with
  | .nx ρ' => k ρ'
  | o => o
def ifS (c : Rho → Res Bool) (g k : Rho → SO) : Rho → SO := thenS c fun ρ b => if b = true then g ρ else k ρ
section
variable [Wd] {X : Cx} {A : Amb} {W : WX} {st : Stmt} {rest : List Stmt} {g k : Rho → SO} {pos : Pos}
theorem ss_nil : DSs X A W [] SO.nx := pssI pss_nil fun E σ H ⟨F, ρ, S, q⟩ => q σ F H S (Same.refl _)
theorem ss_one (h : DS X A W st g) : DSs X A W [st] g := pss_one h
theorem ss_cons (h : DS X A W st g) (r : DSs X A W rest k) : DSs X A W (st :: rest) (seqS g k) := pssI (pss_cons h r) fun E σ H ⟨F, ρ, S, q⟩ => ⟨F, ρ, S, by
  unfold seqS at q
  cases hg : g ρ with
  | nx ρ' => rw [hg] at q; exact fun σ' F' H' S' e => ⟨F', ρ', S', q.mono e⟩
  | rt d => rw [hg] at q; exact q
  | ro d => rw [hg] at q; exact q
  | bk d => rw [hg] at q; exact q
  | ct d => rw [hg] at q; exact q
  | ex d => rw [hg] at q; exact q
  | bad => rw [hg] at q; exact q⟩
theorem s_if {c : Expr} {a b : List Stmt} {tc : Rho → Res Bool} (hc : DT X A W c tc) (ha : DSs X A W a g) (hb : DSs X A W b k) : DS X A W (.If c a b pos) (ifS tc g k) := psI (ps_if hc ha hb) fun E σ H ⟨F, ρ, S, q⟩ => ⟨F, ρ, S, by
  unfold ifS thenS at q
  cases ht : tc ρ with
  | bad => rw [ht] at q; exact q
  | ex c => rw [ht] at q; exact q.pex S
  | ok b =>
    rw [ht] at q
    intro F' H' x
    cases b with
    | true => rw [if_pos rfl]; exact ⟨F', ρ, S.grow x, (show Po A W E F (g ρ) from q).mono x.up⟩
    | false => rw [if_neg Bool.false_ne_true]; exact ⟨F', ρ, S.grow x, (show Po A W E F (k ρ) from q).mono x.up⟩⟩
end

/-! ### for -/
def forL (t : Tg) (b : Rho → SO) : List D → Rho → SO
  | [], ρ => .nx ρ
  | x :: xs, ρ => match t.run x ρ with
    | .ok ρ1 => match b ρ1 with
      | .nx ρ2 => forL t b xs ρ2
      | .ct ρ2 => forL t b xs ρ2
      | .bk ρ2 => .nx ρ2
      | o => o
    | _ => .bad
def forS (fi : Rho → Res (List D)) (t : Tg) (b : Rho → SO) : Rho → SO := thenS fi fun ρ xs => forL t b xs ρ
section
variable [Wd] {X : Cx} {A : Amb} {W : WX} {pos : Pos}
theorem s_for {tg iter : Expr} {body : List Stmt} {fi : Rho → Res (List D)} {t : Tg} {g : TG} {b : Rho → SO} (hp : PassesOwn (model X.prog X.w) X.A X.env X.xe) (hc : X.calm = true) (hi : IF X A W tg iter fi) (hg : PG X tg g) (hs : TgSim t g) (hb : DSs X A W body b)
    (hf : ∀ x, foldedSetIterable iter X.env x = pure x := by intro _; rfl) : DS X A W (.For tg iter body [] pos) (forS fi t b) := psI (ps_for hp hc hi hg hb hf) fun E σ H ⟨F, ρ, S, q⟩ => ⟨F, ρ, S, by
  unfold forS thenS at q
  cases hf : fi ρ with
  | bad => rw [hf] at q; exact q
  | ex c => rw [hf] at q; exact q.pex S
  | ok xs =>
    rw [hf] at q
    intro J F1 H1 x1 J1 hz
    refine ⟨fun i m σ H => ∃ F' ρ', m = xs.length - i ∧ i ≤ xs.length ∧ Sim A F' H σ ρ' ∧ Same F1 F' ∧ Po A W E F (forL t b (xs.drop i) ρ'), ⟨xs.length, F1, ρ, by simp, Nat.zero_le _, S.grow x1, Same.refl _, by simpa using q⟩, ?_⟩
    rintro i m σ2 H2 ⟨F2, ρ2, rfl, hi, S2, e2, q2⟩
    obtain ⟨go, stop⟩ := J1 i F2 H2 e2 S2.le
    by_cases hlt : i < xs.length
    · obtain ⟨g1, g2⟩ := go xs[i] (List.getElem?_eq_getElem hlt)
      rw [List.drop_eq_getElem_cons hlt] at q2
      unfold forL at q2
      refine .inr ⟨g1, fun σ H => ∃ F' ρ', Sim A F' H σ ρ' ∧ Same F1 F' ∧ Po A W E F (forL t b (xs.drop (i + 1)) ρ'), fun σ' H' ⟨F', ρ', a1, a2, a3⟩ => ⟨xs.length - (i + 1), by omega, F', ρ', rfl, hlt, a1, a2, a3⟩, fun v H3 hy => ?_⟩
      obtain ⟨F3, x3, i3⟩ := g2 v H3 hy
      cases hr : t.run xs[i] ρ2 with
      | bad => rw [hr] at q2; exact q2.elim
      | ex c => rw [hr] at q2; exact q2.elim
      | ok ρ3 =>
        rw [hr] at q2
        have e3 : Same F1 F3 := e2.trans x3.up
        refine hs A F3 H3 _ _ ρ3 v _ _ (S2.grow x3) i3 hr fun σ3 S3 _ _ => ⟨F3, ρ3, S3, ?_⟩
        simp only at q2
        cases hbo : b ρ3 with
        | nx ρ4 => rw [hbo] at q2; exact fun σ4 F4 H4 S4 e4 => ⟨F4, ρ4, S4, e3.trans e4, q2⟩
        | ct ρ4 => rw [hbo] at q2; exact fun σ4 F4 H4 S4 e4 => ⟨F4, ρ4, S4, e3.trans e4, q2⟩
        | bk ρ4 => rw [hbo] at q2; exact fun σ4 F4 H4 S4 e4 => q2 σ4 F4 H4 S4 ((x1.up.trans e3).trans e4)
        | rt d => rw [hbo] at q2; exact q2
        | ro d => rw [hbo] at q2; exact q2
        | ex d => rw [hbo] at q2; exact (show Po A W E F (.ex d) from q2).mono (x1.up.trans e3)
        | bad => rw [hbo] at q2; exact q2
    · have ei : i = xs.length := by omega
      subst ei
      rw [List.drop_length] at q2
      exact .inl ⟨stop (Nat.le_refl _), q2 σ2 F2 H2 S2 (x1.up.trans e2)⟩⟩
end

/-! ### while -/
def whileN (c : Rho → Res Bool) (b : Rho → SO) : Nat → Rho → Option SO
  | 0, _ => none
  | n + 1, ρ => match c ρ with
    | .ok true => match b ρ with
      | .nx ρ2 => whileN c b n ρ2
      | .ct ρ2 => whileN c b n ρ2
      | .bk ρ2 => some (.nx ρ2)
      | o => some o
    | .ok false => some (.nx ρ)
    | .ex c => some (.ex c)
    | .bad => some .bad
theorem whileN_succ {c : Rho → Res Bool} {b : Rho → SO} : ∀ {n : Nat} {ρ : Rho} {o : SO}, whileN c b n ρ = some o → whileN c b (n + 1) ρ = some o
  | 0, _, _, h => by cases h
  | n + 1, ρ, o, h => by
    unfold whileN at h ⊢
    cases hc : c ρ with
    | bad => rw [hc] at h; exact h
    | ex e => rw [hc] at h; exact h
    | ok t =>
      rw [hc] at h
      cases t with
      | false => exact h
      | true =>
        simp only at h ⊢
        cases hb : b ρ with
        | nx ρ2 => rw [hb] at h; exact whileN_succ h
        | ct ρ2 => rw [hb] at h; exact whileN_succ h
        | bk ρ2 => rw [hb] at h; exact h
        | rt d => rw [hb] at h; exact h
        | ro d => rw [hb] at h; exact h
        | ex d => rw [hb] at h; exact h
        | bad => rw [hb] at h; exact h
theorem whileN_le {c : Rho → Res Bool} {b : Rho → SO} {ρ : Rho} {o : SO} {n m : Nat} (h : whileN c b n ρ = some o) (hm : n ≤ m) : whileN c b m ρ = some o := by
  induction hm with
  | refl => exact h
  | step _ ih => exact whileN_succ ih
open Classical in
noncomputable def whileS (c : Rho → Res Bool) (b : Rho → SO) : Rho → SO := fun ρ => if h : ∃ o n, whileN c b n ρ = some o then h.choose else .bad
theorem whileS_of {c : Rho → Res Bool} {b : Rho → SO} {ρ : Rho} {o : SO} {n : Nat} (h : whileN c b n ρ = some o) : whileS c b ρ = o := by
  have he : ∃ o n, whileN c b n ρ = some o := ⟨o, n, h⟩
  unfold whileS
  rw [dif_pos he]
  obtain ⟨m, hm⟩ := he.choose_spec
  have h1 := whileN_le h (Nat.le_max_left n m)
  have h2 := whileN_le hm (Nat.le_max_right n m)
  exact Option.some.inj (h2.symm.trans h1)
theorem whileS_has {c : Rho → Res Bool} {b : Rho → SO} {ρ : Rho} : (∃ n, whileN c b n ρ = some (whileS c b ρ)) ∨ ((∀ n, whileN c b n ρ = none) ∧ whileS c b ρ = .bad) := by
  by_cases he : ∃ o n, whileN c b n ρ = some o
  · obtain ⟨o, n, h⟩ := he
    exact .inl ⟨n, by rw [whileS_of h]; exact h⟩
  · refine .inr ⟨fun n => ?_, dif_neg he⟩
    cases h : whileN c b n ρ with
    | none => rfl
    | some o => exact absurd ⟨o, n, h⟩ he
/-- one turn -/
theorem whileS_eq (c : Rho → Res Bool) (b : Rho → SO) (ρ : Rho) : whileS c b ρ = match c ρ with
    | .ok true => (match b ρ with
      | .nx ρ2 => whileS c b ρ2
      | .ct ρ2 => whileS c b ρ2
      | .bk ρ2 => .nx ρ2
      | o => o)
    | .ok false => .nx ρ
    | .ex c => .ex c
    | .bad => .bad := by
  have go : ∀ ρ2, (∀ n, whileN c b (n + 1) ρ = whileN c b n ρ2) → whileS c b ρ = whileS c b ρ2 := fun ρ2 h => by
    rcases whileS_has (c := c) (b := b) (ρ := ρ2) with ⟨n, hn⟩ | ⟨h1, h2⟩
    · exact whileS_of (n := n + 1) (by rw [h, hn])
    · rw [h2]
      rcases whileS_has (c := c) (b := b) (ρ := ρ) with ⟨n, hn⟩ | ⟨_, h2⟩
      · cases n with
        | zero => cases hn
        | succ n => rw [h, h1] at hn; cases hn
      · exact h2
  cases hc : c ρ with
  | bad => exact whileS_of (n := 1) (by unfold whileN; rw [hc])
  | ex e => exact whileS_of (n := 1) (by unfold whileN; rw [hc])
  | ok t =>
    cases t with
    | false => exact whileS_of (n := 1) (by unfold whileN; rw [hc])
    | true =>
      simp only
      cases hb : b ρ with
      | nx ρ2 => exact go ρ2 fun n => by conv => lhs; unfold whileN; rw [hc]; simp only [hb]
      | ct ρ2 => exact go ρ2 fun n => by conv => lhs; unfold whileN; rw [hc]; simp only [hb]
      | bk ρ2 => exact whileS_of (n := 1) (by unfold whileN; rw [hc]; simp only [hb])
      | rt d => exact whileS_of (n := 1) (by unfold whileN; rw [hc]; simp only [hb])
      | ro d => exact whileS_of (n := 1) (by unfold whileN; rw [hc]; simp only [hb])
      | ex d => exact whileS_of (n := 1) (by unfold whileN; rw [hc]; simp only [hb])
      | bad => exact whileS_of (n := 1) (by unfold whileN; rw [hc]; simp only [hb])
section
variable [Wd] {X : Cx} {A : Amb} {W : WX} {pos : Pos}
theorem s_while {c : Expr} {body : List Stmt} {tc : Rho → Res Bool} {b : Rho → SO} (hp : PassesOwn (model X.prog X.w) X.A X.env X.xe) (hc : DT X A W c tc) (hb : DSs X A W body b) : DS X A W (.While c body [] pos) (whileS tc b) := psI (ps_while hp hc hb) fun E σ H ⟨F, ρ, S, q⟩ => by
  rcases whileS_has (c := tc) (b := b) (ρ := ρ) with ⟨n, hn⟩ | ⟨_, h2⟩
  · refine ⟨fun m σ H => ∃ F' ρ' o, Sim A F' H σ ρ' ∧ Same F F' ∧ whileN tc b m ρ' = some o ∧ Po A W E F o, ⟨n, F, ρ, _, S, Same.refl _, hn, q⟩, ?_⟩
    rintro m σ2 H2 ⟨F2, ρ2, o, S2, e2, h2, q2⟩
    cases m with
    | zero => cases h2
    | succ m =>
      unfold whileN at h2
      refine ⟨F2, ρ2, S2, ?_⟩
      cases ht : tc ρ2 with
      | bad => rw [ht] at h2; cases h2; exact q2
      | ex c => rw [ht] at h2; cases h2; exact Po.pex (E := E) S2 (Po.mono e2 q2)
      | ok t =>
        rw [ht] at h2
        intro F3 H3 x3
        cases t with
        | false =>
          rw [if_neg Bool.false_ne_true]
          cases h2
          exact q2 σ2 F3 H3 (S2.grow x3) (e2.trans x3.up)
        | true =>
          rw [if_pos rfl]
          simp only at h2
          refine ⟨fun σ H => ∃ F' ρ' o, Sim A F' H σ ρ' ∧ Same F F' ∧ whileN tc b m ρ' = some o ∧ Po A W E F o, fun σ' H' h => ⟨m, Nat.lt_succ_self _, h⟩, F3, ρ2, S2.grow x3, ?_⟩
          have e3 := e2.trans x3.up
          cases hbo : b ρ2 with
          | nx ρ4 => rw [hbo] at h2; exact fun σ4 F4 H4 S4 e4 => ⟨F4, ρ4, o, S4, e3.trans e4, h2, q2⟩
          | ct ρ4 => rw [hbo] at h2; exact fun σ4 F4 H4 S4 e4 => ⟨F4, ρ4, o, S4, e3.trans e4, h2, q2⟩
          | bk ρ4 => rw [hbo] at h2; cases h2; exact fun σ4 F4 H4 S4 e4 => q2 σ4 F4 H4 S4 (e3.trans e4)
          | rt d => rw [hbo] at h2; cases h2; exact q2
          | ro d => rw [hbo] at h2; cases h2; exact q2
          | ex d => rw [hbo] at h2; cases h2; exact (show Po A W E F (.ex d) from q2).mono e3
          | bad => rw [hbo] at h2; cases h2; exact q2
  · rw [h2] at q
    exact q.elim
end

/-! ### lists of one's own -/
def ownS (i : Nat) (k : List D → Rho → SO) : Rho → SO := fun ρ => match ρ[i]? with
  | some (some (.own xs)) => k xs ρ
  | _ => .bad
def appS (i : Nat) (f : Rho → Res D) : Rho → SO := ownS i fun xs => thenS f fun ρ d => if xs.length < sizeLine then .nx (ρ.set i (some (.own (xs ++ [d])))) else .bad
def extS (i : Nat) (f : Rho → Res D) : Rho → SO := ownS i fun xs => thenS f fun ρ d => match d with
  | .list ys => if xs.length + ys.length ≤ sizeLine then .nx (ρ.set i (some (.own (xs ++ ys)))) else .bad
  | _ => .bad
/-- what is one's own is rewritten -/
theorem Sim.putW [Wd] {A : Amb} {F H : Hp} {σ : L2.St} {ρ : Rho} {i : Nat} {p : Addr} {x y : B} {o : HO} (S : Sim A F H σ ρ) (h : ρ[i]? = some (some x)) (hx : x.isOwn = true) (hy : y.isOwn = true) (hv : σ[i]? = some (some (.ref p))) (hF : F p = none) (h0 : A.H0 p = none)
    (hb : Bd A F (upd H p o) (.ref p) y) : Sim A F (upd H p o) σ (ρ.set i (some y)) := by
  have hlt : i < ρ.length := (List.getElem?_eq_some_iff.mp h).1
  have back : ∀ {j : Nat}, i ≠ j → (ρ.set i (some y))[j]? = ρ[j]? := fun hj => List.getElem?_set_ne hj
  refine ⟨⟨S.ext.up, fun b o e => ?_, fun b o e => ?_, S.ext.new⟩, by simp [S.len], by simp [S.num], fun j b e => ?_, fun j k b c w hjk e1 e2 o1 o2 e3 e4 => ?_⟩
  · rw [upd_ne (ne_of_none e h0)]; exact S.ext.keep _ _ e
  · rw [upd_ne (ne_of_none e hF)]; exact S.le _ _ e
  · by_cases hj : i = j
    · subst hj
      rw [List.getElem?_set_self hlt] at e
      cases e
      exact ⟨_, hv, hb⟩
    · rw [back hj] at e
      obtain ⟨v, e1, e2⟩ := S.val j b e
      refine ⟨v, e1, ?_⟩
      cases ho : b.isOwn with
      | false => cases b with
        | d x => exact e2
        | raw => exact e2
        | _ => cases ho
      | true =>
        obtain ⟨q, ob, e3, hq, hq0, hqp⟩ := Bd.at ho e2
        subst e3
        have hne : q ≠ p := fun z => by
          subst z
          exact S.sep i j _ _ _ hj h e hx ho hv e1
        exact Bd.move ho e2 (Same.refl _) hq (upd_ne hne)
  · have old : ∀ {j : Nat} {b : B}, (ρ.set i (some y))[j]? = some (some b) → b.isOwn = true → ∃ b', ρ[j]? = some (some b') ∧ b'.isOwn = true := fun {j b} e o => by
      by_cases hj : i = j
      · subst hj; exact ⟨_, h, hx⟩
      · rw [back hj] at e; exact ⟨b, e, o⟩
    obtain ⟨b', f1, g1⟩ := old e1 o1
    obtain ⟨c', f2, g2⟩ := old e2 o2
    exact S.sep j k b' c' w hjk f1 f2 g1 g2 e3 e4
theorem Sim.put [Wd] {A : Amb} {F H : Hp} {σ : L2.St} {ρ : Rho} {i : Nat} {p : Addr} {xs ys : List D} {vs ws : List V} (S : Sim A F H σ ρ) (h : ρ[i]? = some (some (.own xs))) (hv : σ[i]? = some (some (.ref p))) (hF : F p = none) (h0 : A.H0 p = none) (hp : H p = some (.lst vs))
    (hz : ws.length ≤ sizeLine) (hi : IsA F ws ys) : Sim A F (upd H p (.lst ws)) σ (ρ.set i (some (.own ys))) :=
  S.putW (x := .own xs) (y := .own ys) h rfl rfl hv hF h0 ⟨p, ws, rfl, hF, h0, upd_same, hz, hi⟩
theorem own_of [Wd] {A : Amb} {W : WX} {E : Ends} {F : Hp} {ρ : Rho} {i : Nat} {k : List D → Rho → SO} (h : Po A W E F (ownS i k ρ)) : ∃ xs, ρ[i]? = some (some (.own xs)) ∧ Po A W E F (k xs ρ) := by
  unfold ownS at h
  cases hr : ρ[i]? with
  | none => rw [hr] at h; exact h.elim
  | some o =>
    rw [hr] at h
    cases o with
    | none => exact h.elim
    | some b =>
      cases b with
      | d x => exact h.elim
      | dct x => exact h.elim
      | raw => exact h.elim
      | own xs => exact ⟨xs, rfl, h⟩
section
variable [Wd] {X : Cx} {A : Amb} {W : WX} {e : Expr} {f : Rho → Res D}
/-- xs.append(e), xs in slot i -/
theorem s_append (i : Nat) {x : Str} {apos cpos p1 pos : Pos} (h : DE X A W e f) (hN : X.N[i]? = some x := by rfl) (hv : Vis X.env.scope x := by first | exact Or.inl rfl | exact Or.inr (Or.inl rfl) | exact Or.inr (Or.inr rfl)) (hd : (x == ("__debug__" : Str)) = false := by decide)
    (hcd : (x == ("__classdict__" : Str)) = false := by decide) (hbase : attributeBase (.Name x p1) "append" X.env (eval (.Name x p1) X.env) = eval (.Name x p1) X.env := by rfl)
    (hfew : ((backTo cpos (starEach (e :: []) X.env)).all (fun x => !x.1) && (backToKw cpos (keywordEach [] X.env)).all (fun x => x.1.isSome)
      && decide ((e :: []).length + ([] : List Keyword).length + (if ([] : List Keyword).isEmpty then 0 else 1) < 30)) = true := by rfl)
    (hline : (apos.endLine == cpos.line) = true := by rfl) (hs : starEach (e :: []) X.env = (false, eval e X.env) :: starEach [] X.env := by rfl) (hplain : (backTo cpos (starEach [] X.env)).any (·.1) = false := by rfl)
    (hsw : swapsWith (.Call (.Attribute (.Name x p1) "append" apos) [e] [] cpos) none pos.line X.env = pure false := by rfl) :
    DS X A W (.Expr (.Call (.Attribute (.Name x p1) "append" apos) [e] [] cpos) pos) (appS i f) :=
  psI (ps_expr (pe_bm PySem.F.plainAttrs_list PySem.F.slot_list_append PySem.F.type_list_append mt_append (pe_var hN hv hd hcd) (pa_cons h pa_nil hs) hbase hfew hline hs hplain) hsw) fun E σ H ⟨F, ρ, S, q⟩ => by
    unfold appS at q
    obtain ⟨xs, hr, q⟩ := own_of q
    obtain ⟨v, e1, p, vs, rfl, hF, h0, hp, hz, hA⟩ := S.val i _ hr
    refine ⟨_, e1, .inl ⟨rfl, _, .inl (.inl hp)⟩, F, ρ, S, ?_⟩
    unfold thenS at q
    cases hf : f ρ with
    | bad => rw [hf] at q; exact q
    | ex c => rw [hf] at q; exact Po.pex (E := E) S q
    | ok d =>
      rw [hf] at q
      simp only at q
      intro w F1 H1 x1 i1
      by_cases hl : xs.length < sizeLine
      · rw [if_pos hl] at q
        have hp1 := x1.keep _ _ hp
        have hl' : vs.length < sizeLine := by rw [hA.length]; exact hl
        refine ⟨p, vs, w, rfl, rfl, hp1, hl', ?_⟩
        exact q σ F1 _ ((S.grow x1).put hr e1 (x1.new _ _ hF hp) h0 hp1 (by rw [List.length_append]; exact hl') ((hA.mono x1.up).append (.cons i1 .nil))) x1.up
      · rw [if_neg hl] at q; exact q.elim
end
end DL

/-! The data layer, part 7: more statements on lists of one's own; calls; defs; raise. -/
namespace DL
open PySem PySem.Spec PyProof.Rows L2

section
variable [Wd] {X : Cx} {A : Amb} {W : WX} {e : Expr} {f : Rho → Res D}
theorem then_B {k : Rho → D → SO} {E : Ends} {σ : L2.St} {H : Hp} {Q : VK} (h : tS A W (thenS f k) E σ H)
    (i : ∀ F ρ d, Sim A F H σ ρ → Po A W E F (k ρ d) → ∀ v F' H', Ext F H F' H' → IsH F' H' v d → Q v H') : tB A W f σ H Q := by
  obtain ⟨F, ρ, S, q⟩ := h
  refine ⟨F, ρ, S, ?_⟩
  unfold thenS at q
  cases hf : f ρ with
  | bad => rw [hf] at q; exact q
  | ex c => rw [hf] at q; exact q.pex S
  | ok d => rw [hf] at q; exact i F ρ d S q
def rExtR : V → List V → Hp → VK → Prop := fun x vs H Q => ∃ l b xs zs, x = .ref l ∧ vs = [.ref b] ∧ H l = some (.lst xs) ∧ Rd H b (.lst zs) ∧ xs.length + zs.length ≤ sizeLine ∧ Q .non (upd H l (.lst (xs ++ zs)))
theorem mt_extR : MtM X "list.extend" rExtR := by
  intro pins s σ H x vs v us Q I rx rv h
  obtain ⟨l, b, xs, zs, rfl, rfl, hH, hB, hz, q⟩ := h
  cases rx
  obtain ⟨u, rfl, ru⟩ := rv.one
  cases ru
  obtain ⟨z, its, n, r, hl, e⟩ := I.lstM hH
  obtain ⟨z2, its2, n2, r2, hl2, e2⟩ := Inv.lstR I hB
  have hsz : its.toArray.size + its2.toArray.size ≤ sizeLine := by rw [List.size_toArray, List.size_toArray]; omega
  have hlong : ¬ (!its.toArray.isEmpty && Builtin.List.listTooLong (its.toArray.size + its2.toArray.size)) = true := by
    rw [notLongL hsz, Bool.and_false]
    exact Bool.false_ne_true
  refine call_meets F.slot_list_extend ⟨_, e, rfl⟩ F.entry_list_extend (F.args_list_extend_2 _ _)
    (AutoSeq1.list_extend_list_list_0 l its.toArray n b its2.toArray n2 hlong (by rw [List.size_toArray]; omega) (by omega)) ⟨e, e2, ?_⟩
  refine ⟨.non, _, I.lset (its' := its ++ its2) hH e (by simp) (r.append r2) ?_, rfl, q⟩
  rw [List.length_append]
  omega
/-- xs.extend(e), xs in slot i -/
theorem s_extend (i : Nat) {x : Str} {apos cpos p1 pos : Pos} (h : BE X A W e f) (hN : X.N[i]? = some x := by rfl) (hv : Vis X.env.scope x := by first | exact Or.inl rfl | exact Or.inr (Or.inl rfl) | exact Or.inr (Or.inr rfl)) (hd : (x == ("__debug__" : Str)) = false := by decide)
    (hcd : (x == ("__classdict__" : Str)) = false := by decide) (hbase : attributeBase (.Name x p1) "extend" X.env (eval (.Name x p1) X.env) = eval (.Name x p1) X.env := by rfl)
    (hfew : ((backTo cpos (starEach (e :: []) X.env)).all (fun x => !x.1) && (backToKw cpos (keywordEach [] X.env)).all (fun x => x.1.isSome)
      && decide ((e :: []).length + ([] : List Keyword).length + (if ([] : List Keyword).isEmpty then 0 else 1) < 30)) = true := by rfl)
    (hline : (apos.endLine == cpos.line) = true := by rfl) (hs : starEach (e :: []) X.env = (false, eval e X.env) :: starEach [] X.env := by rfl) (hplain : (backTo cpos (starEach [] X.env)).any (·.1) = false := by rfl)
    (hsw : swapsWith (.Call (.Attribute (.Name x p1) "extend" apos) [e] [] cpos) none pos.line X.env = pure false := by rfl) :
    DS X A W (.Expr (.Call (.Attribute (.Name x p1) "extend" apos) [e] [] cpos) pos) (extS i f) :=
  psI (ps_expr (pe_bm PySem.F.plainAttrs_list PySem.F.slot_list_extend PySem.F.type_list_extend mt_extR (pe_var hN hv hd hcd) (pa_cons h pa_nil hs) hbase hfew hline hs hplain) hsw) fun E σ H ⟨F, ρ, S, q⟩ => by
    unfold extS at q
    obtain ⟨xs, hr, q⟩ := own_of q
    obtain ⟨v, e1, p, vs, rfl, hF, h0, hp, hz, hA⟩ := S.val i _ hr
    refine ⟨_, e1, .inl ⟨rfl, _, .inl (.inl hp)⟩, F, ρ, S, ?_⟩
    unfold thenS at q
    cases hf : f ρ with
    | bad => rw [hf] at q; exact q
    | ex c => rw [hf] at q; exact Po.pex (E := E) S q
    | ok d =>
      rw [hf] at q
      simp only at q
      intro w F1 H1 x1 i1
      cases d with
      | list ys =>
        simp only at q
        by_cases hl : xs.length + ys.length ≤ sizeLine
        · rw [if_pos hl] at q
          have hp1 := x1.keep _ _ hp
          obtain ⟨p', ws, rfl, hp', z', t'⟩ := i1.list x1.le
          have hl' : vs.length + ws.length ≤ sizeLine := by rw [hA.length, t'.length]; exact hl
          refine ⟨p, p', vs, ws, rfl, rfl, hp1, hp', hl', ?_⟩
          exact q σ F1 _ ((S.grow x1).put hr e1 (x1.new _ _ hF hp) h0 hp1 (by rw [List.length_append]; exact hl') ((hA.mono x1.up).append t')) x1.up
        · rw [if_neg hl] at q; exact q.elim
      | _ => exact q.elim
end

/-! ### expressions that change a list of one's own -/
def tE [Wd] (A : Amb) (W : WX) (f : Rho → Res (D × Rho)) : TE := fun σ H Q => ∃ F ρ, Sim A F H σ ρ ∧ match f ρ with
  | .ok r => ∀ v F' H', Sim A F' H' σ r.2 → Same F F' → Is F' v r.1 → Q v H'
  | .ex c => Pex A W F H σ c
  | .bad => False
abbrev EE [Wd] (X : Cx) (A : Amb) (W : WX) (e : Expr) (f : Rho → Res (D × Rho)) : Prop := PE X e (tE A W f)
def ownR {α : Type} (i : Nat) (k : List D → Rho → Res α) : Rho → Res α := fun ρ => match ρ[i]? with
  | some (some (.own xs)) => k xs ρ
  | _ => .bad
def popD (i : Nat) : Rho → Res (D × Rho) := ownR i fun xs ρ => (Res.of xs.getLast?).map fun y => (y, ρ.set i (some (.own xs.dropLast)))
def popAtD (i : Nat) (f : Rho → Res D) : Rho → Res (D × Rho) := ownR i fun xs ρ => (f ρ).bind fun d => match d with
  | .int k => if 0 ≤ k then (Res.of xs[k.toNat]?).map fun y => (y, ρ.set i (some (.own (xs.eraseIdx k.toNat)))) else .bad
  | _ => .bad
section
variable [Wd] {X : Cx} {A : Amb} {W : WX} {e : Expr} {f : Rho → Res D}
theorem ownR_of {α : Type} {ρ : Rho} {i : Nat} {k : List D → Rho → Res α} (h : ownR i k ρ ≠ .bad) : ∃ xs, ρ[i]? = some (some (.own xs)) ∧ ownR i k ρ = k xs ρ := by
  unfold ownR at h ⊢
  cases hr : ρ[i]? with
  | none => rw [hr] at h; exact absurd rfl h
  | some o =>
    rw [hr] at h
    cases o with
    | none => exact absurd rfl h
    | some b =>
      cases b with
      | d x => exact absurd rfl h
      | dct x => exact absurd rfl h
      | raw => exact absurd rfl h
      | own xs => exact ⟨xs, rfl, rfl⟩
theorem e_popAt (i : Nat) {x : Str} {apos cpos p1 : Pos} (h : BE X A W e f) (hN : X.N[i]? = some x := by rfl) (hv : Vis X.env.scope x := by first | exact Or.inl rfl | exact Or.inr (Or.inl rfl) | exact Or.inr (Or.inr rfl)) (hd : (x == ("__debug__" : Str)) = false := by decide)
    (hcd : (x == ("__classdict__" : Str)) = false := by decide) (hbase : attributeBase (.Name x p1) "pop" X.env (eval (.Name x p1) X.env) = eval (.Name x p1) X.env := by rfl)
    (hfew : ((backTo cpos (starEach (e :: []) X.env)).all (fun x => !x.1) && (backToKw cpos (keywordEach [] X.env)).all (fun x => x.1.isSome)
      && decide ((e :: []).length + ([] : List Keyword).length + (if ([] : List Keyword).isEmpty then 0 else 1) < 30)) = true := by rfl)
    (hline : (apos.endLine == cpos.line) = true := by rfl) (hs : starEach (e :: []) X.env = (false, eval e X.env) :: starEach [] X.env := by rfl) (hplain : (backTo cpos (starEach [] X.env)).any (·.1) = false := by rfl) :
    EE X A W (.Call (.Attribute (.Name x p1) "pop" apos) [e] [] cpos) (popAtD i f) :=
  peI (pe_bm PySem.F.plainAttrs_list PySem.F.slot_list_pop PySem.F.type_list_pop mt_popAt (pe_var hN hv hd hcd) (pa_cons h pa_nil hs) hbase hfew hline hs hplain) fun σ H Q ⟨F, ρ, S, q⟩ => by
    unfold popAtD at q
    obtain ⟨xs, hr, eq⟩ := ownR_of fun z => by rw [z] at q; exact q
    rw [eq] at q
    obtain ⟨v, e1, p, vs, rfl, hF, h0, hp, hz, hA⟩ := S.val i _ hr
    refine ⟨_, e1, .inl ⟨rfl, _, .inl (.inl hp)⟩, F, ρ, S, ?_⟩
    cases hf : f ρ with
    | bad => rw [hf] at q; exact q
    | ex c => rw [hf] at q; exact q
    | ok d =>
      rw [hf] at q
      simp only [Res.bind_ok] at q
      intro w F1 H1 x1 i1
      cases d with
      | int k =>
        simp only at q
        by_cases hk : 0 ≤ k
        · rw [if_pos hk] at q
          cases hg : xs[k.toNat]? with
          | none => rw [hg] at q; exact q.elim
          | some y =>
            rw [hg] at q
            simp only [Res.of_some, Res.map_ok] at q
            cases i1.int
            have hp1 := x1.keep _ _ hp
            have hA1 := hA.mono x1.up
            obtain ⟨w, hw, iw⟩ := hA1.get hg
            have hlt : k.toNat < vs.length := (List.getElem?_eq_some_iff.mp hw).1
            have hl : sizeLine = 16777216 := sizeLine_eq
            refine ⟨p, vs, k, k.toNat, w, rfl, rfl, hp1, by omega, by omega, PySem.StrLaws.seqIndex_nonneg hk (by omega), hw, ?_⟩
            exact q w F1 _ ((S.grow x1).put hr e1 (x1.new _ _ hF hp) h0 hp1 (Nat.le_trans (len_erase _ _) hz) (hA1.eraseIdx _)) x1.up iw
        · rw [if_neg hk] at q; exact q.elim
      | _ => exact q.elim
theorem e_pop (i : Nat) {x : Str} {apos cpos p1 : Pos} (hN : X.N[i]? = some x := by rfl) (hv : Vis X.env.scope x := by first | exact Or.inl rfl | exact Or.inr (Or.inl rfl) | exact Or.inr (Or.inr rfl)) (hd : (x == ("__debug__" : Str)) = false := by decide)
    (hcd : (x == ("__classdict__" : Str)) = false := by decide) (hbase : attributeBase (.Name x p1) "pop" X.env (eval (.Name x p1) X.env) = eval (.Name x p1) X.env := by rfl)
    (hline : (apos.endLine == cpos.line) = true := by rfl) :
    EE X A W (.Call (.Attribute (.Name x p1) "pop" apos) [] [] cpos) (popD i) :=
  peI (pe_bm0 PySem.F.plainAttrs_list PySem.F.slot_list_pop PySem.F.type_list_pop mt_pop (pe_var hN hv hd hcd) hbase hline) fun σ H Q ⟨F, ρ, S, q⟩ => by
    unfold popD at q
    obtain ⟨xs, hr, eq⟩ := ownR_of fun z => by rw [z] at q; exact q
    rw [eq] at q
    obtain ⟨v, e1, p, vs, rfl, hF, h0, hp, hz, hA⟩ := S.val i _ hr
    refine ⟨_, e1, .inl ⟨rfl, _, .inl (.inl hp)⟩, ?_⟩
    cases hg : xs.getLast? with
    | none => rw [hg] at q; exact q.elim
    | some y =>
      rw [hg] at q
      simp only [Res.of_some, Res.map_ok] at q
      rw [List.getLast?_eq_getElem?] at hg
      obtain ⟨w, hw, iw⟩ := hA.get hg
      rw [← hA.length] at hw
      refine ⟨p, vs, w, rfl, rfl, hp, hw, ?_⟩
      exact q w F _ (S.put hr e1 hF h0 hp (by rw [List.length_dropLast]; omega) hA.dropLast) (Same.refl _) iw
end
def thenE (f : Rho → Res (D × Rho)) (k : Rho → D → SO) : Rho → SO := fun ρ => match f ρ with
  | .ok r => k r.2 r.1
  | .ex c => .ex c
  | .bad => .bad
section
variable [Wd] {X : Cx} {A : Amb} {W : WX} {e : Expr} {f : Rho → Res (D × Rho)} {pos : Pos}
theorem then_E {k : Rho → D → SO} {E : Ends} {σ : L2.St} {H : Hp} {Q : VK} (h : tS A W (thenE f k) E σ H)
    (i : ∀ F ρ d, Po A W E F (k ρ d) → ∀ v F' H', Sim A F' H' σ ρ → Same F F' → Is F' v d → Q v H') : tE A W f σ H Q := by
  obtain ⟨F, ρ, S, q⟩ := h
  refine ⟨F, ρ, S, ?_⟩
  unfold thenE at q
  cases hf : f ρ with
  | bad => rw [hf] at q; exact q
  | ex c => rw [hf] at q; exact q.pex S
  | ok d => rw [hf] at q; exact i F d.2 d.1 q
def dropE (f : Rho → Res (D × Rho)) : Rho → SO := thenE f fun ρ _ => .nx ρ
def setE (i : Nat) (f : Rho → Res (D × Rho)) : Rho → SO := thenE f fun ρ d => .nx (ρ.set i (some (.d d)))
def tgtE (t : Tg) (f : Rho → Res (D × Rho)) : Rho → SO := thenE f fun ρ d => match t.run d ρ with
  | .ok ρ' => .nx ρ'
  | _ => .bad
theorem s_dropE (h : EE X A W e f) (hs : swapsWith e none pos.line X.env = pure false := by rfl) : DS X A W (.Expr e pos) (dropE f) := psI (ps_expr h hs) fun E σ H q => then_E q fun F ρ d q v F' H' S e i => q σ F' H' S e
theorem s_setE (i : Nat) {x : Str} {pos' : Pos} (hN : X.N.Nodup) (h : EE X A W e f) (hi : X.N[i]? = some x := by rfl) (hx : Loc X.env.scope x := by first | exact Or.inl rfl | exact Or.inr rfl) (hs : swapsWith e (some (.Name x pos')) pos.line X.env = pure false := by rfl)
    (hf : X.fn x = true ∨ X.env.scope.names.lookup x = some .local := by first | exact .inl rfl | exact .inr rfl | assumption) : DS X A W (.Assign [.Name x pos'] e pos) (setE i f) :=
  psI (ps_set hN hi hx h hs hf) fun E σ H q => then_E q fun F ρ d q v F' H' S e i => q _ F' H' (S.setD i) e
theorem s_tgtE {tg : Expr} {t : Tg} {g : TG} (h : EE X A W e f) (hg : PG X tg g) (hs : TgSim t g) (h0 : swapsWithSole [tg] e pos.line X.env = pure false := by rfl) (hw : swappedStores [tg] e X.env = pure none := by rfl)
    (h1 : (assignEach [tg] X.env).map (·.2) = [assign tg X.env] := by rfl) : DS X A W (.Assign [tg] e pos) (tgtE t f) :=
  psI (ps_asg h hg h0 hw h1) fun E σ H q => then_E q fun F ρ d q v F' H' S e i => by
    cases hr : t.run d ρ with
    | ok ρ' => rw [hr] at q; exact hs A F' H' σ ρ ρ' v d _ S i hr fun σ' S' _ _ => q σ' F' H' S' e
    | ex c => rw [hr] at q; exact q.elim
    | bad => rw [hr] at q; exact q.elim
def appE (i : Nat) (f : Rho → Res (D × Rho)) : Rho → SO := thenE f fun ρ d => match ρ[i]? with
  | some (some (.own xs)) => if xs.length < sizeLine then .nx (ρ.set i (some (.own (xs ++ [d])))) else .bad
  | _ => .bad
/-- n += e of ints -/
def augS (i : Nat) (f : Rho → Res D) : Rho → SO := fun ρ => match ρ[i]? with
  | some (some (.d (.int a))) => thenS f (fun ρ d => match d with
    | .int b => .nx (ρ.set i (some (.d (.int (a + b)))))
    | _ => .bad) ρ
  | _ => .bad
theorem s_aug (i : Nat) {x : Str} {fd : Rho → Res D} {pos' : Pos} (hN : X.N.Nodup) (h : DE X A W e fd) (hi : X.N[i]? = some x := by rfl) (hx : Loc X.env.scope x := by first | exact Or.inl rfl | exact Or.inr rfl)
    (hf : X.fn x = true ∨ X.env.scope.names.lookup x = some .local := by first | exact .inl rfl | exact .inr rfl | assumption) : DS X A W (.AugAssign (.Name x pos') .Add e pos) (augS i fd) :=
  psI (ps_aug hN hi hx h ip_add hf) fun E σ H ⟨F, ρ, S, q⟩ => by
    unfold augS at q
    split at q
    · rename_i a hr
      obtain ⟨v, e1, e2⟩ := S.val i _ hr
      have e2' : Is F v (.int a) := e2
      cases e2'
      refine ⟨_, e1, F, ρ, S, ?_⟩
      unfold thenS at q
      cases hf : fd ρ with
      | bad => rw [hf] at q; exact q
      | ex c => rw [hf] at q; exact Po.pex (E := E) S q
      | ok d =>
        rw [hf] at q
        intro w F1 H1 x1 i1
        cases d with
        | int b =>
          cases i1
          exact ⟨a, b, rfl, rfl, q _ F1 H1 ((S.grow x1).setD (.int _)) x1.up⟩
        | _ => exact q.elim
    · exact q.elim
end

/-! ### calls -/
inductive RO where
  | rt (d : D)
  | ro (xs : List D)
  | ex (c : Exc)
  | bad
/-- a def's promise by data -/
def spD [Wd] (Z : String → Addr → Prop) (n : Nat) (f : List D → RO) : Sp := fun vs H Q E => ∃ F ds, vs.length = n ∧ Same F H ∧ IsA F vs ds ∧ match f ds with
  | .rt d => ∀ v F' H', Ext F H F' H' → Is F' v d → Q v H'
  | .ro xs => ∀ p us F' H', Ext F H F' H' → F' p = none → H p = none → H' p = some (.lst us) → us.length ≤ sizeLine → IsA F' us xs → Q (.ref p) H'
  | .ex c => ∀ cls dd F' H', Ext F H F' H' → Zx Z c cls dd F' → E cls dd H'
  | .bad => False
def RO.res : RO → Res D
  | .rt d => .ok d
  | .ro xs => .ok (.list xs)
  | .ex c => .ex c
  | .bad => .bad
def RO.own : RO → Res (List D)
  | .ro xs => .ok xs
  | .ex c => .ex c
  | _ => .bad
def callR (n : Nat) (f : List D → RO) (g : Rho → Res (List D)) : Rho → Res D := fun ρ => (g ρ).bind fun ds => if ds.length = n then (f ds).res else .bad
def callO (n : Nat) (f : List D → RO) (g : Rho → Res (List D)) : Rho → Res (List D) := fun ρ => (g ρ).bind fun ds => if ds.length = n then (f ds).own else .bad
section
variable [Wd] {X : Cx} {A : Amb} {W : WX} {k : Nat} {f : Addr} {fd : FuncData} {ps : List Str} {x : Str} {p pos : Pos} {e : Expr} {es : List Expr} {g : Rho → Res (List D)} {fD : List D → RO}
theorem call_D {σ : L2.St} {H : Hp} {Q : VK} {n : Nat} (h : tD A W (callR n fD g) σ H Q) : tCallS (spD A.Z n fD) (WE W) (tAs A W g) σ H Q := by
  obtain ⟨F, ρ, S, q⟩ := h
  refine ⟨F, ρ, S, ?_⟩
  unfold callR at q
  cases hf : g ρ with
  | bad => rw [hf] at q; exact q
  | ex c => rw [hf] at q; exact q
  | ok ds =>
    rw [hf] at q
    simp only [Res.bind_ok] at q
    intro vs F1 H1 x1 i1
    by_cases hn : ds.length = n
    · rw [if_pos hn] at q
      refine ⟨F1, ds, by rw [i1.length]; exact hn, x1.le, i1, ?_⟩
      cases ho : fD ds with
      | rt d => rw [ho] at q; exact fun v F2 H2 x2 i2 => q v F2 H2 (x1.trans x2) i2
      | ro xs => rw [ho] at q; exact fun p us F2 H2 x2 h1 h2 h3 h4 h5 => frozen q (x1.trans x2) h1 (Same.free x1.keep h2) h3 h4 h5
      | ex c => rw [ho] at q; exact fun cls dd F2 H2 x2 z => q cls dd F2 H2 (x1.trans x2) z
      | bad => rw [ho] at q; exact q
    · rw [if_neg hn] at q; exact q.elim
theorem call_O {σ : L2.St} {H : Hp} {Q : VK} {n : Nat} (h : tO A W (callO n fD g) σ H Q) : tCallS (spD A.Z n fD) (WE W) (tAs A W g) σ H Q := by
  obtain ⟨F, ρ, S, q⟩ := h
  refine ⟨F, ρ, S, ?_⟩
  unfold callO at q
  cases hf : g ρ with
  | bad => rw [hf] at q; exact q
  | ex c => rw [hf] at q; exact q
  | ok ds =>
    rw [hf] at q
    simp only [Res.bind_ok] at q
    intro vs F1 H1 x1 i1
    by_cases hn : ds.length = n
    · rw [if_pos hn] at q
      refine ⟨F1, ds, by rw [i1.length]; exact hn, x1.le, i1, ?_⟩
      cases ho : fD ds with
      | rt d => rw [ho] at q; exact q.elim
      | ro xs => rw [ho] at q; exact fun p us F2 H2 x2 h1 h2 h3 h4 h5 => q p us F2 H2 (x1.trans x2) h1 (Same.free x1.keep h2) h3 h4 h5
      | ex c => rw [ho] at q; exact fun cls dd F2 H2 x2 z => q cls dd F2 H2 (x1.trans x2) z
      | bad => rw [ho] at q; exact q
    · rw [if_neg hn] at q; exact q.elim
/-- a def of the text as it stands, its promise by data -/
structure DefD (P : Program) (w : World) (K : PySem.W.Frag) (mg : Str → Option Value) (base : Heap) (Z : String → Addr → Prop) (k : Nat) (x : Str) (ps : List Str) (fD : List D → RO) : Prop where
  ex : ∃ f fd, FnOk P w K mg base (L2.CX P w) k f fd ps (spD Z ps.length fD) ∧ mg x = some (.ref f) ∧ PySem.W.keepIn K (.ref f) = true ∧ Binds K fd ps [] ∧ ∃ oc od osl, K.lookup f = some ⟨oc, od, .func fd, osl⟩
theorem d_call {n : Nat} (G : DefD X.prog X.w X.K X.mg X.base A.Z k x ps fD) (tk : Takes X W) (hr : Room k X.A) (ha : DAs X A W (e :: es) g)
    (hg : Gl X x := by rfl) (hdb : (x == ("__debug__" : Str)) = false := by decide) (he : starEach (e :: es) X.env = (false, eval e X.env) :: starEach es X.env := by rfl) (hpl : (backTo pos (starEach es X.env)).any (·.1) = false := by rfl) (hn : ps.length = n := by rfl) :
    DE X A W (.Call (.Name x p) (e :: es) [] pos) (callR n fD g) := by
  subst hn
  obtain ⟨f, fd, G, hm, hk, hb, _⟩ := G.ex
  exact peI (pe_callS G hr hg hm hk hb (fun σ => passAt tk σ) ha hdb he hpl) fun σ H Q h => call_D h
theorem o_call {n : Nat} (G : DefD X.prog X.w X.K X.mg X.base A.Z k x ps fD) (tk : Takes X W) (hr : Room k X.A) (ha : DAs X A W (e :: es) g)
    (hg : Gl X x := by rfl) (hdb : (x == ("__debug__" : Str)) = false := by decide) (he : starEach (e :: es) X.env = (false, eval e X.env) :: starEach es X.env := by rfl) (hpl : (backTo pos (starEach es X.env)).any (·.1) = false := by rfl) (hn : ps.length = n := by rfl) :
    OE X A W (.Call (.Name x p) (e :: es) [] pos) (callO n fD g) := by
  subst hn
  obtain ⟨f, fd, G, hm, hk, hb, _⟩ := G.ex
  exact peI (pe_callS G hr hg hm hk hb (fun σ => passAt tk σ) ha hdb he hpl) fun σ H Q h => call_O h
end

/-! ### defs -/
def startR (N : Nat) (ds : List D) : Rho := ds.map (fun d => some (.d d)) ++ List.replicate (N - ds.length) none
def runD (N : Nat) (g : Rho → SO) (ds : List D) : RO := match g (startR N ds) with
  | .nx _ => .rt .none
  | .rt d => .rt d
  | .ro xs => .ro xs
  | .ex c => .ex c
  | _ => .bad
section
variable [Wd] {P : Program} {w : World} {K : PySem.W.Frag} {mg : Str → Option Value} {base : Heap} {Z : String → Addr → Prop}
theorem start_sim {F H : Hp} {N : List Str} {vs : List V} {ds : List D} (le : Same F H) (i : IsA F vs ds) (hl : vs.length ≤ N.length) : Sim ⟨F, H, Z, N.length, .non⟩ F H (L2.start N vs) (startR N.length ds) := by
  have own : ∀ {j : Nat} {b : B}, (startR N.length ds)[j]? = some (some b) → ∃ d, b = .d d ∧ ds[j]? = some d := fun {j b} e => by
    unfold startR at e
    by_cases hj : j < ds.length
    · rw [List.getElem?_append_left (by simpa using hj), List.getElem?_map] at e
      obtain ⟨d, h1, h2⟩ := Option.map_eq_some_iff.mp e
      cases h2
      exact ⟨d, rfl, h1⟩
    · rw [List.getElem?_append_right (by simpa using hj), List.getElem?_replicate] at e
      split at e <;> cases e
  refine ⟨.refl le, ?_, ?_, fun j b e => ?_, fun j k b c v _ e1 _ o1 => ?_⟩
  · unfold L2.start startR
    simp [i.length]
  · unfold startR
    rw [List.length_append, List.length_map, List.length_replicate, ← i.length]
    show vs.length + (N.length - vs.length) = N.length
    omega
  · obtain ⟨d, rfl, h⟩ := own e
    obtain ⟨v, hv, iv⟩ := i.get h
    refine ⟨v, ?_, iv⟩
    unfold L2.start
    rw [List.getElem?_append_left (by rw [List.length_map]; exact (List.getElem?_eq_some_iff.mp hv).1), List.getElem?_map, hv]
    rfl
  · obtain ⟨d, rfl, _⟩ := own e1
    cases o1
/-- THE RULE for a def: its body by data -/
theorem fn_D {x qual : Str} {st : Stmt} {f : Addr} {fd : FuncData} {N ps : List Str} {k : Nat} {g : Rho → SO} (hw : Wd.w = w) (F : Fun K x qual st f fd) (S : FnScope N ps (defScope st))
    (hbody : ∀ (cdv : Value) (A' : Around) (outer : List Env) (s : Shared) (H : Hp) (E : XK) (A : Amb), A.Z = Z → A.n = N.length → Wd.w = w → Room k (A'.deeper (envOfC qual (defScope st) s.heap.objs.size f cdv)) →
      Takes (cxOf (L2.CX P w) P w K mg base N qual (defScope st) f cdv A' outer s H E) (fun cls d _ H => E cls d H) →
      DSs (cxOf (L2.CX P w) P w K mg base N qual (defScope st) f cdv A' outer s H E) A (fun cls d _ H => E cls d H) (defBody st) g) :
    FnOk P w K mg base (L2.CX P w) (k + 1) f fd ps (spD Z ps.length (runD N.length g)) := by
  refine F.okX S (fun vs H Q E h => ?_) (fun cdv A outer s H vs Q E hr h => ?_)
  · obtain ⟨_, _, hl, _⟩ := h
    exact hl
  · obtain ⟨F0, ds, hl, le, ia, q⟩ := h
    have hN : ps.length ≤ N.length := by
      have := congrArg List.length S.pre
      rw [List.length_take] at this
      omega
    refine ⟨_, hbody cdv A outer s H E ⟨F0, H, Z, N.length, .non⟩ rfl rfl hw hr (takes_of rfl rfl rfl rfl), F0, startR N.length ds, start_sim le ia (by omega), ?_⟩
    unfold runD at q
    cases hg : g (startR N.length ds) with
    | nx ρ => rw [hg] at q; exact fun σ F' H' S' _ => q .non F' H' S'.ext .non
    | rt d => rw [hg] at q; exact q
    | ro xs => rw [hg] at q; exact q
    | ex c => rw [hg] at q; exact fun σ cls dd F' H' x _ _ z => q cls dd F' H' x z
    | bk ρ => rw [hg] at q; exact q.elim
    | ct ρ => rw [hg] at q; exact q.elim
    | bad => rw [hg] at q; exact q.elim
end

/-! ### raise of an own class without __init__ -/
def raiseS (c : String) : Rho → SO := fun _ => .ex ⟨c, none⟩
section
variable [Wd] {X : Cx} {A : Amb} {W : WX} {C : Addr} {bmB : List Value} {B newId initId : String} {pos : Pos}
/-- code that is never come to -/
def never : Rho → SO := fun _ => .bad
theorem s_never {st : Stmt} : DS X A W st never := psI ps_never fun E σ H ⟨F, ρ, S, h⟩ => h
theorem ss_never {st : List Stmt} : DSs X A W st never := pssI pss_never fun E σ H ⟨F, ρ, S, h⟩ => h
end
end DL

/-! The data layer, part 8: freezing, lending, in, sorted, enumerate. -/
namespace DL
open PySem PySem.Spec PyProof.Rows L2

/-! ### freezing -/
def frzAt (i : Nat) (ρ : Rho) : Rho := match ρ[i]? with
  | some (some (.own xs)) => ρ.set i (some (.d (.list xs)))
  | _ => ρ
theorem Sim.frz0 [Wd] {A : Amb} {F H : Hp} {σ : L2.St} {ρ : Rho} (S : Sim A F H σ ρ) (i : Nat) : ∃ F', Ext F F F' H ∧ Ext F H F' H ∧ Sim A F' H σ (DL.frzAt i ρ) ∨ (∃ xs, ρ[i]? = some (some (.own xs)) ∧ Ext F F F' H ∧ Sim A F' H σ (DL.frzAt i ρ)) := by
  unfold DL.frzAt
  cases hr : ρ[i]? with
  | none => exact ⟨F, .inl ⟨⟨Same.refl _, S.le, S.le, fun p o e e2 => by rw [e] at e2; cases e2⟩, .refl S.le, S⟩⟩
  | some o =>
    cases o with
    | none => exact ⟨F, .inl ⟨⟨Same.refl _, S.le, S.le, fun p o e e2 => by rw [e] at e2; cases e2⟩, .refl S.le, S⟩⟩
    | some b =>
      cases b with
      | d x => exact ⟨F, .inl ⟨⟨Same.refl _, S.le, S.le, fun p o e e2 => by rw [e] at e2; cases e2⟩, .refl S.le, S⟩⟩
      | dct x => exact ⟨F, .inl ⟨⟨Same.refl _, S.le, S.le, fun p o e e2 => by rw [e] at e2; cases e2⟩, .refl S.le, S⟩⟩
      | raw => exact ⟨F, .inl ⟨⟨Same.refl _, S.le, S.le, fun p o e e2 => by rw [e] at e2; cases e2⟩, .refl S.le, S⟩⟩
      | own xs =>
        obtain ⟨F', x, S'⟩ := S.freeze hr
        exact ⟨F', .inr ⟨xs, rfl, x, S'⟩⟩
theorem Sim.frz [Wd] {A : Amb} {F H : Hp} {σ : L2.St} {ρ : Rho} (S : Sim A F H σ ρ) (i : Nat) : ∃ F', Same F F' ∧ Sim A F' H σ (DL.frzAt i ρ) := by
  obtain ⟨F', h⟩ := S.frz0 i
  rcases h with ⟨x, _, S'⟩ | ⟨_, _, x, S'⟩
  · exact ⟨F', x.up, S'⟩
  · exact ⟨F', x.up, S'⟩
section
variable [Wd] {X : Cx} {A : Amb} {W : WX}
/-- the list in slot i is frozen ahead of the statement -/
theorem s_frz (i : Nat) {st : Stmt} {g : Rho → SO} (h : DS X A W st g) : DS X A W st (fun ρ => g (frzAt i ρ)) := psI h fun E σ H ⟨F, ρ, S, q⟩ => by
  obtain ⟨F', x, S'⟩ := S.frz i
  exact ⟨F', _, S', q.mono x⟩
end

/-! ### lending -/
mutual
/-- data without lists -/
def flat : D → Bool
  | .list _ => false
  | .tuple xs => flatA xs
  | .dict _ => false
  | _ => true
def flatA : List D → Bool
  | [] => true
  | x :: xs => flat x && flatA xs
end
/-- the frozen heap without a list -/
def without (F : Hp) (p : Addr) : Hp := fun b => if b = p then none else F b
theorem without_ne {F : Hp} {p b : Addr} (h : b ≠ p) : without F p b = F b := if_neg h
theorem without_self {F : Hp} {p : Addr} : without F p p = none := if_pos rfl
mutual
theorem Is.without [Wd] {F : Hp} {p : Addr} {ws : List V} (hp : F p = some (.lst ws)) : ∀ (d : D) (v : V), Is F v d → flat d = true → Is (without F p) v d
  | .none, _, h, _ => by cases h; exact .non
  | .bool b, _, h, _ => by cases h; exact .bl b
  | .int b, _, h, _ => by cases h; exact .int b
  | .str b, _, h, _ => by cases h; exact .str b
  | .list _, _, _, e => by simp [flat] at e
  | .dict _, _, _, e => by simp [flat] at e
  | .tuple ds, _, h, e => by
    have e' : flatA ds = true := by simpa [flat] using e
    cases h with
    | tup h z t =>
      rename_i a _
      have ha : a ≠ p := fun z => by
        subst z
        rcases h with h | ⟨o, h⟩ <;> (rw [hp] at h; cases h)
      refine .tup ?_ z (IsA.without hp ds _ t e')
      rcases h with h | ⟨o, h⟩
      · exact .inl (by rw [without_ne ha]; exact h)
      · exact .inr ⟨o, by rw [without_ne ha]; exact h⟩
theorem IsA.without [Wd] {F : Hp} {p : Addr} {ws : List V} (hp : F p = some (.lst ws)) : ∀ (ds : List D) (vs : List V), IsA F vs ds → flatA ds = true → IsA (without F p) vs ds
  | [], _, h, _ => by cases h; exact .nil
  | d :: ds, _, h, e => by
    rw [flatA, Bool.and_eq_true] at e
    cases h with
    | cons h t => exact .cons (Is.without hp d _ h e.1) (IsA.without hp ds _ t e.2)
end
theorem Zx.without {Z : String → Addr → Prop} {c : Exc} {cls : Value} {dd : Option Addr} {F : Hp} {p : Addr} {ws : List V} (hp : F p = some (.lst ws)) (h : Zx Z c cls dd F) : Zx Z c cls dd (DL.without F p) := by
  obtain ⟨C, h1, h2, h3⟩ := h
  refine ⟨C, h1, h2, ?_⟩
  cases hc : c.num with
  | none => rw [hc] at h3; exact h3
  | some n =>
    rw [hc] at h3
    obtain ⟨d, e, hd⟩ := h3
    have : d ≠ p := fun z => by rw [z, hp] at hd; cases hd
    exact ⟨d, e, by rw [without_ne this]; exact hd⟩
def lendD (i : Nat) (f : Rho → Res D) : Rho → Res D := fun ρ => match ρ[i]? with
  | some (some (.own _)) => (f (frzAt i ρ)).bind fun d => if flat d = true then .ok d else .bad
  | _ => f ρ
def lendO (i : Nat) (f : Rho → Res (List D)) : Rho → Res (List D) := fun ρ => match ρ[i]? with
  | some (some (.own _)) => (f (frzAt i ρ)).bind fun d => if flatA d = true then .ok d else .bad
  | _ => f ρ
theorem own_or (ρ : Rho) (i : Nat) : (∃ xs, ρ[i]? = some (some (.own xs))) ∨ ∀ xs, ρ[i]? ≠ some (some (.own xs)) := by
  by_cases h : ∃ xs, ρ[i]? = some (some (.own xs))
  · exact .inl h
  · exact .inr fun xs e => h ⟨xs, e⟩
theorem lendD_own {i : Nat} {f : Rho → Res D} {ρ : Rho} {xs : List D} (h : ρ[i]? = some (some (.own xs))) : lendD i f ρ = (f (frzAt i ρ)).bind fun d => if flat d = true then .ok d else .bad := by
  unfold lendD; rw [h]
theorem lendO_own {i : Nat} {f : Rho → Res (List D)} {ρ : Rho} {xs : List D} (h : ρ[i]? = some (some (.own xs))) : lendO i f ρ = (f (frzAt i ρ)).bind fun d => if flatA d = true then .ok d else .bad := by
  unfold lendO; rw [h]
theorem lendD_no {i : Nat} {f : Rho → Res D} {ρ : Rho} (h : ∀ xs, ρ[i]? ≠ some (some (.own xs))) : lendD i f ρ = f ρ := by
  unfold lendD
  split
  · rename_i xs e; exact absurd e (h xs)
  · rfl
theorem lendO_no {i : Nat} {f : Rho → Res (List D)} {ρ : Rho} (h : ∀ xs, ρ[i]? ≠ some (some (.own xs))) : lendO i f ρ = f ρ := by
  unfold lendO
  split
  · rename_i xs e; exact absurd e (h xs)
  · rfl
/-- a list is frozen for a while -/
theorem Sim.lend [Wd] {A : Amb} {F H : Hp} {σ : L2.St} {ρ : Rho} {i : Nat} {xs : List D} (S : Sim A F H σ ρ) (hr : ρ[i]? = some (some (.own xs))) :
    ∃ F1 p ws, F p = none ∧ Same F F1 ∧ F1 p = some (.lst ws) ∧ Sim A F1 H σ (frzAt i ρ) ∧ ∀ F2 H2, Ext F1 H F2 H2 → Ext F H (DL.without F2 p) H2 ∧ F2 p = some (.lst ws) := by
  obtain ⟨v, e1, p, vs, rfl, hf, h0, hp, hz, hA⟩ := S.val i _ hr
  have S' : Sim A (upd F p (.lst vs)) H σ (frzAt i ρ) := by
    have e : DL.frzAt i ρ = ρ.set i (some (.d (.list xs))) := by unfold DL.frzAt; rw [hr]
    rw [e]
    refine ⟨S.ext.freeze hf h0 hp, by simp [S.len], by simp [S.num], fun j b e => ?_, fun j k b c w hjk e1 e2 o1 o2 e3 e4 => ?_⟩
    · by_cases hj : i = j
      · subst hj
        have hi : i < ρ.length := (List.getElem?_eq_some_iff.mp hr).1
        rw [List.getElem?_set_self hi] at e
        cases e
        exact ⟨.ref p, e1, .lst (.inl upd_same) hz (hA.mono (same_upd hf))⟩
      · rw [List.getElem?_set_ne hj] at e
        obtain ⟨w, e2, e3⟩ := S.val j b e
        refine ⟨w, e2, ?_⟩
        cases ho : b.isOwn with
        | false => cases b with
          | d x => exact Is.mono (same_upd hf) e3
          | raw => exact e3
          | _ => cases ho
        | true =>
          obtain ⟨q, ob, e4, gf, g0, gp⟩ := Bd.at ho e3
          subst e4
          have hq : q ≠ p := fun z => by
            subst z
            exact S.sep i j _ _ _ hj hr e rfl ho e1 e2
          exact Bd.move ho e3 (same_upd hf) (by rw [upd_ne hq]; exact gf) rfl
    · have hj : i ≠ j := fun z => by
        subst z
        have hi : i < ρ.length := (List.getElem?_eq_some_iff.mp hr).1
        rw [List.getElem?_set_self hi] at e1; cases e1; cases o1
      have hk : i ≠ k := fun z => by
        subst z
        have hi : i < ρ.length := (List.getElem?_eq_some_iff.mp hr).1
        rw [List.getElem?_set_self hi] at e2; cases e2; cases o2
      rw [List.getElem?_set_ne hj] at e1
      rw [List.getElem?_set_ne hk] at e2
      exact S.sep j k b c w hjk e1 e2 o1 o2 e3 e4
  refine ⟨_, p, vs, hf, same_upd hf, upd_same, S', fun F2 H2 x => ⟨⟨fun b o e => ?_, x.keep, fun b o e => ?_, fun b o e e2 => ?_⟩, x.up _ _ upd_same⟩⟩
  · have hb : b ≠ p := ne_of_none e hf
    rw [without_ne hb]
    exact x.up _ _ (by rw [upd_ne hb]; exact e)
  · by_cases hb : b = p
    · rw [hb, without_self] at e; cases e
    · rw [without_ne hb] at e; exact x.le _ _ e
  · by_cases hb : b = p
    · rw [hb]; exact without_self
    · rw [without_ne hb]; exact x.new _ _ (by rw [upd_ne hb]; exact e) e2
section
variable [Wd] {X : Cx} {A : Amb} {W : WX} {e : Expr}
theorem d_lend (i : Nat) {f : Rho → Res D} (h : DE X A W e f) : DE X A W e (lendD i f) := peI h fun σ H Q ⟨F, ρ, S, q⟩ => by
  rcases own_or ρ i with ⟨xs, hr⟩ | hr
  · rw [lendD_own hr] at q
    obtain ⟨F1, p, ws, hp, x0, h1, S1, back⟩ := S.lend hr
    refine ⟨F1, _, S1, ?_⟩
    cases hf : f (frzAt i ρ) with
    | bad => rw [hf] at q; exact q
    | ex c =>
      rw [hf] at q
      exact fun cls dd F2 H2 x z => q cls dd _ H2 (back F2 H2 x).1 (z.without (back F2 H2 x).2)
    | ok d =>
      rw [hf] at q
      simp only [Res.bind_ok] at q
      intro v F2 H2 x i2
      obtain ⟨b1, b2⟩ := back F2 H2 x
      by_cases hd : flat d = true
      · rw [if_pos hd] at q
        exact q v _ H2 b1 (Is.without b2 _ _ i2 hd)
      · rw [if_neg hd] at q; exact q.elim
  · rw [lendD_no hr] at q; exact ⟨F, ρ, S, q⟩
theorem o_lend (i : Nat) {f : Rho → Res (List D)} (h : OE X A W e f) : OE X A W e (lendO i f) := peI h fun σ H Q ⟨F, ρ, S, q⟩ => by
  rcases own_or ρ i with ⟨xs, hr⟩ | hr
  · rw [lendO_own hr] at q
    obtain ⟨F1, p, ws, hp, x0, h1, S1, back⟩ := S.lend hr
    refine ⟨F1, _, S1, ?_⟩
    cases hf : f (frzAt i ρ) with
    | bad => rw [hf] at q; exact q
    | ex c =>
      rw [hf] at q
      exact fun cls dd F2 H2 x z => q cls dd _ H2 (back F2 H2 x).1 (z.without (back F2 H2 x).2)
    | ok d =>
      rw [hf] at q
      simp only [Res.bind_ok] at q
      intro r vs F2 H2 x h1 h2 h3 h4 h5
      obtain ⟨b1, b2⟩ := back F2 H2 x
      by_cases hd : flatA d = true
      · rw [if_pos hd] at q
        have hrp : r ≠ p := fun z => by rw [z, b2] at h1; cases h1
        exact q r vs _ H2 b1 (by rw [without_ne hrp]; exact h1) h2 h3 h4 (IsA.without b2 _ _ h5 hd)
      · rw [if_neg hd] at q; exact q.elim
  · rw [lendO_no hr] at q; exact ⟨F, ρ, S, q⟩
end

/-! ### in, not in -/
def inD (neg : Bool) : D → D → Option D
  | d, .list xs => if SeqAt.shaped d = true ∧ SeqAt.shaped (.list xs) = true then some (.bool (neg ^^ xs.any fun y => PyData.eqv y d)) else none
  | d, .tuple xs => if SeqAt.shaped d = true ∧ SeqAt.shaped (.tuple xs) = true then some (.bool (neg ^^ xs.any fun y => PyData.eqv y d)) else none
  | _, _ => none
section
variable [Wd] {X : Cx}
theorem o_in (hu : X.A.units + 65 < cLine) : OpR X (compareOp .In) (rD (inD false)) := by
  intro pins s σ H x y v u Q I rx ry h
  obtain ⟨F, a, b, d, le, ia, ib, e, q⟩ := h
  cases b with
  | list xs =>
    simp only [inD] at e
    split at e
    · rename_i hs
      cases e
      obtain ⟨as, r1⟩ := Dp.reads I a x v (ia.dp le (noDct_shaped hs.1)) rx
      obtain ⟨bs, r2⟩ := Dp.reads I _ y u (ib.dp le (noDct_shaped hs.2)) ry
      refine SeqAt.in_list_reads r2 r1 (SeqAt.canLay_of_shaped hs.2) (SeqAt.canLay_of_shaped hs.1) (room_in_shaped hs.1 hu) ⟨.bl _, H, I, rfl, ?_⟩
      have := q _ F H (.refl le) (.bl _)
      rw [Bool.false_xor] at this
      exact this
    · cases e
  | tuple xs =>
    simp only [inD] at e
    split at e
    · rename_i hs
      cases e
      obtain ⟨as, r1⟩ := Dp.reads I a x v (ia.dp le (noDct_shaped hs.1)) rx
      obtain ⟨bs, r2⟩ := Dp.reads I _ y u (ib.dp le (noDct_shaped hs.2)) ry
      refine SeqAt.in_tuple_reads r2 r1 (SeqAt.canLay_of_shaped hs.2) (SeqAt.canLay_of_shaped hs.1) (room_in_shaped hs.1 hu) ⟨.bl _, H, I, rfl, ?_⟩
      have := q _ F H (.refl le) (.bl _)
      rw [Bool.false_xor] at this
      exact this
    · cases e
  | _ => simp [inD] at e
theorem o_notIn (hu : X.A.units + 65 < cLine) : OpR X (compareOp .NotIn) (rD (inD true)) := by
  intro pins s σ H x y v u Q I rx ry h
  obtain ⟨F, a, b, d, le, ia, ib, e, q⟩ := h
  cases b with
  | list xs =>
    simp only [inD] at e
    split at e
    · rename_i hs
      cases e
      obtain ⟨as, r1⟩ := Dp.reads I a x v (ia.dp le (noDct_shaped hs.1)) rx
      obtain ⟨bs, r2⟩ := Dp.reads I _ y u (ib.dp le (noDct_shaped hs.2)) ry
      refine SeqAt.notIn_list_reads r2 r1 (SeqAt.canLay_of_shaped hs.2) (SeqAt.canLay_of_shaped hs.1) (room_in_shaped hs.1 hu) ⟨.bl _, H, I, rfl, ?_⟩
      have := q _ F H (.refl le) (.bl _)
      rw [Bool.true_xor] at this
      exact this
    · cases e
  | tuple xs =>
    simp only [inD] at e
    split at e
    · rename_i hs
      cases e
      obtain ⟨as, r1⟩ := Dp.reads I a x v (ia.dp le (noDct_shaped hs.1)) rx
      obtain ⟨bs, r2⟩ := Dp.reads I _ y u (ib.dp le (noDct_shaped hs.2)) ry
      refine SeqAt.notIn_tuple_reads r2 r1 (SeqAt.canLay_of_shaped hs.2) (SeqAt.canLay_of_shaped hs.1) (room_in_shaped hs.1 hu) ⟨.bl _, H, I, rfl, ?_⟩
      have := q _ F H (.refl le) (.bl _)
      rw [Bool.true_xor] at this
      exact this
    · cases e
  | _ => simp [inD] at e
end

/-! ### -e -/
def negR (f : Rho → Res D) : Rho → Res D := fun ρ => (f ρ).bind fun d => match d with
  | .int i => .ok (.int (-i))
  | _ => .bad
section
variable [Wd] {X : Cx} {A : Amb} {W : WX} {e : Expr} {f : Rho → Res D} {pos : Pos}
theorem d_neg (h : BE X A W e f) : DE X A W (.UnaryOp .USub e pos) (negR f) := peI (pe_un un_neg h) fun σ H Q ⟨F, ρ, S, q⟩ => ⟨F, ρ, S, by
  unfold negR at q
  cases hf : f ρ with
  | bad => rw [hf] at q; exact q
  | ex c => rw [hf] at q; exact q
  | ok d =>
    rw [hf] at q
    intro v F1 H1 x1 i1
    cases d with
    | int i => cases i1.int; exact ⟨i, rfl, q _ F1 H1 x1 (.int _)⟩
    | _ => exact q.elim⟩
end

/-! ### sorted -/
def dle (a b : D) : Bool := !PySem.W.dataLt b a
def allLike (ds : List D) : Bool := ds.all fun d => ds.all fun d' => PySem.W.alike d d'
def sortsD (ds : List D) : Bool := (ds.all fun d => match d with | .tuple (_ :: _) => true | _ => false) || (ds.all fun d => match d with | .none => false | .tuple _ => false | _ => true)
def sortedD : List D → Option (List D)
  | [.list ds] => if (allLike ds && sortsD ds && ds.all fun d => decide (d.depth ≤ 60)) = true then some (ds.mergeSort dle) else none
  | _ => none
theorem allLike_ok {ds : List D} (h : allLike ds = true) : PySem.W.AllAlike ds := fun d hd d' hd' => List.all_eq_true.mp (List.all_eq_true.mp h d hd) d' hd'
mutual
theorem noDct_alike : ∀ d : D, PySem.W.alike d d = true → noDct d = true
  | .none, _ => rfl
  | .bool _, _ => rfl
  | .int _, _ => rfl
  | .str _, _ => rfl
  | .list xs, h => by simpa [noDct] using noDctA_alike xs (by simpa [PySem.W.alike] using h)
  | .tuple xs, h => by simpa [noDct] using noDctA_alike xs (by simpa [PySem.W.alike] using h)
  | .dict _, h => by simp [PySem.W.alike] at h
theorem noDctA_alike : ∀ ds : List D, PySem.W.alikeAll ds ds = true → noDctA ds = true
  | [], _ => rfl
  | x :: xs, h => by
    simp only [PySem.W.alikeAll, Bool.and_eq_true] at h
    simp [noDctA, noDct_alike x h.1, noDctA_alike xs h.2]
end
theorem noDctA_of {ds : List D} (h : ∀ d ∈ ds, noDct d = true) : noDctA ds = true := by
  induction ds with
  | nil => rfl
  | cons x xs ih => simp [noDctA, h x (by simp), ih fun d hd => h d (by simp [hd])]
theorem allLike_noDct {ds : List D} (h : allLike ds = true) : noDctA ds = true := noDctA_of fun d hd => noDct_alike d (List.all_eq_true.mp (List.all_eq_true.mp h d hd) d hd)
theorem sortsD_ok {ds : List D} (h : sortsD ds = true) : PySem.W.Sortable ds := by
  rcases (Bool.or_eq_true _ _).mp h with h | h
  · refine .inl fun d hd => ?_
    have := List.all_eq_true.mp h d hd
    cases d with
    | tuple xs =>
      cases xs with
      | nil => cases this
      | cons x r => exact ⟨x, r, rfl⟩
    | _ => cases this
  · refine .inr fun d hd => ?_
    have := List.all_eq_true.mp h d hd
    cases d with
    | none => cases this
    | tuple xs => cases this
    | _ => exact ⟨fun z => (nomatch z), fun xs z => (nomatch z)⟩
section
variable [Wd] {X : Cx}
theorem map_snd_zip : ∀ (vs : List V) (ds : List D), vs.length = ds.length → (vs.zip ds).map Prod.snd = ds
  | [], [], _ => rfl
  | v :: vs, d :: ds, h => by
    rw [List.zip_cons_cons, List.map_cons, map_snd_zip vs ds (by simpa using h)]
  | [], _ :: _, h => by cases h
  | _ :: _, [], h => by cases h
theorem each_zip {F : Hp} {R : V → Value → Prop} : ∀ {vs : List V} {us : List Value} {ds : List D}, Vals vs us → vs.length = ds.length → PySem.W.EachIs (fun u (p : V × D) => RelV p.1 u) us (vs.zip ds)
  | _, _, [], .nil, _ => .nil
  | _, _, d :: ds, .cons r t, h => .cons r (each_zip (F := F) (R := R) t (by simpa using h))
  | _, _, _ :: _, .nil, h => by cases h
  | _, _, [], .cons _ _, h => by cases h
theorem each_reads {h : Heap} : ∀ {us : List Value} {vs : List V} {ds : List D} {as : List Addr}, ReadsAll h us ds as → vs.length = ds.length → PySem.W.EachIs (fun u (p : V × D) => ∃ as, Reads h u p.2 as) us (vs.zip ds)
  | _, [], [], _, r, _ => by cases r; exact .nil
  | _, v :: vs, d :: ds, _, r, e => by
    cases r with
    | cons h1 h2 => exact .cons ⟨_, h1⟩ (each_reads h2 (by simpa using e))
  | _, [], _ :: _, _, _, e => by cases e
  | _, _ :: _, [], _, _, e => by cases e
theorem vals_each : ∀ {us : List Value} {ps : List (V × D)}, PySem.W.EachIs (fun u (p : V × D) => RelV p.1 u) us ps → Vals (ps.map Prod.fst) us
  | _, _, .nil => .nil
  | _, _, .cons h t => .cons h (vals_each t)
theorem IsA.pairs {F : Hp} : ∀ {ps : List (V × D)}, (∀ p ∈ ps, Is F p.1 p.2) → IsA F (ps.map Prod.fst) (ps.map Prod.snd)
  | [], _ => .nil
  | p :: ps, h => .cons (h p List.mem_cons_self) (IsA.pairs fun q hq => h q (List.mem_cons_of_mem _ hq))
theorem IsA.zip {F : Hp} : ∀ {vs : List V} {ds : List D}, IsA F vs ds → ∀ p ∈ vs.zip ds, Is F p.1 p.2
  | _, _, .nil, _, h => by cases h
  | _, _, .cons h t, p, hp => by
    rw [List.zip_cons_cons] at hp
    rcases List.mem_cons.mp hp with rfl | hp
    · exact h
    · exact IsA.zip t p hp
theorem c_sorted (hu : X.A.units + 64 < cLine) : CallR X (.builtin "sorted") (cO sortedD) := by
  intro pins s σ H xs us Q I r h
  obtain ⟨F, as, ds, le, ia, e, q⟩ := h
  unfold sortedD at e
  split at e
  · rename_i ds0
    split at e
    · rename_i hc
      cases e
      rw [Bool.and_eq_true, Bool.and_eq_true] at hc
      obtain ⟨⟨hal, hk⟩, hd⟩ := hc
      obtain ⟨v, rfl, i⟩ := ia.one
      obtain ⟨p, vs, rfl, hp, z, t⟩ := i.list le
      obtain ⟨its, rv, hl, hz⟩ := I.list (.inl hp)
      rw [Vals.ref1 r]
      obtain ⟨rs, hrs⟩ := Dp.readsAll I ds0 vs its ((t.mono le).dp (allLike_noDct hal)) rv
      have hlen := t.length
      have es := map_snd_zip vs ds0 hlen
      refine PySem.W.sorted_data (enc := Prod.snd) hl.isList (each_zip (F := F) (R := fun _ _ => True) rv hlen) (each_reads hrs hlen) (by rw [es]; exact allLike_ok hal) (by rw [es]; exact sortsD_ok hk) (by rw [List.length_zip]; omega) (fun b hb => ?_) fun out ho eo => ?_
      · have hb' : b.2 ∈ ds0 := (List.of_mem_zip (a := b.1) (b := b.2) hb).2
        have := of_decide_eq_true (List.all_eq_true.mp hd _ hb')
        omega
      · obtain ⟨c, hc⟩ := PyProof.Rows.sortedAll_at s.heap its out.toArray
        have rv' := vals_each eo
        have e2 : ((vs.zip ds0).mergeSort (PySem.W.dataLe false Prod.snd)).map Prod.snd = ds0.mergeSort dle := by
          exact (PySem.W.sort_maps (r := PySem.W.dataLe false Prod.snd) (s := dle) Prod.snd (fun a _ b _ => rfl)).trans (by rw [es])
        have hl2 : (((vs.zip ds0).mergeSort (PySem.W.dataLe false Prod.snd)).map Prod.fst).length ≤ sizeLine := by
          rw [List.length_map, List.length_mergeSort, List.length_zip]; omega
        have hn : H (s.heap.objs.size + 1) = none := I.hok.fresh (Nat.le_succ _)
        refine ⟨.ref _, upd H (s.heap.objs.size + 1) (.lst (((vs.zip ds0).mergeSort (PySem.W.dataLe false Prod.snd)).map Prod.fst)), I.laid (t' := s.toks) (fun _ _ => PyProof.Rows.sortedAll_old) (Nat.le_succ _) ⟨hl2, out, c, rv', hc⟩, rfl, ?_⟩
        refine q _ _ F _ (.fresh le hn) (none_of_le le hn) hn upd_same hl2 ?_
        rw [← e2]
        exact IsA.pairs fun p hp => IsA.zip t p (List.mem_mergeSort.mp hp)
    · cases e
  · cases e
end
end DL

/-! The data layer, part 9: what a def's text is; recursion; the return of a list of one's own. -/
namespace DL
open PySem PySem.Spec PyProof.Rows L2

/-- a def stands as its text says -/
def Std (K : PySem.W.Frag) (mg : Str → Option Value) (x : Str) (st : Stmt) (ps : List Str) : Prop := ∃ f fd, Fun K x x st f fd ∧ mg x = some (.ref f) ∧ Binds K fd ps []
theorem r65 {k : Nat} {A : Around} (hr : Room k A) : A.units + 65 < cLine := by have := hr.un; omega
theorem r64 {k : Nat} {A : Around} (hr : Room k A) : A.units + 64 < cLine := by have := hr.un; omega
section
variable [Wd] {P : Program} {w : World} {K : PySem.W.Frag} {mg : Str → Option Value} {base : Heap} {Z : String → Addr → Prop}
/-- the body of the def, as it is to be shown -/
def Body (P : Program) (w : World) (K : PySem.W.Frag) (mg : Str → Option Value) (base : Heap) (Z : String → Addr → Prop) (k : Nat) (x : Str) (st : Stmt) (N : List Str) (g : Rho → SO) : Prop :=
  ∀ (f : Addr) (cdv : Value) (A' : Around) (outer : List Env) (s : Shared) (H : Hp) (E : XK) (A : Amb), A.Z = Z → A.n = N.length → Wd.w = w → Room k (A'.deeper (envOfC x (defScope st) s.heap.objs.size f cdv)) →
      Takes (cxOf (L2.CX P w) P w K mg base N x (defScope st) f cdv A' outer s H E) (fun cls d _ H => E cls d H) →
      DSs (cxOf (L2.CX P w) P w K mg base N x (defScope st) f cdv A' outer s H E) A (fun cls d _ H => E cls d H) (defBody st) g
theorem Fun.at {x : Str} {st : Stmt} {f : Addr} {fd : FuncData} (F : Fun K x x st f fd) : ∃ oc od osl, K.lookup f = some ⟨oc, od, .func fd, osl⟩ := by
  obtain ⟨oc, od, kV, doc, pm, an, cdv, ct, osl, e, lk, hcd⟩ := F.ex
  exact ⟨oc, od, osl, lk⟩
theorem def_D {x : Str} {st : Stmt} {N ps : List Str} {k : Nat} {g : Rho → SO} (hw0 : Wd.w = w) (F : Std K mg x st ps) (S : FnScope N ps (defScope st)) (hb : Body P w K mg base Z k x st N g) :
    DefD P w K mg base Z (k + 1) x ps (runD N.length g) := by
  obtain ⟨f, fd, F, hm, hbd⟩ := F
  exact ⟨f, fd, fn_D hw0 F S (fun cdv A' outer s H E A hZ hn hw hr tk => hb f cdv A' outer s H E A hZ hn hw hr tk), hm, F.kp, hbd, Fun.at F⟩
theorem DefD.mono {x : Str} {ps : List Str} {j k : Nat} {fD : List D → RO} (h : DefD P w K mg base Z j x ps fD) (e : j ≤ k) : DefD P w K mg base Z k x ps fD := by
  obtain ⟨f, fd, F, r⟩ := h.ex
  exact ⟨f, fd, F.mono e, r⟩
/-- a def that calls itself, n deep -/
def recD (N : Nat) (g : (List D → RO) → Rho → SO) : Nat → List D → RO
  | 0 => fun _ => .bad
  | n + 1 => runD N (g (recD N g n))
theorem rec_D {x : Str} {st : Stmt} {N ps : List Str} {k : Nat} {g : (List D → RO) → Rho → SO} (hw0 : Wd.w = w) (F : Std K mg x st ps) (S : FnScope N ps (defScope st))
    (hb : ∀ (n : Nat) (fD : List D → RO), DefD P w K mg base Z (k + n) x ps fD → Body P w K mg base Z (k + n) x st N (g fD)) : ∀ n, DefD P w K mg base Z (k + n) x ps (recD N.length g n)
  | 0 => by
    obtain ⟨f, fd, F, hm, hbd⟩ := F
    refine ⟨f, fd, ⟨fun vs H Q E h => ?_, fun A outer s H args us vs Q E _ _ _ _ h => ?_⟩, hm, F.kp, hbd, Fun.at F⟩
    · obtain ⟨_, _, hl, _⟩ := h; exact hl
    · obtain ⟨_, _, _, _, _, q⟩ := h; exact q.elim
  | n + 1 => def_D hw0 F S (hb n _ (rec_D hw0 F S hb n))
end

/-! ### return of a list of one's own -/
def retV (i : Nat) : Rho → SO := fun ρ => match ρ[i]? with
  | some (some (.own xs)) => .ro xs
  | some (some (.d x)) => .rt x
  | _ => .bad
section
variable [Wd] {X : Cx} {A : Amb} {W : WX} {pos : Pos}
theorem s_retV (i : Nat) {x : Str} {pos' : Pos} (hN : X.N[i]? = some x := by rfl) (hv : Vis X.env.scope x := by first | exact Or.inl rfl | exact Or.inr (Or.inl rfl) | exact Or.inr (Or.inr rfl)) (hd : (x == ("__debug__" : Str)) = false := by decide)
    (hcd : (x == ("__classdict__" : Str)) = false := by decide) : DS X A W (.Return (some (.Name x pos')) pos) (retV i) := psI (ps_ret (pe_var hN hv hd hcd)) fun E σ H ⟨F, ρ, S, q⟩ => by
  unfold retV at q
  cases hr : ρ[i]? with
  | none => rw [hr] at q; exact q.elim
  | some o =>
    rw [hr] at q
    cases o with
    | none => exact q.elim
    | some b =>
      obtain ⟨v, e1, e2⟩ := S.val i _ hr
      cases b with
      | d x => exact ⟨v, e1, q v F H S.ext e2⟩
      | dct x => exact q.elim
      | raw => exact q.elim
      | own xs =>
        obtain ⟨p, vs, rfl, hF, h0, hp, hz, hA⟩ := e2
        exact ⟨_, e1, q p vs F H S.ext hF h0 hp hz hA⟩
end
end DL

/-! The data layer, part 10: dicts of one's own whose keys are tuples: made, written, read, sorted. -/
namespace DL
open PySem PySem.Spec PyProof.Rows L2

/-! ### a dict by data -/
def hasK (kvs : List (D × D)) (k : D) : Bool := kvs.any fun e => decide (keyOf e.1 = keyOf k)
def getK (kvs : List (D × D)) (k : D) : Option D := (kvs.find? fun e => decide (keyOf e.1 = keyOf k)).map (·.2)
def putK (kvs : List (D × D)) (k v : D) : List (D × D) := if hasK kvs k = true then kvs.map fun e => if keyOf e.1 = keyOf k then (e.1, v) else e else kvs ++ [(k, v)]
/-- a key that is served: a tuple, not too deep -/
def okKey : D → Bool
  | .tuple xs => match keysOf xs with
    | some ks => decide ((NestedKey.tup ks).depth ≤ 8)
    | none => false
  | _ => false
theorem okKey_of {d : D} (h : okKey d = true) : ∃ xs ks, d = .tuple xs ∧ keyOf d = some (.tup ks) ∧ (NestedKey.tup ks).depth ≤ 8 := by
  cases d with
  | tuple xs =>
    simp only [okKey] at h
    cases hk : keysOf xs with
    | none => rw [hk] at h; cases h
    | some ks => rw [hk] at h; exact ⟨xs, ks, rfl, by simp [keyOf, hk], of_decide_eq_true h⟩
  | _ => cases h
def storedE (ys : List Ent) (k : NestedKey) (a : Addr) (v : V) : List Ent := if (ys.any fun y => decide (y.1 = k)) = true then ys.map fun y => if y.1 = k then (y.1, y.2.1, v) else y else ys ++ [(k, a, v)]
theorem any_EntV {ys : List Ent} {xs : List (NestedKey × Addr × Value)} {k : NestedKey} (h : EntV ys xs) : (ys.any fun y => decide (y.1 = k)) = (atKey xs k).isSome := by
  induction h with
  | nil => rfl
  | cons h t ih =>
    rename_i y x ys xs
    rw [List.any_cons]
    by_cases e : y.1 = k
    · have e' : x.1 = k := h.1.symm.trans e
      simp [atKey, e, e', List.find?_cons]
    · have e' : ¬ x.1 = k := fun z => e (h.1.trans z)
      have : atKey (x :: xs) k = atKey xs k := by simp [atKey, List.find?_cons, e']
      rw [this, ← ih]
      simp [e]
theorem EntV.map {ys : List Ent} {xs : List (NestedKey × Addr × Value)} {k : NestedKey} {v : V} {u : Value} (r : RelV v u) (h : EntV ys xs) : EntV (ys.map fun y => if y.1 = k then (y.1, y.2.1, v) else y) (xs.map (putAt k u)) := by
  induction h with
  | nil => exact .nil
  | cons h t ih =>
    rename_i y x ys xs
    refine .cons ?_ ih
    unfold putAt
    dsimp only
    by_cases e : y.1 = k
    · have e' : x.1 = k := h.1.symm.trans e
      rw [if_pos e, if_pos e']
      exact ⟨h.1, h.2.1, r⟩
    · have e' : ¬ x.1 = k := fun z => e (h.1.trans z)
      rw [if_neg e, if_neg e']
      exact h
theorem paired_app {α β : Type} {R : α → β → Prop} : ∀ {l : List α} {m : List β} {a : α} {b : β}, Paired R l m → R a b → Paired R (l ++ [a]) (m ++ [b])
  | _, _, _, _, .nil, r => .cons r .nil
  | _, _, _, _, .cons h t, r => .cons h (paired_app t r)
theorem EntV.stored {ys : List Ent} {xs : List (NestedKey × Addr × Value)} {k : NestedKey} {a : Addr} {v : V} {u : Value} (r : RelV v u) (h : EntV ys xs) : EntV (storedE ys k a v) (storedH xs k a u) := by
  unfold storedE storedH
  rw [any_EntV h]
  cases (atKey xs k).isSome with
  | true => exact EntV.map r h
  | false => exact paired_app h ⟨rfl, rfl, r⟩
theorem EntV.keys {ys : List Ent} {xs : List (NestedKey × Addr × Value)} (h : EntV ys xs) : ys.map (·.1) = xs.map (·.1) := by
  induction h with
  | nil => rfl
  | cons h t ih => rw [List.map_cons, List.map_cons, ih, h.1]
theorem any_EntsIs [Wd] {F : Hp} {ys : List Ent} {kvs : List (D × D)} {k : NestedKey} {d : D} (hk : keyOf d = some k) (h : EntsIs F ys kvs) : (ys.any fun y => decide (y.1 = k)) = hasK kvs d := by
  unfold hasK
  induction h with
  | nil => rfl
  | cons h t ih =>
    rename_i y e ys kvs
    rw [List.any_cons, List.any_cons, ih]
    have : decide (y.1 = k) = decide (keyOf e.1 = keyOf d) := by
      rw [h.1, hk]
      simp
    rw [this]
theorem EntsIs.map [Wd] {F : Hp} {ys : List Ent} {kvs : List (D × D)} {k : NestedKey} {d x : D} {v : V} (hk : keyOf d = some k) (r : Is F v x) (h : EntsIs F ys kvs) :
    EntsIs F (ys.map fun y => if y.1 = k then (y.1, y.2.1, v) else y) (kvs.map fun e => if keyOf e.1 = keyOf d then (e.1, x) else e) := by
  induction h with
  | nil => exact .nil
  | cons h t ih =>
    rename_i y e ys kvs
    refine .cons ?_ ih
    dsimp only
    by_cases c : y.1 = k
    · have c' : keyOf e.1 = keyOf d := by rw [h.1, hk, c]
      rw [if_pos c, if_pos c']
      exact ⟨h.1, h.2.1, h.2.2.1, r⟩
    · have c' : ¬ keyOf e.1 = keyOf d := fun z => c (by rw [h.1, hk] at z; exact Option.some.inj z)
      rw [if_neg c, if_neg c']
      exact h
theorem EntsIs.stored [Wd] {F : Hp} {ys : List Ent} {kvs : List (D × D)} {k : NestedKey} {d x : D} {v : V} {a : Addr} (hk : keyOf d = some k) (hd : k.depth ≤ 8) (ha : Is F (.ref a) d) (r : Is F v x) (h : EntsIs F ys kvs) : EntsIs F (storedE ys k a v) (putK kvs d x) := by
  unfold storedE putK
  rw [any_EntsIs hk h]
  cases hasK kvs d with
  | true => exact EntsIs.map hk r h
  | false => exact paired_app h ⟨hk, hd, ha, r⟩
theorem storedE_len (ys : List Ent) (k : NestedKey) (a : Addr) (v : V) : (storedE ys k a v).length ≤ ys.length + 1 := by
  unfold storedE
  split
  · rw [List.length_map]; omega
  · rw [List.length_append]; simp

/-! ### in the heap -/
section
variable [Wd] {X : Cx} {pins : List (Addr × Obj)} {σ : L2.St} {H : Hp} {s : Shared}
mutual
theorem nested_of (I : L2.Inv X pins σ H s) : ∀ (d : D) (v : V) (u : Value) (k : NestedKey), Is H v d → RelV v u → keyOf d = some k → NestedIs s.heap k u
  | .none, _, _, _, h, r, e => by cases h; cases r; simp [keyOf] at e; subst e; exact .none
  | .bool b, _, _, _, h, r, e => by cases h; cases r; simp only [keyOf, Option.some.injEq] at e; subst e; exact .bool rfl
  | .int i, _, _, _, h, r, e => by cases h; obtain ⟨t, rfl⟩ := r; simp only [keyOf, Option.some.injEq] at e; subst e; exact .int i t
  | .str x, _, _, _, h, r, e => by cases h; obtain ⟨t, rfl⟩ := r; simp only [keyOf, Option.some.injEq] at e; subst e; exact .text x t
  | .list _, _, _, _, _, _, e => by simp [keyOf] at e
  | .dict _, _, _, _, _, _, e => by simp [keyOf] at e
  | .tuple ds, _, _, _, h, r, e => by
    cases h with
    | tup hp z t =>
      cases r
      obtain ⟨its, rv, ⟨o, ho, hc, n, hd⟩, _⟩ := I.tuple (.inl hp)
      rw [keyOf] at e
      obtain ⟨ks, hk, rfl⟩ := Option.map_eq_some_iff.mp e
      exact .tup ho hc hd (nestedAll_of I ds _ its ks t rv hk)
theorem nestedAll_of (I : L2.Inv X pins σ H s) : ∀ (ds : List D) (vs : List V) (us : List Value) (ks : List NestedKey), IsA H vs ds → Vals vs us → keysOf ds = some ks → NestedAll s.heap ks us
  | [], _, _, _, h, r, e => by cases h; cases r; simp [keysOf] at e; subst e; exact .nil
  | d :: ds, _, _, _, h, r, e => by
    cases h with
    | cons h t =>
      cases r with
      | cons r rt =>
        rw [keysOf] at e
        split at e
        · rename_i k ks h1 h2
          cases e
          exact .cons (nested_of I d _ _ k h r h1) (nestedAll_of I ds _ _ ks t rt h2)
        · cases e
end
theorem dctP_stay {w : World} {a : Addr} {ys : List Ent} {h h' : Heap} (x : dctP w a ys h) (k : ∀ o, h.get? a = some o → h'.get? a = some o) : dctP w a ys h' := by
  obtain ⟨lo, xs, e, ⟨o, es, ep, ho, r⟩, n⟩ := x
  exact ⟨lo, xs, e, ⟨o, es, ep, k _ ho, r⟩, n⟩
theorem dct_ok {P : Program} {w w' : World} {H' : Hp} {a : Addr} {ys : List Ent} {h : Heap} {o : Obj} (x : dctP w a ys h) (e : h.get? a = some o) : ObjOk P w' H' h a (dctO w a ys o) :=
  ⟨⟨x, e⟩, ⟨o, e⟩, fun h1 h2 q k => ⟨dctP_stay q.1 k, k _ q.2⟩⟩
theorem Inv.dct {a : Addr} {ys : List Ent} {w : World} {o : Obj} (I : L2.Inv X pins σ H s) (h : H a = some (dctO w a ys o)) : dctP w a ys s.heap ∧ s.heap.get? a = some o := (I.hok a _ h).1
theorem EntsIs.is [Wd] (I : L2.Inv X pins σ H s) {ys : List Ent} {kvs : List (D × D)} {xs : List (NestedKey × Addr × Value)} (h : EntsIs H ys kvs) (e : EntV ys xs) : ∀ x ∈ xs, (nestedKind X.prog X.w).is s.heap x.1 x.2.1 := by
  induction h generalizing xs with
  | nil => cases e; intro x hx; cases hx
  | cons h t ih =>
    cases e with
    | cons r rt =>
      intro x hx
      rcases List.mem_cons.mp hx with rfl | hx
      · refine ⟨?_, by rw [← r.1]; exact h.2.1⟩
        rw [← r.1, ← r.2.1]
        exact nested_of I _ _ _ _ h.2.2.1 rfl h.1
      · exact ih rt x hx
theorem Inv.dctH [Wd] {a : Addr} {ys : List Ent} {kvs : List (D × D)} {o : Obj} (I : L2.Inv X pins σ H s) (h : H a = some (dctO X.w a ys o)) (e : EntsIs H ys kvs) : (a == sysModules) = false ∧ ∃ xs, EntV ys xs ∧ s.heap.DictOfH (nestedKind X.prog X.w) a xs := by
  obtain ⟨lo, xs, ev, ⟨o, es, ep, ho, hx, hd, he⟩, n⟩ := (Inv.dct I h).1
  exact ⟨lo, xs, ev, o, es, ep, ho, hx, hd, he, EntsIs.is I e ev, by rw [← ev.keys]; exact n⟩
theorem dctP_of {a : Addr} {ys : List Ent} {xs : List (NestedKey × Addr × Value)} {h : Heap} (lo : (a == sysModules) = false) (e : EntV ys xs) (d : h.DictOfH (nestedKind X.prog X.w) a xs) : dctP X.w a ys h := by
  obtain ⟨o, es, ep, ho, hx, hd, he, _, n⟩ := d
  exact ⟨lo, xs, e, ⟨o, es, ep, ho, hx, hd, he⟩, by rw [e.keys]; exact n⟩
/-- d[k] = v -/
theorem dct_set [Wd] {a : Addr} {ys : List Ent} {kvs : List (D × D)} {v y : V} {u iv : Value} {d : D} {o0 : Obj} {Q : Unit → Shared → Prop} (hu : X.A.units + 65 < cLine) (I : L2.Inv X pins σ H s) (h : H a = some (dctO X.w a ys o0)) (e : EntsIs H ys kvs) (hz : ys.length ≤ sizeLine) (hk : okKey d = true) (iy : Is H y d) (ry : RelV y iv) (rv : RelV v u)
    (hq : ∀ k b o s', y = .ref b → keyOf d = some k → k.depth ≤ 8 → (storedE ys k b v).length ≤ ys.length + 1 → L2.Inv X pins σ (upd H a (dctO X.w a (storedE ys k b v) o)) s' → Q () s') : wpAny (model X.prog X.w) X.A (setItem (.ref a) iv u) Q X.xe s := by
  obtain ⟨xs, ks, ed, ek, hd⟩ := okKey_of hk
  subst ed
  cases iy with
  | tup hp z t =>
    rename_i b vs
    cases ry
    obtain ⟨lo, xs', ev, dd⟩ := Inv.dctH I h e
    have hkey : (nestedKind X.prog X.w).is s.heap (.tup ks) b := ⟨nested_of I _ _ _ _ (.tup hp z t) rfl ek, hd⟩
    have hz' : xs'.length ≤ sizeLine := by
      have := Paired.length ev
      omega
    refine wpAny_setItem_heap (show X.A.units + 1 + 8 < cLine by omega) hkey dd (fun h' hm' hs => ?_) hz'
    have new := dctP_of (X := X) lo (EntV.stored rv ev) hm'
    obtain ⟨o, ho⟩ : ∃ o, h'.get? a = some o := by
      obtain ⟨_, _, _, ⟨o, _, _, ho, _⟩, _⟩ := new
      exact ⟨o, ho⟩
    exact hq _ b o _ rfl ek hd (storedE_len _ _ _ _) (I.write (x := a) (e := a) (by rw [h]; exact True.intro) (.inl rfl) (fun c q hb z => (hs.2 c hb).trans z) ⟨o, ho⟩ (dct_ok new ho))
end

/-! ### statements and expressions on dicts of one's own -/
def dnewS (i : Nat) : Rho → SO := fun ρ => .nx (ρ.set i (some (.dct [])))
def dctR {α : Type} (i : Nat) (k : List (D × D) → Rho → Res α) : Rho → Res α := fun ρ => match ρ[i]? with
  | some (some (.dct kvs)) => k kvs ρ
  | _ => .bad
theorem dctR_of {α : Type} {ρ : Rho} {i : Nat} {k : List (D × D) → Rho → Res α} (h : dctR i k ρ ≠ .bad) : ∃ kvs, ρ[i]? = some (some (.dct kvs)) ∧ dctR i k ρ = k kvs ρ := by
  unfold dctR at h ⊢
  cases hr : ρ[i]? with
  | none => rw [hr] at h; exact absurd rfl h
  | some o =>
    rw [hr] at h
    cases o with
    | none => exact absurd rfl h
    | some b =>
      cases b with
      | d x => exact absurd rfl h
      | own x => exact absurd rfl h
      | raw => exact absurd rfl h
      | dct xs => exact ⟨xs, rfl, rfl⟩
/-- x[k] = v, x in slot i: the value first, then the key -/
def dputS (i : Nat) (fk fv : Rho → Res D) : Rho → SO := thenS fv fun ρ v => match ρ[i]? with
  | some (some (.dct kvs)) => thenS fk (fun ρ k => if (okKey k && decide (kvs.length < sizeLine)) = true then .nx (ρ.set i (some (.dct (putK kvs k v)))) else .bad) ρ
  | _ => .bad
section
variable [Wd] {X : Cx} {A : Amb} {W : WX} {pos : Pos}
theorem s_dnew (i : Nat) {x : Str} {pos' dpos : Pos} (hw : Wd.w = X.w) (hN : X.N.Nodup) (hi : X.N[i]? = some x := by rfl) (hx : Loc X.env.scope x := by first | exact Or.inl rfl | exact Or.inr rfl) (hs : swapsWith (.Dict [] [] dpos) (some (.Name x pos')) pos.line X.env = pure false := by rfl)
    (hf : X.fn x = true ∨ X.env.scope.names.lookup x = some .local := by first | exact .inl rfl | exact .inr rfl | assumption) : DS X A W (.Assign [.Name x pos'] (.Dict [] [] dpos) pos) (dnewS i) := by
  have pe : PE X (.Dict [] [] dpos) (fun _ H Q => ∀ p o, H p = none → Q (.ref p) (upd H p (dctO X.w p [] o))) := ⟨fun pins s σ H Q I h =>
    wpAny_Dict_empty ⟨.ref s.heap.objs.size, _, I.laid (a := s.heap.objs.size) (o := dctO X.w s.heap.objs.size [] { cls := .type "dict", data := .dict #[] }) (t' := s.toks) (fun _ _ q => Heap.get?_push_of_some _ q) (Nat.le_refl _)
      (dct_ok ⟨beq_eq_false_iff_ne.mpr (Ne.symm (Nat.ne_of_lt I.big)), [], .nil, ⟨_, #[], 0, Heap.get?_push_size _ rfl, ⟨rfl, rfl, rfl⟩, rfl, rfl⟩, List.nodup_nil⟩ (Heap.get?_push_size _ rfl)), rfl, h _ _ (I.hok.fresh (Nat.le_refl _))⟩⟩
  refine psI (ps_set hN hi hx pe hs hf) fun E σ H ⟨F, ρ, S, q⟩ p o hp => ?_
  have q' : Po A W E F (.nx (ρ.set i (some (.dct [])))) := q
  refine q' _ F _ ((S.grow (.fresh S.le hp)).setW (x := .dct []) ⟨p, [], o, rfl, none_of_le S.le hp, Same.free S.ext.keep hp, ?_, Nat.zero_le _, .nil⟩ fun j b _ e o => S.new hp j b e o) (Same.refl _)
  rw [hw]
  exact upd_same
theorem s_dput (i : Nat) {x : Str} {p1 p2 : Pos} {k v : Expr} {fk fv : Rho → Res D} (hw : Wd.w = X.w) (hu : X.A.units + 65 < cLine) (hk : DE X A W k fk) (hv : DE X A W v fv) (hN : X.N[i]? = some x := by rfl) (hvi : Vis X.env.scope x := by first | exact Or.inl rfl | exact Or.inr (Or.inl rfl) | exact Or.inr (Or.inr rfl))
    (hd : (x == ("__debug__" : Str)) = false := by decide) (hcd : (x == ("__classdict__" : Str)) = false := by decide) (hs : swapsWith v (some (.Subscript (.Name x p1) k p2)) pos.line X.env = pure false := by rfl) :
    DS X A W (.Assign [.Subscript (.Name x p1) k p2] v pos) (dputS i fk fv) := by
  refine ⟨fun pins s σ H E I ⟨F, ρ, S, q⟩ => ?_⟩
  refine wpAny_Assign_Subscript (Q := SP X pins E) (hv.run pins s σ H (fun vv H1 => ∃ F1, Sim A F1 H1 σ ρ ∧ Same F F1 ∧ ∃ d, Is F1 vv d ∧ Po A W E F (match ρ[i]? with
      | some (some (.dct kvs)) => thenS fk (fun ρ k => if (okKey k && decide (kvs.length < sizeLine)) = true then .nx (ρ.set i (some (.dct (putK kvs k d)))) else .bad) ρ
      | _ => .bad)) I ⟨F, ρ, S, ?_⟩ |> fun h => thn h fun r s1 ⟨vv, H1, I1, rv, F1, S1, e1, d, id, q1⟩ => ?_) hs
  · unfold dputS thenS at q
    cases hf : fv ρ with
    | bad => rw [hf] at q; exact q
    | ex c => rw [hf] at q; exact Po.pex (E := E) S q
    | ok d => rw [hf] at q; exact fun w F' H' x i => ⟨F', S.grow x, x.up, d, i, q⟩
  · cases hr : ρ[i]? with
    | none => rw [hr] at q1; exact q1.elim
    | some o =>
      rw [hr] at q1
      cases o with
      | none => exact q1.elim
      | some b =>
        cases b with
        | d x => exact q1.elim
        | own x => exact q1.elim
        | raw => exact q1.elim
        | dct kvs =>
          obtain ⟨w0, f1, p, ys, o1, rfl, hF, h0, hp, hz, hE⟩ := S1.val i _ hr
          have q2 : Po A W E F (thenS fk (fun ρ k => if (okKey k && decide (kvs.length < sizeLine)) = true then .nx (ρ.set i (some (.dct (putK kvs k d)))) else .bad) ρ) := q1
          refine thn ((pe_var (pos := p1) hN hvi hd hcd).run pins s1 σ H1 (fun y H2 => y = .ref p ∧ H2 = H1) I1 ⟨_, f1, rfl, rfl⟩) fun u s2 ⟨y, H2, I2, ry, ey, e2⟩ => ?_
          subst ey e2
          cases ry
          refine thn (hk.run pins s2 σ H2 (fun ky H3 => ∃ F3, Sim A F3 H3 σ ρ ∧ Ext F1 H2 F3 H3 ∧ ∃ kd, Is F3 ky kd ∧ Po A W E F (if (okKey kd && decide (kvs.length < sizeLine)) = true then .nx (ρ.set i (some (.dct (putK kvs kd d)))) else .bad)) I2 ⟨F1, ρ, S1, ?_⟩) fun iv s3 ⟨ky, H3, I3, rk, F3, S3, x3, kd, ik, q3⟩ => ?_
          · unfold thenS at q2
            cases hf : fk ρ with
            | bad => rw [hf] at q2; exact q2
            | ex c => rw [hf] at q2; exact Po.pex (E := E) S1 ((show Po A W E F (.ex c) from q2).mono e1)
            | ok kd => rw [hf] at q2; exact fun w F' H' x i => ⟨F', S1.grow x, x, kd, i, q2⟩
          · by_cases hc : (okKey kd && decide (kvs.length < sizeLine)) = true
            · rw [if_pos hc] at q3
              rw [Bool.and_eq_true] at hc
              have hlt : kvs.length < sizeLine := of_decide_eq_true hc.2
              have hp3 := x3.keep _ _ hp
              have hF3 := x3.new _ _ hF hp
              have hE3 := hE.mono x3.up
              have hl : ys.length = kvs.length := Paired.length hE
              refine dct_set hu I3 (by rw [← hw]; exact hp3) (hE3.mono S3.le) hz hc.1 (ik.mono S3.le) rk rv fun kk b o4 s4 eb ek hdp hlen I4 => ?_
              subst eb
              refine ⟨σ, _, I4, q3 σ F3 _ (S3.putW (x := .dct kvs) (y := .dct (putK kvs kd d)) (o := dctO X.w p (storedE ys kk b vv) o4) hr rfl rfl f1 hF3 h0 ⟨p, _, o4, rfl, hF3, h0, by rw [← hw]; exact upd_same, by omega, EntsIs.stored ek hdp ik (id.mono x3.up) hE3⟩) (e1.trans x3.up)⟩
            · rw [if_neg hc] at q3; exact q3.elim
end
end DL

/-! The data layer, part 11: sorted of a dict; enumerate of lists and tuples. -/
namespace DL
open PySem PySem.Spec PyProof.Rows L2

/-! ### sorted(d) -/
def sortK (ds : List D) : Res (List D) := .of (sortedD [.list ds])
def sortedDR (i : Nat) : Rho → Res (List D) := dctR i fun kvs _ => sortK (kvs.map (·.1))
theorem sortedD_some {ds out : List D} (h : sortedD [.list ds] = some out) : (allLike ds && sortsD ds && ds.all fun d => decide (d.depth ≤ 60)) = true ∧ out = ds.mergeSort dle := by
  have e : sortedD [.list ds] = if (allLike ds && sortsD ds && ds.all fun d => decide (d.depth ≤ 60)) = true then some (ds.mergeSort dle) else none := rfl
  rw [e] at h
  by_cases hc : (allLike ds && sortsD ds && ds.all fun d => decide (d.depth ≤ 60)) = true
  · rw [if_pos hc] at h
    exact ⟨hc, (Option.some.inj h).symm⟩
  · rw [if_neg hc] at h
    cases h
theorem EntsIs.keysIs [Wd] {F : Hp} {ys : List Ent} {kvs : List (D × D)} (h : EntsIs F ys kvs) : IsA F (ys.map fun y => V.ref y.2.1) (kvs.map (·.1)) := by
  induction h with
  | nil => exact .nil
  | cons h t ih => exact .cons h.2.2.1 ih
theorem rawKeys_vals {w : World} {ys : List Ent} {xs : List (NestedKey × Addr × Value)} {es : Array DictEntry} (ev : EntV ys xs) (he : es.toList = xs.map fun x => (⟨x.1.hash w, .ref x.2.1, x.2.2⟩ : DictEntry)) {us : List Value} (hl : us.length = es.size)
    (hk : ∀ (j : Nat) (v : Value), us[j]? = some v → ∃ hi : j < es.size, v = es[j].key) : Vals (ys.map fun y => V.ref y.2.1) us := by
  have e1 : us = xs.map fun x => Value.ref x.2.1 := by
    apply List.ext_getElem?
    intro j
    have hx : es.size = xs.length := by
      have := congrArg List.length he
      simpa using this
    by_cases hj : j < us.length
    · rw [List.getElem?_eq_getElem hj]
      obtain ⟨hi, e⟩ := hk j _ (List.getElem?_eq_getElem hj)
      have hjx : j < xs.length := by omega
      rw [List.getElem?_map, List.getElem?_eq_getElem hjx, e]
      have q : es.toList[j]? = (xs.map fun x => (⟨x.1.hash w, .ref x.2.1, x.2.2⟩ : DictEntry))[j]? := by rw [he]
      rw [Array.getElem?_toList, Array.getElem?_eq_getElem hi, List.getElem?_map, List.getElem?_eq_getElem hjx] at q
      have q' := Option.some.inj q
      rw [q']
      rfl
    · rw [List.getElem?_eq_none (by omega), List.getElem?_eq_none (by rw [List.length_map]; omega)]
  rw [e1]
  clear hk hl e1 he
  induction ev with
  | nil => exact .nil
  | cons h t ih => exact .cons (by show Value.ref _ = Value.ref _; rw [h.2.1]) ih
section
variable [Wd] {X : Cx} {A : Amb} {W : WX} {p pos : Pos}
theorem o_sortedD (i : Nat) {x : Str} {px : Pos} (hw : Wd.w = X.w) (hu : X.A.units + 64 < cLine) (hc : X.calm = true) (hm : X.mg "sorted" = none) (hN : X.N[i]? = some x := by rfl) (hvi : Vis X.env.scope x := by first | exact Or.inl rfl | exact Or.inr (Or.inl rfl) | exact Or.inr (Or.inr rfl))
    (hd : (x == ("__debug__" : Str)) = false := by decide) (hcd : (x == ("__classdict__" : Str)) = false := by decide) (hg : Gl X "sorted" := by rfl)
    (he : starEach [.Name x px] X.env = (false, eval (.Name x px) X.env) :: starEach [] X.env := by rfl) (hpl : (backTo pos (starEach [] X.env)).any (·.1) = false := by rfl) :
    OE X A W (.Call (.Name "sorted" p) [.Name x px] [] pos) (sortedDR i) := by
  have cr : CallR X (.builtin "sorted") (fun xs H Q => ∃ (F : Hp) (a : Addr) (ys : List Ent) (o : Obj) (kvs : List (D × D)) (ds : List D), xs = [.ref a] ∧ Same F H ∧ H a = some (dctO X.w a ys o) ∧ ys.length ≤ sizeLine ∧ EntsIs F ys kvs ∧ sortedD [.list (kvs.map (·.1))] = some ds ∧
      ∀ p vs F' H', Ext F H F' H' → F' p = none → H p = none → H' p = some (.lst vs) → vs.length ≤ sizeLine → IsA F' vs ds → Q (.ref p) H') := by
    intro pins s σ H xs us Q I r h
    obtain ⟨F, a, ys, o9, kvs, ds, rfl, le, ha, hz, hE, e, q⟩ := h
    obtain ⟨u, rfl, rx⟩ := vals1 r
    cases rx
    obtain ⟨hcc, rfl⟩ := sortedD_some e
    · · rw [Bool.and_eq_true, Bool.and_eq_true] at hcc
        obtain ⟨⟨hal, hk⟩, hdp⟩ := hcc
        obtain ⟨lo, zs, ev, ⟨o, es, ep, ho, hx, hdt, hes⟩, _⟩ := (Inv.dct I ha).1
        have hraw : s.heap.DictRaw a es ep := ⟨o, ho, hx, hdt⟩
        have hsz : es.size = ys.length := by
          have h1 := congrArg List.length hes
          have h2 := Paired.length ev
          simp at h1
          omega
        refine Calls.call_function_entry PyProof.Rows.kind_sorted PyProof.Rows.plain_sorted PyProof.Rows.entry_sorted (PyProof.Rows.args_sorted1 _) ?_
        unfold Builtin.«sorted»
        refine wpAny_bind (m := checkCount "sorted" 1 1 _) (wpAny_pure ?_)
        refine wpAny_bind (PySem.W.kdu_collect (A := X.A.in1) (KdlSrc.rawDict (es := es) (ep := ep) lo) (I.ok.hd hc) hraw (by omega) fun h' tk acc hkp hacc => ?_)
        have hal' : acc.toList.length = es.size := by rw [Array.length_toList, hacc.1]
        have rv : Vals (ys.map fun y => V.ref y.2.1) acc.toList := rawKeys_vals ev hes hal' fun j v e => hacc.2 j v (by rw [← Array.getElem?_toList]; exact e)
        have I1 : L2.Inv X pins σ H { s with heap := h', toks := tk } := I.kept hkp
        have t := hE.keysIs
        have hlen : (ys.map fun y => V.ref y.2.1).length = (kvs.map (·.1)).length := t.length
        have hs16 : sizeLine = 16777216 := sizeLine_eq
        refine wpAny_bind (wpAny_newList ?_ (by rw [hal']; omega))
        have hoL : (h'.push (seqObj "list" acc.toList.toArray 0)).get? h'.objs.size = some (seqObj "list" acc.toList.toArray 0) := Heap.get?_push_size _ rfl
        show wpAny _ _ _ _ _ { s with heap := h'.push (seqObj "list" acc.toList.toArray 0), toks := tk }
        have I2 : L2.Inv X pins σ H { s with heap := h'.push (seqObj "list" acc.toList.toArray 0), toks := tk } := I1.kept (t' := tk) fun _ _ q => Heap.get?_push_of_some _ q
        obtain ⟨rs, hrs⟩ := Dp.readsAll I1 (kvs.map (·.1)) (ys.map fun y => V.ref y.2.1) acc.toList ((t.mono le).dp (allLike_noDct hal)) rv
        have es2 := map_snd_zip (ys.map fun y => V.ref y.2.1) (kvs.map (·.1)) hlen
        refine wpAny_bind (wpAny_holding (PySem.W.list_sort_data (s := { s with heap := h'.push (seqObj "list" acc.toList.toArray 0), toks := tk }) (enc := Prod.snd) (R := fun u (p : V × D) => RelV p.1 u) hoL (each_zip (F := F) (R := fun _ _ => True) rv hlen) ?_ (by rw [es2]; exact allLike_ok hal) (by rw [es2]; exact sortsD_ok hk)
          (by rw [List.length_zip, List.length_map]; omega) (fun b hb => ?_) fun out hol eo => ?_))
        · refine (each_reads hrs hlen).mono fun u b ⟨as, ra⟩ => ⟨as, PyProof.Rows.Reads.keeps (fun _ _ q => Heap.get?_push_of_some _ q) ra, fun hm => ?_⟩
          obtain ⟨o, ho⟩ := PyProof.On.reads_mem_get ra _ hm
          exact absurd (Heap.lt_size ho) (Nat.lt_irrefl _)
        · have hb' : b.2 ∈ kvs.map (·.1) := (List.of_mem_zip (a := b.1) (b := b.2) hb).2
          have := of_decide_eq_true (List.all_eq_true.mp hdp _ hb')
          show X.A.units + 1 + 1 + b.2.depth < cLine
          omega
        · have rv' := vals_each eo
          have e2 : (((ys.map fun y => V.ref y.2.1).zip (kvs.map (·.1))).mergeSort (PySem.W.dataLe false Prod.snd)).map Prod.snd = (kvs.map (·.1)).mergeSort dle := by
            exact (PySem.W.sort_maps (r := PySem.W.dataLe false Prod.snd) (s := dle) Prod.snd (fun a _ b _ => rfl)).trans (by rw [es2])
          obtain ⟨e', he'⟩ := PyProof.Rows.sortedHeap_at (vs := acc.toList) (out := out.toArray) hoL
          have hl2 : ((((ys.map fun y => V.ref y.2.1).zip (kvs.map (·.1))).mergeSort (PySem.W.dataLe false Prod.snd)).map Prod.fst).length ≤ sizeLine := by
            rw [List.length_map, List.length_mergeSort, List.length_zip, List.length_map]; omega
          have hn : H h'.objs.size = none := I1.hok.fresh (Nat.le_refl _)
          refine wpAny_pure ⟨_, rfl, .ref h'.objs.size, upd H h'.objs.size (.lst ((((ys.map fun y => V.ref y.2.1).zip (kvs.map (·.1))).mergeSort (PySem.W.dataLe false Prod.snd)).map Prod.fst)), I1.laid (t' := tk) (fun b u e => ?_) (Nat.le_refl _) ⟨hl2, out, e', rv', he'⟩, rfl, ?_⟩
          · have hb : b < h'.objs.size := Heap.lt_size e
            rw [PyProof.Rows.sortedHeap_old (Nat.ne_of_lt hb) (by rw [size_push']; exact Nat.lt_succ_of_lt hb)]
            exact Heap.get?_push_of_some _ e
          · refine q _ _ F _ (.fresh le hn) (none_of_le le hn) hn upd_same hl2 ?_
            rw [← e2]
            exact IsA.pairs fun p hp => IsA.zip t p (List.mem_mergeSort.mp hp)
  exact peI (pe_callB cr hg hm (by decide +kernel) (pa_cons (pe_var hN hvi hd hcd) pa_nil he) (by decide) (by decide) he hpl) fun σ H Q ⟨F, ρ, S, q⟩ => by
    unfold sortedDR at q
    obtain ⟨kvs, hr, eq⟩ := dctR_of fun z => by rw [z] at q; exact q
    rw [eq] at q
    obtain ⟨v, e1, p, ys, o1, rfl, hF, h0, hp, hz, hE⟩ := S.val i _ hr
    refine ⟨_, e1, F, p, ys, o1, kvs, ?_⟩
    unfold sortK at q
    cases hs : sortedD [.list (kvs.map (·.1))] with
    | none => rw [hs] at q; exact q.elim
    | some ds => rw [hs] at q; exact ⟨ds, rfl, S.le, by rw [← hw]; exact hp, hz, hE, rfl, q⟩
end
end DL

/-! The data layer, part 12: enumerate of lists and tuples; is None. -/
namespace DL
open PySem PySem.Spec PyProof.Rows L2

section
open PySem (sub_enumerate rawInt)
set_option maxHeartbeats 1000000 in
theorem meets_enumT (l : Addr) (items : Array Value) :
    Meets (Builtin.«enumerate.__new__» ⟨[.type "enumerate", .ref l], []⟩) (fun _ R s => s.heap.IsTuple l items ∧
      R (.ok (.ret (.ref (s.heap.push { cls := .type "tuple_iterator", data := .fields #[.ref l, .int 0 0] }).objs.size)))
        { s with heap := (s.heap.push { cls := .type "tuple_iterator", data := .fields #[.ref l, .int 0 0] }).push { cls := .type "enumerate", data := .fields #[.none, .bool false, .ref s.heap.objs.size, rawInt 0, .none, .none] } }) :=
  .of_wp fun prog w A R s h => by
    obtain ⟨hp, g, d, tk, os⟩ := s; obtain ⟨hl, h⟩ := h
    have hsub := sub_enumerate
    have q1 : ∀ {A' : Around} {E : Value → Shared → Prop} {Q : Value → Shared → Prop}, Q (.ref hp.objs.size) ⟨hp.push { cls := .type "tuple_iterator", data := .fields #[.ref l, .int 0 0] }, g, d, tk, os⟩ → wpAny (model prog w) A' (pyIter (.ref l)) Q E ⟨hp, g, d, tk, os⟩ :=
      fun q => wpAny_pyIter_tuple (s := ⟨hp, g, d, tk, os⟩) hl q
    wp_walk using q1
    refine wpAny_stack_any fun st => wpAny_pure ?_
    split
    · rename_i c _ _ _ _ _
      cases (c == Value.type "enumerate")
      · wp_walk using q1
        exact ⟨_, rfl, h⟩
      · wp_walk using q1
        exact ⟨_, rfl, h⟩
    · wp_walk using q1
      exact ⟨_, rfl, h⟩
end
section
variable {prog : Program} {w : World} {A : Around} {E : Value → Shared → Prop} {s : Shared}
theorem call_enumT {l : Addr} {items : Array Value} {Q : Value → Shared → Prop} (hL : s.heap.IsTuple l items)
    (h : ∀ h', IsEnum h' (s.heap.objs.size + 1) s.heap.objs.size 0 .none → h'.IsTupleIter s.heap.objs.size l 0 → (∀ b o, s.heap.get? b = some o → h'.get? b = some o) → Q (.ref (s.heap.objs.size + 1)) { s with heap := h' }) :
    wpAny (model prog w) A (call (.type "enumerate") [.ref l]) Q E s := by
  refine callType_new F.called_enumerate (by decide) (F.typeCall_enumerate_1 _) (F.newCall_enumerate_1 _) (fun obj => F.args_object_init_2 obj _) F.entry_enumerate_new
    (meets_enumT l items) ⟨hL, ?_⟩
  have hz : (s.heap.push { cls := .type "tuple_iterator", data := .fields #[.ref l, .int 0 0] }).objs.size = s.heap.objs.size + 1 := Heap.size_push ..
  show _ ∧ _
  rw [hz]
  have he : IsEnum ((s.heap.push { cls := .type "tuple_iterator", data := .fields #[.ref l, .int 0 0] }).push
      { cls := .type "enumerate", data := .fields #[.none, .bool false, .ref s.heap.objs.size, rawInt 0, .none, .none] }) (s.heap.objs.size + 1) s.heap.objs.size 0 .none := by
    have := Heap.get?_push_size (s.heap.push { cls := .type "tuple_iterator", data := .fields #[.ref l, .int 0 0] })
      (o := { cls := .type "enumerate", data := .fields #[.none, .bool false, .ref s.heap.objs.size, rawInt 0, .none, .none] }) rfl
    rw [hz] at this; exact this
  exact ⟨⟨_, he, rfl⟩, h _ he ⟨_, Heap.get?_push_of_some _ (Heap.get?_push_size _ rfl), rfl, rfl⟩ fun b o x => Heap.get?_push_of_some _ (Heap.get?_push_of_some _ x)⟩
end
/-- the tuple at a, each item in a new pair -/
def IteT (K : PySem.W.Frag) (a : Addr) : It :=
  ⟨fun i H => ∃ (xs : List V) (x : V), SqT K H a xs ∧ xs[i]? = some x, fun i H v H' => ∃ T x, v = .ref T ∧ H T = none ∧ H' = upd H T (.tup [.int (i : Nat), x]) ∧ ∀ xs, SqT K H a xs → xs[i]? = some x, fun i H => ∃ xs : List V, SqT K H a xs ∧ xs.length ≤ i⟩
theorem turn_enumT {P : Program} {w : World} {K : PySem.W.Frag} {elts : List Expr} {kk : Nat} {tpos : Pos} (a e it : Addr) (hea : e ≠ a) (hia : a ≠ it) :
    Turn P w K (.Tuple elts kk tpos) (IteT K a) [e, it] e (fun i h => (∃ old, IsEnum h e it ((i : Nat) : Int) old) ∧ h.IsTupleIter it a i ∧ e ≠ it) where
  mem := by simp
  obj := fun i h st b hb => by
    obtain ⟨⟨old, he⟩, ⟨o, ho, hc, hd⟩, _⟩ := st
    have e' : b = e ∨ b = it := by simpa using hb
    rcases e' with z | z
    · rw [z]; exact ⟨_, he, fun v q => nomatch q⟩
    · rw [z]; exact ⟨o, ho, fun v q => by rw [hd] at q; cases q⟩
  keep := fun i h h' st k => let ⟨⟨old, he⟩, hi, hne⟩ := st; ⟨⟨old, k e (by simp) _ he⟩, hi.at fun o q => k it (by simp) o q, hne⟩
  item := by
    intro X hP hw hK hc i pins s σ H E I hf st hg
    subst hP hw hK
    obtain ⟨⟨old, he⟩, hit, hne⟩ := st
    obtain ⟨xs, x, hq, hx⟩ := hg
    obtain ⟨its, rv, p, hz⟩ := I.tuple hq
    obtain ⟨u, hu, ru⟩ := rv.get hx
    have hel : e < s.heap.objs.size := Heap.lt_size he
    have hil : it < s.heap.objs.size := by obtain ⟨_, q, _⟩ := hit; exact Heap.lt_size q
    have hi : i < its.toArray.size := by
      have := (List.getElem?_eq_some_iff.mp hu).1
      simpa using this
    have ef : e ∉ [it, a] := by simp [hne, hea]
    refine wpAny_pyNext_enum_itemD (Draws.tuple (A := X.A.in1) (I.ok.hd hc) it a hia its.toArray) he ⟨hit, (show s.heap.IsTuple a its.toArray from p)⟩ hi hne ef fun y h' tk hy ho st' hT hsz hk => ?_
    have ey : y = u := by
      have : its[i]? = some y := by simpa using hy
      rw [hu] at this
      exact (Option.some.inj this).symm
    subst ey
    refine ⟨_, rfl, wpAny_letOwnedTupleGo_enum (s := { s with heap := h', toks := tk + 1 }) ho fun h'' he' sb => ?_⟩
    have hT2 : h''.get? s.heap.objs.size = some { cls := .type "tuple", data := .seq #[.int i tk, y] } := (sb.2 _ (Nat.ne_of_gt hel)).trans hT
    have new : ObjOk X.prog X.w (upd H s.heap.objs.size (.tup [.int (i : Nat), x])) h'' s.heap.objs.size (.tup [.int (i : Nat), x]) :=
      ⟨by show 2 ≤ sizeLine; decide, [.int i tk, y], .cons ⟨_, rfl⟩ (.cons ru .nil), ⟨_, hT2, rfl, _, rfl⟩⟩
    have I1 : L2.Inv X pins σ (upd H s.heap.objs.size (.tup [.int (i : Nat), x])) { s with heap := h'', toks := tk + 1 } :=
      I.turnedNew (ch := [e, it]) (fun b ob hb q => (sb.2 b (fun z => hb (by simp [z]))).trans (hk b ob (fun z => hb (by simp [z])) (fun z => hb (by simp [z])) q)) hf (Nat.le_refl _) new
    refine ⟨.ref s.heap.objs.size, _, I1, rfl, ⟨_, x, rfl, I.hok.fresh (Nat.le_refl _), rfl, fun ys hy => by rw [I.tuple_inj hy hq]; exact hx⟩, ⟨⟨y, ?_⟩, st'.1.at fun o q => (sb.2 it (Ne.symm hne)).trans q, hne⟩, fun b hb => ?_⟩
    · have e1 : ((i + 1 : Nat) : Int) = (i : Int) + 1 := by omega
      rw [e1]; exact he'
    · have hb' : b < s.heap.objs.size := by
        have e' : b = e ∨ b = it := by simpa using hb
        rcases e' with z | z
        · rw [z]; exact hel
        · rw [z]; exact hil
      rw [upd_ne (Nat.ne_of_lt hb')]
      exact (hf b hb).1
  done := by
    intro X hP hw hK hc i pins s σ H E I hf st hg
    subst hP hw hK
    obtain ⟨⟨old, he⟩, hit, hne⟩ := st
    obtain ⟨xs, hq, hx⟩ := hg
    obtain ⟨its, rv, p, hz⟩ := I.tuple hq
    obtain ⟨f0, f1, f2, f3, f4, f5⟩ := hf it (by simp)
    have hl := rv.length
    have hT : s.TypeIs (.ref e) "enumerate" := ⟨_, he, rfl⟩
    unfold pyNext
    refine wpAny_bind (wpAny_attempt (wpAny_callSpecial?_slot (name := Str.ofString "__next__") hT F.slot_enumerate_next
      (wpAny_call_entry F.slot_enumerate_next hT F.entry_enumerate_next ?_ (F.args_enumerate_next_1 _))))
    show wpAny _ _ (field (.ref e) 2 >>= _) _ _ _
    refine wpAny_bind (wpAny_field he rfl (x := .ref it) rfl ?_)
    refine wpAny_bind (wpAny_nextOf_tuple_end (I.ok.hd hc) hit (show s.heap.IsTuple a its.toArray from p) (by simp; omega) fun h' x he' hx' => ?_)
    obtain ⟨o, ho, hc⟩ := hx'
    refine wpAny_bind (wpAny_isInstance (T := "StopIteration") (b := true) ⟨o, ho, hc⟩ isSubtype_stop ?_)
    exact wpAny_pure ⟨rfl, I.turned (t' := s.toks) (fun b o hb q => he' b o hb q) f0 f1 f3 f4 f5⟩
  self := fun A i s Q E st h => let ⟨⟨_, he⟩, _⟩ := st; wpAny_pyIter_enum he h
def iEnumS (K : PySem.W.Frag) (ta : TA) : TI := fun σ H R => ta σ H fun vs H1 => ∃ a xs, vs = [.ref a] ∧ ((SqL K H1 a xs ∧ R (Ite K a) H1) ∨ (SqT K H1 a xs ∧ R (IteT K a) H1))
theorem pi_enumS [Wd] {X : Cx} {e : Expr} {ta : TA} {p pos tpos : Pos} {elts : List Expr} {kk : Nat} (hg : Gl X "enumerate") (hm : X.mg "enumerate" = none) (ha : PA X [e] ta) (hs : starEach [e] X.env = [(false, eval e X.env)] := by rfl) :
    PI X (.Tuple elts kk tpos) (.Call (.Name "enumerate" p) [e] [] pos) (iEnumS X.K ta) := by
  refine ⟨fun pins s σ H R I h => ?_⟩
  refine Call_ (ld_blt I hg hm boot_enumerate (PyProof.Rows.callWith_type1 (thn (ha.run pos pins s σ H _ I h) fun us s1 ⟨vs, H1, I1, r1, q1⟩ => ?_) hs rfl))
  obtain ⟨a, xs, ex, q⟩ := q1
  subst ex
  cases r1 with
  | cons r rr =>
    cases rr
    cases r
    have fps : ∀ b ∈ [s1.heap.objs.size + 1, s1.heap.objs.size], FpOk X pins H1 b := fun b hb => by
      have e' : b = s1.heap.objs.size + 1 ∨ b = s1.heap.objs.size := by simpa using hb
      have hle : s1.heap.objs.size ≤ b := by
        rcases e' with z | z
        · rw [z]; exact Nat.le_add_right _ _
        · rw [z]; exact Nat.le_refl _
      exact I1.fpOk hle (I1.hok.fresh hle)
    rcases q with ⟨hq, q⟩ | ⟨hq, q⟩
    · obtain ⟨its, rv, p', hz⟩ := I1.list hq
      refine call_enumerate_list p'.isList fun h' he hit hsz hk => wpAny_pyIter_enum he ?_
      have I2 : L2.Inv X pins σ H1 { s1 with heap := h' } := I1.kept (t' := s1.toks) hk
      exact ⟨s1.heap.objs.size + 1, [s1.heap.objs.size + 1, s1.heap.objs.size], _, _, H1, rfl, I2, turn_enum a (s1.heap.objs.size + 1) s1.heap.objs.size, ⟨⟨.none, he⟩, hit, Nat.succ_ne_self _⟩, fps, q⟩
    · obtain ⟨its, rv, p', hz⟩ := I1.tuple hq
      have hal : a < s1.heap.objs.size := by obtain ⟨o, ho, _⟩ := (show s1.heap.IsTuple a its.toArray from p'); exact Heap.lt_size ho
      refine call_enumT (show s1.heap.IsTuple a its.toArray from p') fun h' he hit hk => wpAny_pyIter_enum he ?_
      have I2 : L2.Inv X pins σ H1 { s1 with heap := h' } := I1.kept (t' := s1.toks) hk
      exact ⟨s1.heap.objs.size + 1, [s1.heap.objs.size + 1, s1.heap.objs.size], _, _, H1, rfl, I2, turn_enumT a (s1.heap.objs.size + 1) s1.heap.objs.size (Nat.ne_of_gt (Nat.lt_succ_of_lt hal)) (Nat.ne_of_lt hal), ⟨⟨.none, he⟩, hit, Nat.succ_ne_self _⟩, fps, q⟩
def enumL (xs : List D) : List D := xs.zipIdx.map fun p => .tuple [.int ((p.2 : Nat) : Int), p.1]
def toEnum (f : Rho → Res D) : Rho → Res (List D) := fun ρ => (f ρ).bind fun d => (Res.of (seqOf d)).map enumL
theorem enumL_len (xs : List D) : (enumL xs).length = xs.length := by unfold enumL; rw [List.length_map, List.length_zipIdx]
theorem enumL_at {xs : List D} {i : Nat} {x : D} (h : (enumL xs)[i]? = some x) : ∃ y, xs[i]? = some y ∧ x = .tuple [.int ((i : Nat) : Int), y] := by
  unfold enumL at h
  rw [List.getElem?_map, List.getElem?_zipIdx] at h
  cases hx : xs[i]? with
  | none => rw [hx] at h; cases h
  | some y =>
    rw [hx] at h
    have e := Option.some.inj h
    refine ⟨y, rfl, ?_⟩
    rw [← e]
    simp
theorem ite_F [Wd] {K : PySem.W.Frag} {F : Hp} {a : Addr} {vs : List V} {xs : List D} (h : Rd F a (.lst vs)) (t : IsA F vs xs) : ItF (Ite K a) F (enumL xs) := fun i F' H' hF hl => by
  have hs : SqL K H' a vs := .inl (Rd.mono (hF.trans hl) h)
  refine ⟨fun x hx => ?_, fun hi => ⟨vs, hs, by rw [enumL_len] at hi; rw [t.length]; exact hi⟩⟩
  obtain ⟨y, hy, rfl⟩ := enumL_at hx
  obtain ⟨v, hv, iv⟩ := t.get hy
  refine ⟨⟨vs, v, hs, hv⟩, fun v' H2 z => ?_⟩
  obtain ⟨T, u, rfl, hn, rfl, z⟩ := z
  have e := (z vs hs).symm.trans hv
  cases e
  refine ⟨upd F' T (.tup [.int (i : Nat), v]), .laid hl hn, .tup (.inl upd_same) (show 2 ≤ sizeLine by decide) (.cons (.int _) (.cons ((iv.mono hF).mono (same_upd (none_of_le hl hn))) .nil))⟩
theorem itt_F [Wd] {K : PySem.W.Frag} {F : Hp} {a : Addr} {vs : List V} {xs : List D} (h : Rd F a (.tup vs)) (t : IsA F vs xs) : ItF (IteT K a) F (enumL xs) := fun i F' H' hF hl => by
  have hs : SqT K H' a vs := .inl (Rd.mono (hF.trans hl) h)
  refine ⟨fun x hx => ?_, fun hi => ⟨vs, hs, by rw [enumL_len] at hi; rw [t.length]; exact hi⟩⟩
  obtain ⟨y, hy, rfl⟩ := enumL_at hx
  obtain ⟨v, hv, iv⟩ := t.get hy
  refine ⟨⟨vs, v, hs, hv⟩, fun v' H2 z => ?_⟩
  obtain ⟨T, u, rfl, hn, rfl, z⟩ := z
  have e := (z vs hs).symm.trans hv
  cases e
  refine ⟨upd F' T (.tup [.int (i : Nat), v]), .laid hl hn, .tup (.inl upd_same) (show 2 ≤ sizeLine by decide) (.cons (.int _) (.cons ((iv.mono hF).mono (same_upd (none_of_le hl hn))) .nil))⟩
section
variable [Wd] {X : Cx} {A : Amb} {W : WX} {e : Expr} {f : Rho → Res D} {p pos tpos : Pos} {elts : List Expr} {kk : Nat}
theorem i_enumF (hm : X.mg "enumerate" = none) (ha : DE X A W e f) (hg : Gl X "enumerate" := by rfl) (hs : starEach [e] X.env = [(false, eval e X.env)] := by rfl) (hp : (backTo pos (starEach ([] : List Expr) X.env)).any (·.1) = false := by rfl) :
    IF X A W (.Tuple elts kk tpos) (.Call (.Name "enumerate" p) [e] [] pos) (toEnum f) :=
  piI (pi_enumS hg hm (pa_cons ha pa_nil hs) hs) fun σ H R ⟨F, ρ, S, q⟩ => ⟨F, ρ, S, by
    unfold toEnum at q
    cases hf : f ρ with
    | bad => rw [hf] at q; exact q
    | ex c => rw [hf] at q; exact q
    | ok d =>
      rw [hf] at q
      simp only [Res.bind_ok] at q
      intro v F1 H1 x1 i1
      cases d with
      | list xs =>
        cases i1 with
        | lst hp z t => exact ⟨_, _, rfl, .inl ⟨.inl (Rd.mono x1.le hp), q (Ite X.K _) F1 H1 x1 (ite_F hp t) (by rw [enumL_len, ← t.length]; exact z)⟩⟩
      | tuple xs =>
        cases i1 with
        | tup hp z t => exact ⟨_, _, rfl, .inr ⟨.inl (Rd.mono x1.le hp), q (IteT X.K _) F1 H1 x1 (itt_F hp t) (by rw [enumL_len, ← t.length]; exact z)⟩⟩
      | _ => exact q.elim⟩
end
end DL

/-! The data layer, part 13: glue for printed walks. -/
namespace DL
open PySem PySem.Spec PyProof.Rows L2
theorem takesW [Wd] {X : Cx} : Takes X W0 := fun u s' ⟨a, B, sI, pins, σ, H, cls, d, e, I, nb, up, sky, na, os, ag, w⟩ => w.elim
section
variable [Wd] {P : Program} {w : World} {K : PySem.W.Frag} {mg : Str → Option Value} {base : Heap} {Z : String → Addr → Prop}
theorem DefD.z {Z' : String → Addr → Prop} {k : Nat} {x : Str} {ps : List Str} {fD : List D → RO} (h : DefD P w K mg base Z k x ps fD) (e : Z' = Z) : DefD P w K mg base Z' k x ps fD := e ▸ h
theorem std_of {x : Str} {st : Stmt} {ps : List Str} {f : Addr} {fd : FuncData} (F : FunD K x x (defArgs st) (defBody st) (defScope st) [] [] f fd) (hm : mg x = some (.ref f))
    (h : ∀ (kV doc pm : Value) (an : Option Addr) (cdv ct : Value) (us : List Value), us.length = ps.length → bindArgs (PySem.W.fnOf x x (defArgs st) (defBody st) (defScope st) .none kV doc pm an cdv ct) ⟨us, []⟩ = pure (ps.zip us)) : Std K mg x st ps := by
  have b : Binds K fd ps [] := F.bindsN h
  obtain ⟨oc, od, dV, kV, doc, pm, an, cdv, ct, osl, rfl, lk, hcd, hD, hK⟩ := F.ex
  rcases hD with ⟨_, rfl⟩ | ⟨e, _⟩
  · exact ⟨f, _, ⟨⟨oc, od, kV, doc, pm, an, cdv, ct, osl, rfl, lk, hcd⟩, F.kp⟩, hm, b⟩
  · exact absurd rfl e
end
theorem fun_of {K : PySem.W.Frag} {x qual : Str} {st : Stmt} {ps : List Str} {f : Addr} {fd : FuncData} (F : FunD K x qual (defArgs st) (defBody st) (defScope st) [] [] f fd)
    (h : ∀ (kV doc pm : Value) (an : Option Addr) (cdv ct : Value) (us : List Value), us.length = ps.length → bindArgs (PySem.W.fnOf x qual (defArgs st) (defBody st) (defScope st) .none kV doc pm an cdv ct) ⟨us, []⟩ = pure (ps.zip us)) : ∃ fd, Fun K x qual st f fd ∧ Binds K fd ps [] := by
  have b : Binds K fd ps [] := F.bindsN h
  obtain ⟨oc, od, dV, kV, doc, pm, an, cdv, ct, osl, rfl, lk, hcd, hD, hK⟩ := F.ex
  rcases hD with ⟨_, rfl⟩ | ⟨e, _⟩
  · exact ⟨_, ⟨⟨oc, od, kV, doc, pm, an, cdv, ct, osl, rfl, lk, hcd⟩, F.kp⟩, b⟩
  · exact absurd rfl e
section
variable [Wd] {X : Cx} {A : Amb} {W : WX}
theorem d_kint {x : Str} {i : Int} {pos : Pos} (hm : ∃ t, X.mg x = some (.int i t)) (hg : Gl X x := by rfl) (hd : (x == ("__debug__" : Str)) = false := by decide) : DE X A W (.Name x pos) (kst (.int i)) := by
  obtain ⟨t, h⟩ := hm
  exact d_glob (v := .int i) hg h ⟨t, rfl⟩ (fun _ => .int i) hd
theorem d_kstr {x z : Str} {pos : Pos} (hm : ∃ t, X.mg x = some (.str z t)) (hg : Gl X x := by rfl) (hd : (x == ("__debug__" : Str)) = false := by decide) : DE X A W (.Name x pos) (kst (.str z)) := by
  obtain ⟨t, h⟩ := hm
  exact d_glob (v := .str z) hg h ⟨t, rfl⟩ (fun _ => .str z) hd
end
end DL

/-! The data layer, part 15: range with step -1; is None; list.index; max of ints; [::-1]. -/
namespace DL
open PySem PySem.Spec PyProof.Rows L2
/-! ### range(i, j, -1) -/
def downFrom (hi : Int) (n : Nat) : List D := (List.range n).map fun k => .int (hi - (k : Nat))
def rng3 : List D → Option (List D)
  | [.int i, .int j, .int c] => if (smallR i && smallR j && decide (c = -1)) = true then some (downFrom i (i - j).toNat) else none
  | _ => none
theorem itc_F [Wd] {hi : Int} {n : Nat} {F : Hp} : ItF (Itc hi (-1) n) F (downFrom hi n) := fun i F' H' hF hl => by
  refine ⟨fun x hx => ?_, fun h => ?_⟩
  · unfold downFrom at hx
    rw [List.getElem?_map] at hx
    obtain ⟨k, hk, e⟩ := Option.map_eq_some_iff.mp hx
    obtain ⟨h1, h2⟩ := List.getElem?_eq_some_iff.mp hk
    rw [List.getElem_range] at h2
    subst h2
    rw [List.length_range] at h1
    refine ⟨h1, fun v H2 y => ?_⟩
    obtain ⟨rfl, rfl⟩ := y
    subst e
    refine ⟨F', .refl hl, ?_⟩
    rw [show hi + ((i : Nat) : Int) * -1 = hi - ((i : Nat) : Int) by omega]
    exact .int _
  · unfold downFrom at h
    rw [List.length_map, List.length_range] at h
    exact h
section
variable [Wd] {X : Cx} {A : Amb} {W : WX} {tg a b c : Expr} {g : Rho → Res (List D)} {p pos : Pos}
theorem i_rng3 (hm : X.mg "range" = none) (ha : BAs X A W [a, b, c] g) (hg : Gl X "range" := by rfl)
    (hs : starEach [a, b, c] X.env = (false, eval a X.env) :: starEach [b, c] X.env := by rfl) (hpl : (backTo pos (starEach [b, c] X.env)).any (·.1) = false := by rfl) : IF X A W tg (.Call (.Name "range" p) [a, b, c] [] pos) (cb rng3 g) :=
  piI (pi_range3 hg hm ha hs hpl) fun σ H R ⟨F, ρ, S, q⟩ => ⟨F, ρ, S, by
    unfold cb at q
    cases hf : g ρ with
    | bad => rw [hf] at q; exact q
    | ex c => rw [hf] at q; exact q
    | ok ds =>
      rw [hf] at q
      simp only [Res.bind_ok] at q
      intro vs F1 H1 x1 i1
      cases hk : rng3 ds with
      | none => rw [hk] at q; exact q.elim
      | some xs =>
        rw [hk] at q
        unfold rng3 at hk
        split at hk
        · rename_i i j c
          split at hk
          · rename_i hj
            cases hk
            rw [Bool.and_eq_true, Bool.and_eq_true] at hj
            have h1 := smallR_ok hj.1.1
            have h2 := smallR_ok hj.1.2
            have h3 := of_decide_eq_true hj.2
            subst h3
            cases i1 with
            | cons a1 t =>
              cases t with
              | cons a2 t =>
                cases t with
                | cons a3 t =>
                  cases t
                  cases a1.int
                  cases a2.int
                  cases a3.int
                  exact ⟨i, j, -1, (i - j).toNat, rfl, RgC.neg (by omega) (by omega) (by omega) (by omega), q _ F1 H1 x1 itc_F (by unfold downFrom; rw [List.length_map, List.length_range, sizeLine_eq]; omega)⟩
          · cases hk
        · cases hk⟩
end
/-! ### is None -/
def isNone : D → Bool
  | .none => true
  | _ => false
def isN (neg : Bool) (f : Rho → Res D) : Rho → Res D := fun ρ => (f ρ).map fun d => .bool (neg ^^ isNone d)
theorem IsH.isNon [Wd] {F H : Hp} {v : V} {d : D} (h : IsH F H v d) : decide (v = .non) = isNone d := by
  cases h with
  | of h => cases h <;> simp [isNone]
  | lst h z t => simp [isNone]
section
variable [Wd] {X : Cx} {A : Amb} {W : WX} {a : Expr} {f : Rho → Res D} {pos pos' : Pos} {j : Nat}
theorem c_isN (h : BE X A W a f) : PC X .Is a (.Constant .none j pos') (tD A W (isN false f)) := ⟨fun pins s σ H Q I ⟨F, ρ, S, q⟩ => (pc_isN h).run pins s σ H Q I ⟨F, ρ, S, by
    unfold isN at q
    cases hf : f ρ with
    | bad => rw [hf] at q; exact q
    | ex c => rw [hf] at q; exact q
    | ok d =>
      rw [hf] at q
      intro v F' H' x i
      show Q (.bl (decide (v = .non))) H'
      rw [i.isNon]
      have := q (.bl (isNone d)) F' H' x
      simp only [Bool.false_xor] at this
      exact this (.bl _)⟩⟩
theorem c_notN (h : BE X A W a f) : PC X .IsNot a (.Constant .none j pos') (tD A W (isN true f)) := ⟨fun pins s σ H Q I ⟨F, ρ, S, q⟩ => (pc_notN h).run pins s σ H Q I ⟨F, ρ, S, by
    unfold isN at q
    cases hf : f ρ with
    | bad => rw [hf] at q; exact q
    | ex c => rw [hf] at q; exact q
    | ok d =>
      rw [hf] at q
      intro v F' H' x i
      show Q (.bl (!decide (v = .non))) H'
      rw [i.isNon]
      have := q (.bl (!isNone d)) F' H' x
      simp only [Bool.true_xor] at this
      exact this (.bl _)⟩⟩
theorem d_isN (h : BE X A W a f) : DE X A W (.Compare a [.Is] [.Constant .none j pos'] pos) (isN false f) := pe_cmp (c_isN h) (by rfl)
theorem d_notN (h : BE X A W a f) : DE X A W (.Compare a [.IsNot] [.Constant .none j pos'] pos) (isN true f) := pe_cmp (c_notN h) (by rfl)
theorem tT_of {e : Expr} {g : Rho → Res D} (h : PT X e (L2.tB (tD A W g))) : DT X A W e (toB g) := ptI h fun σ H Q ⟨F, ρ, S, q⟩ => ⟨F, ρ, S, by
    unfold toB at q
    cases hf : g ρ with
    | bad => rw [hf] at q; exact q
    | ex c => rw [hf] at q; exact q
    | ok d =>
      rw [hf] at q
      simp only [Res.bind_ok] at q
      intro v F' H' x i
      cases d with
      | bool b => cases i; exact ⟨b, rfl, q F' H' x⟩
      | _ => exact q.elim⟩
theorem t_isN (h : BE X A W a f) : DT X A W (.Compare a [.Is] [.Constant .none j pos'] pos) (toB (isN false f)) := tT_of (pt_cmp (c_isN h) (by rfl))
theorem t_notN (h : BE X A W a f) : DT X A W (.Compare a [.IsNot] [.Constant .none j pos'] pos) (toB (isN true f)) := tT_of (pt_cmp (c_notN h) (by rfl))
end
/-! ### l.index(x) -/
def indexD : D → D → Option D
  | .list xs, y => if SeqAt.shaped (.list xs) = true ∧ SeqAt.shaped y = true then (xs.findIdx? fun z => PyData.eqv z y).map fun j => .int (j : Nat) else none
  | _, _ => none
def idxR (f g : Rho → Res D) : Rho → Res D := fun ρ => (f ρ).bind fun a => match a with
  | .list xs => (g ρ).bind fun b => .of (indexD (.list xs) b)
  | _ => .bad
section
variable [Wd] {X : Cx} {A : Amb} {W : WX} {o e : Expr} {f g : Rho → Res D} {apos cpos : Pos}
theorem d_index (hu : X.A.units + 65 < cLine) (ho : BE X A W o f) (ha : DE X A W e g) (hbase : attributeBase o "index" X.env (eval o X.env) = eval o X.env := by rfl)
    (hfew : ((backTo cpos (starEach (e :: []) X.env)).all (fun x => !x.1) && (backToKw cpos (keywordEach [] X.env)).all (fun x => x.1.isSome)
      && decide ((e :: []).length + ([] : List Keyword).length + (if ([] : List Keyword).isEmpty then 0 else 1) < 30)) = true := by rfl)
    (hline : (apos.endLine == cpos.line) = true := by rfl) (hs : starEach (e :: []) X.env = (false, eval e X.env) :: starEach [] X.env := by rfl) (hplain : (backTo cpos (starEach [] X.env)).any (·.1) = false := by rfl) :
    DE X A W (.Call (.Attribute o "index" apos) [e] [] cpos) (idxR f g) :=
  peI (pe_bm PySem.F.plainAttrs_list PySem.F.slot_list_index PySem.F.type_list_index (mt_indexD hu) ho (pa_cons ha pa_nil hs) hbase hfew hline hs hplain) fun σ H Q ⟨F, ρ, S, q⟩ => ⟨F, ρ, S, by
    unfold idxR at q
    cases hf : f ρ with
    | bad => rw [hf] at q; exact q
    | ex c => rw [hf] at q; exact q
    | ok a =>
      rw [hf] at q
      simp only [Res.bind_ok] at q
      intro v F1 H1 x1 i1
      cases a with
      | list xs =>
        obtain ⟨p, vs, rfl, hp, z, t⟩ := i1.list x1.le
        refine ⟨.inl ⟨rfl, _, .inl hp⟩, F1, ρ, S.grow x1, ?_⟩
        cases hg : g ρ with
        | bad => rw [hg] at q; exact q
        | ex c => rw [hg] at q; exact q.ext x1
        | ok b =>
          rw [hg] at q
          simp only [Res.bind_ok] at q
          intro w F2 H2 x2 i2
          cases hk : indexD (.list xs) b with
          | none => rw [hk] at q; exact q.elim
          | some d =>
            rw [hk] at q
            unfold indexD at hk
            simp only at hk
            split at hk
            · rename_i hs
              obtain ⟨j, hj, rfl⟩ := Option.map_eq_some_iff.mp hk
              obtain ⟨hlt, h1, h2⟩ := List.findIdx?_eq_some_iff_getElem.mp hj
              have i1' := i1.ext x2
              refine ⟨p, w, b, xs, j, xs[j], rfl, rfl, i1'.dp x2.le (noDct_shaped hs.1), (i2.mono x2.le).dp (noDct_shaped hs.2), hs.1, hs.2, List.getElem?_eq_getElem hlt, h1, fun m z' hm hz => ?_, q _ F2 H2 (x1.trans x2) (.int _)⟩
              obtain ⟨hml, rfl⟩ := List.getElem?_eq_some_iff.mp hz
              simpa using h2 m hm
            · cases hk
      | _ => exact q.elim⟩
end
/-! ### max of a list of ints -/
def intsOf : List D → Option (List Int)
  | [] => some []
  | .int i :: ds => (intsOf ds).map (i :: ·)
  | _ => none
theorem intsOf_some : ∀ {ds : List D} {ns : List Int}, intsOf ds = some ns → ds = ns.map PyData.int
  | [], _, h => by cases h; rfl
  | .int i :: ds, ns, h => by
    simp only [intsOf] at h
    obtain ⟨ms, hm, rfl⟩ := Option.map_eq_some_iff.mp h
    rw [List.map_cons, intsOf_some hm]
  | .none :: _, _, h => by simp [intsOf] at h
  | .bool _ :: _, _, h => by simp [intsOf] at h
  | .str _ :: _, _, h => by simp [intsOf] at h
  | .list _ :: _, _, h => by simp [intsOf] at h
  | .tuple _ :: _, _, h => by simp [intsOf] at h
  | .dict _ :: _, _, h => by simp [intsOf] at h
theorem intsOf_map (ns : List Int) : intsOf (ns.map PyData.int) = some ns := by
  induction ns with
  | nil => rfl
  | cons n ns ih => simp [intsOf, ih]
def maxI (n : Int) (ns : List Int) : Int := ns.foldl max n
theorem maxI_ge (n : Int) (ns : List Int) : n ≤ maxI n ns ∧ ∀ y ∈ ns, y ≤ maxI n ns := by
  unfold maxI
  induction ns generalizing n with
  | nil => simp
  | cons m ns ih =>
    obtain ⟨h1, h2⟩ := ih (max n m)
    rw [List.foldl_cons]
    refine ⟨by omega, fun y hy => ?_⟩
    rcases List.mem_cons.mp hy with rfl | hy
    · omega
    · exact h2 y hy
theorem maxI_mem (n : Int) (ns : List Int) : maxI n ns ∈ n :: ns := by
  unfold maxI
  induction ns generalizing n with
  | nil => simp
  | cons m ns ih =>
    rw [List.foldl_cons]
    rcases List.mem_cons.mp (ih (max n m)) with h | h
    · rw [h]
      by_cases hm : n ≤ m
      · rw [Int.max_eq_right hm]; simp
      · rw [Int.max_eq_left (by omega)]; simp
    · simp [h]
def maxLD : List D → Option D
  | [.list ds] => match intsOf ds with
    | some (n :: ns) => some (.int (maxI n ns))
    | _ => none
  | _ => none
theorem ints_of_IsA [Wd] {F : Hp} : ∀ {vs : List V} {ns : List Int}, IsA F vs (ns.map PyData.int) → vs = ns.map V.int
  | _, [], h => by cases h; rfl
  | _, n :: ns, h => by
    cases h with
    | cons h t => cases h; rw [List.map_cons, ints_of_IsA t]
section
variable [Wd] {X : Cx}
theorem c_maxL (hc : X.calm = true) : CallR X (.builtin "max") (cD maxLD) := by
  intro pins s σ H xs us Q I r h
  obtain ⟨F, as, d, le, ia, e, q⟩ := h
  unfold maxLD at e
  split at e
  · rename_i ds
    split at e
    · rename_i n ns hn
      cases e
      have hd := intsOf_some hn
      subst hd
      obtain ⟨v, rfl, i⟩ := ia.one
      obtain ⟨p, vs, rfl, hp, z, t⟩ := i.list le
      have hv := ints_of_IsA t
      subst hv
      refine cr_max hc pins s σ H _ us Q I r ⟨p, n :: ns, rfl, .inl hp, Nat.succ_pos _, fun m hm hy => ?_⟩
      have e : m = maxI n ns := by
        have h1 := hy _ (maxI_mem n ns)
        have h2 := maxI_ge n ns
        rcases List.mem_cons.mp hm with rfl | hm
        · omega
        · have := h2.2 m hm; omega
      rw [e]
      exact q _ F H (.refl le) (.int _)
    · cases e
  · cases e
end
/-! ### xs[::-1] -/
def revR (f : Rho → Res D) : Rho → Res (List D) := fun ρ => (f ρ).bind fun d => match d with
  | .list xs => .ok xs.reverse
  | _ => .bad
section
variable [Wd] {X : Cx} {A : Amb} {W : WX} {e : Expr} {f : Rho → Res D} {k : Nat} {p1 p2 p3 pos : Pos}
theorem o_rev (h : BE X A W e f) : OE X A W (.Subscript e (.Slice none none (some (.UnaryOp .USub (.Constant (.int 1) k p1) p2)) p3) pos) (revR f) := peI (pe_revL h) fun σ H Q ⟨F, ρ, S, q⟩ => ⟨F, ρ, S, by
  unfold revR at q
  cases hf : f ρ with
  | bad => rw [hf] at q; exact q
  | ex c => rw [hf] at q; exact q
  | ok d =>
    rw [hf] at q
    simp only [Res.bind_ok] at q
    intro v F1 H1 x1 i1
    cases d with
    | list xs =>
      obtain ⟨p, vs, rfl, hp, z, t⟩ := i1.list x1.le
      exact ⟨p, vs, rfl, .inl hp, fun a ha => q a _ F1 _ (x1.trans (.fresh x1.le ha)) (none_of_le x1.le ha) (Same.free x1.keep ha) upd_same (by rw [List.length_reverse]; exact z) t.reverse⟩
    | _ => exact q.elim⟩
end
end DL

/-! The data layer, part 16: append of what an expression with an effect gives; while loops by steps. -/
namespace DL
open PySem PySem.Spec PyProof.Rows L2
def appX (i : Nat) (f : Rho → Res (D × Rho)) : Rho → SO := ownS i fun _ => appE i f
section
variable [Wd] {X : Cx} {A : Amb} {W : WX} {e : Expr} {f : Rho → Res (D × Rho)}
theorem s_appX (i : Nat) {x : Str} {apos cpos p1 pos : Pos} (h : EE X A W e f) (hN : X.N[i]? = some x := by rfl) (hv : Vis X.env.scope x := by first | exact Or.inl rfl | exact Or.inr (Or.inl rfl) | exact Or.inr (Or.inr rfl)) (hd : (x == ("__debug__" : Str)) = false := by decide)
    (hcd : (x == ("__classdict__" : Str)) = false := by decide) (hbase : attributeBase (.Name x p1) "append" X.env (eval (.Name x p1) X.env) = eval (.Name x p1) X.env := by rfl)
    (hfew : ((backTo cpos (starEach (e :: []) X.env)).all (fun x => !x.1) && (backToKw cpos (keywordEach [] X.env)).all (fun x => x.1.isSome)
      && decide ((e :: []).length + ([] : List Keyword).length + (if ([] : List Keyword).isEmpty then 0 else 1) < 30)) = true := by rfl)
    (hline : (apos.endLine == cpos.line) = true := by rfl) (hs : starEach (e :: []) X.env = (false, eval e X.env) :: starEach [] X.env := by rfl) (hplain : (backTo cpos (starEach [] X.env)).any (·.1) = false := by rfl)
    (hsw : swapsWith (.Call (.Attribute (.Name x p1) "append" apos) [e] [] cpos) none pos.line X.env = pure false := by rfl) :
    DS X A W (.Expr (.Call (.Attribute (.Name x p1) "append" apos) [e] [] cpos) pos) (appX i f) :=
  psI (ps_expr (pe_bm PySem.F.plainAttrs_list PySem.F.slot_list_append PySem.F.type_list_append mt_append (pe_var hN hv hd hcd) (pa_cons h pa_nil hs) hbase hfew hline hs hplain) hsw) fun E σ H ⟨F, ρ, S, q⟩ => by
    unfold appX at q
    obtain ⟨xs, hr, q⟩ := own_of q
    obtain ⟨v, e1, p, vs, rfl, hF, h0, hp, hz, hA⟩ := S.val i _ hr
    refine ⟨_, e1, .inl ⟨rfl, _, .inl (.inl hp)⟩, F, ρ, S, ?_⟩
    unfold appE thenE at q
    cases hf : f ρ with
    | bad => rw [hf] at q; exact q
    | ex c => rw [hf] at q; exact Po.pex (E := E) S q
    | ok d =>
      rw [hf] at q
      simp only at q
      intro w F1 H1 S1 up i1
      cases hr1 : d.2[i]? with
      | none => rw [hr1] at q; exact q.elim
      | some o =>
        rw [hr1] at q
        cases o with
        | none => exact q.elim
        | some bb =>
          cases bb with
          | d x => exact q.elim
          | dct x => exact q.elim
          | raw => exact q.elim
          | own ys =>
            simp only at q
            obtain ⟨v', e1', p', vs', rfl, hF', h0', hp', hz', hA'⟩ := S1.val i _ hr1
            rw [e1] at e1'
            cases e1'
            by_cases hl : ys.length < sizeLine
            · rw [if_pos hl] at q
              have hl' : vs'.length < sizeLine := by rw [hA'.length]; exact hl
              refine ⟨p, vs', w, rfl, rfl, hp', hl', ?_⟩
              exact q σ F1 _ (S1.put hr1 e1 hF' h0' hp' (by rw [List.length_append]; exact hl') (hA'.append (.cons i1 .nil))) up
            · rw [if_neg hl] at q; exact q.elim
end
/-! ### while by steps -/
def iter {α : Type} (c : α → Bool) (step : α → α) : Nat → α → α
  | 0, a => a
  | n + 1, a => if c a = true then iter c step n (step a) else a
theorem while_iter {α : Type} {w : Rho → Res Bool} {b : Rho → SO} (I : α → Rho → Prop) (c : α → Bool) (step : α → α) (μ : α → Nat) (hw : ∀ a ρ, I a ρ → w ρ = .ok (c a))
    (hb : ∀ a ρ, I a ρ → c a = true → μ (step a) < μ a ∧ ∃ ρ', b ρ = .nx ρ' ∧ I (step a) ρ') : ∀ (n : Nat) (a : α) (ρ : Rho), μ a ≤ n → I a ρ → ∃ ρ', whileS w b ρ = .nx ρ' ∧ I (iter c step n a) ρ' ∧ c (iter c step n a) = false
  | 0, a, ρ, hn, h => by
    cases hc : c a with
    | true => have := (hb a ρ h hc).1; omega
    | false =>
      refine ⟨ρ, ?_, h, hc⟩
      rw [whileS_eq, hw a ρ h, hc]
  | n + 1, a, ρ, hn, h => by
    cases hc : c a with
    | true =>
      obtain ⟨h1, ρ', h2, h3⟩ := hb a ρ h hc
      obtain ⟨ρ2, h4, h5⟩ := while_iter I c step μ hw hb n (step a) ρ' (by omega) h3
      refine ⟨ρ2, ?_, ?_⟩
      · rw [whileS_eq, hw a ρ h, hc]
        simp only
        rw [h2]
        exact h4
      · unfold iter
        rw [hc, if_pos rfl]
        exact h5
    | false =>
      refine ⟨ρ, ?_, ?_⟩
      · rw [whileS_eq, hw a ρ h, hc]
      · unfold iter
        rw [hc, if_neg (by decide)]
        exact ⟨h, hc⟩
end DL

/-! The data layer, part 17: dicts read: d[k], d.get(k, x), for k in d; min, max of lists of data. -/
namespace DL
open PySem PySem.Spec PyProof.Rows L2

/-! ### what stands at a key -/
theorem atKey_EntV {ys : List Ent} {xs : List (NestedKey × Addr × Value)} {k : NestedKey} (h : EntV ys xs) :
    (atKey xs k = none ∧ (ys.find? fun y => decide (y.1 = k)) = none) ∨ ∃ p y, atKey xs k = some p ∧ (ys.find? fun y => decide (y.1 = k)) = some y ∧ RelV y.2.2 p.2 := by
  induction h with
  | nil => exact .inl ⟨rfl, rfl⟩
  | cons h t ih =>
    rename_i y x ys xs
    by_cases e : y.1 = k
    · have e' : x.1 = k := h.1.symm.trans e
      exact .inr ⟨x.2, y, by simp [atKey, List.find?_cons, e'], by simp [List.find?_cons, e], h.2.2⟩
    · have e' : ¬ x.1 = k := fun z => e (h.1.trans z)
      have a1 : atKey (x :: xs) k = atKey xs k := by simp [atKey, List.find?_cons, e']
      have a2 : ((y :: ys).find? fun y => decide (y.1 = k)) = ys.find? fun y => decide (y.1 = k) := by simp [List.find?_cons, e]
      rw [a1, a2]
      exact ih
theorem find_EntsIs [Wd] {F : Hp} {ys : List Ent} {kvs : List (D × D)} {k : NestedKey} {kd : D} (hk : keyOf kd = some k) (h : EntsIs F ys kvs) :
    ((ys.find? fun y => decide (y.1 = k)) = none ∧ getK kvs kd = none) ∨ ∃ y d, (ys.find? fun y => decide (y.1 = k)) = some y ∧ getK kvs kd = some d ∧ Is F y.2.2 d := by
  induction h with
  | nil => exact .inl ⟨rfl, rfl⟩
  | cons h t ih =>
    rename_i y e ys kvs
    by_cases c : y.1 = k
    · have c' : keyOf e.1 = keyOf kd := by rw [h.1, hk, c]
      exact .inr ⟨y, e.2, by simp [List.find?_cons, c], by simp [getK, List.find?_cons, c'], h.2.2.2⟩
    · have c' : ¬ keyOf e.1 = keyOf kd := fun z => c (by rw [h.1, hk] at z; exact Option.some.inj z)
      have a1 : getK (e :: kvs) kd = getK kvs kd := by simp [getK, List.find?_cons, c']
      have a2 : ((y :: ys).find? fun y => decide (y.1 = k)) = ys.find? fun y => decide (y.1 = k) := by simp [List.find?_cons, c]
      rw [a1, a2]
      exact ih
section
variable [Wd] {X : Cx} {pins : List (Addr × Obj)} {σ : L2.St} {H : Hp} {s : Shared}
/-- the key in the heap, what is found -/
theorem dct_look {a : Addr} {ys : List Ent} {o : Obj} {kvs : List (D × D)} {F : Hp} {y : V} {iv : Value} {kd : D} (I : L2.Inv X pins σ H s) (le : Same F H) (h : H a = some (dctO X.w a ys o)) (e : EntsIs F ys kvs) (hk : okKey kd = true) (iy : Is F y kd) (ry : RelV y iv) :
    ∃ (b : Addr) (k : NestedKey) (xs : List (NestedKey × Addr × Value)), iv = .ref b ∧ (nestedKind X.prog X.w).is s.heap k b ∧ (a == sysModules) = false ∧ s.heap.DictOfH (nestedKind X.prog X.w) a xs ∧
      ((atKey xs k = none ∧ getK kvs kd = none) ∨ ∃ p v d, atKey xs k = some p ∧ getK kvs kd = some d ∧ RelV v p.2 ∧ Is F v d) := by
  obtain ⟨zs, ks, ed, ek, hd⟩ := okKey_of hk
  subst ed
  cases iy with
  | tup hp z t =>
    rename_i b vs
    cases ry
    obtain ⟨lo, xs, ev, dd⟩ := Inv.dctH I h (e.mono le)
    refine ⟨b, .tup ks, xs, rfl, ⟨nested_of I _ _ _ _ (.tup (Rd.mono le hp) z (t.mono le)) rfl ek, hd⟩, lo, dd, ?_⟩
    rcases atKey_EntV (k := .tup ks) ev with ⟨a1, a2⟩ | ⟨p, y, a1, a2, a3⟩
    · rcases find_EntsIs ek e with ⟨_, b2⟩ | ⟨y', d, b1, _⟩
      · exact .inl ⟨a1, b2⟩
      · rw [a2] at b1; cases b1
    · rcases find_EntsIs ek e with ⟨b1, _⟩ | ⟨y', d, b1, b2, b3⟩
      · rw [a2] at b1; cases b1
      · rw [a2] at b1
        cases b1
        exact .inr ⟨p, _, d, a1, b2, a3, b3⟩
theorem dct_type {a : Addr} {ys : List Ent} {o : Obj} {w : World} (I : L2.Inv X pins σ H s) (h : H a = some (dctO w a ys o)) : s.TypeIs (.ref a) "dict" ∧ (∀ b, Value.ref a = .ref b → ∃ ob, s.heap.get? b = some ob ∧ ob.dict = none) := by
  obtain ⟨_, _, _, ⟨o, es, ep, ho, hx, hd, he⟩, _⟩ := (Inv.dct I h).1
  refine ⟨⟨o, ho, hx.1⟩, fun b q => ?_⟩
  cases q
  exact ⟨o, ho, hx.2.1⟩
end

/-! ### d[k] -/
/-- the dict at x read at y -/
def rDk [Wd] (w : World) : R2 := fun x y H Q => ∃ (F : Hp) (a : Addr) (ys : List Ent) (o : Obj) (kvs : List (D × D)) (k d : D), x = .ref a ∧ Same F H ∧ H a = some (dctO w a ys o) ∧ EntsIs F ys kvs ∧ okKey k = true ∧ Is F y k ∧ getK kvs k = some d ∧ ∀ v, Is F v d → Q v H
section
variable [Wd] {X : Cx}
theorem ix_dct (hu : X.A.units + 65 < cLine) : IxR X (rDk X.w) := by
  intro value slice pins s σ H x y v u Q I rx ry h hs
  obtain ⟨F, a, ys, o, kvs, k, d, rfl, le, ha, he, hk, iy, hg, q⟩ := h
  cases rx
  obtain ⟨b, kk, xs, rfl, hkey, lo, dd, hl⟩ := dct_look I le ha he hk iy ry
  have hT := (dct_type I ha).1
  rcases hl with ⟨_, hn⟩ | ⟨p, v, d', hp, hg', rv, iv⟩
  · rw [hg] at hn; cases hn
  · rw [hg] at hg'
    cases hg'
    have core : wpAny (model X.prog X.w) X.A (getItem (.ref a) (.ref b)) (EP X pins σ Q) X.xe s :=
      wpAny_getItem_heap (show X.A.units + 1 + 8 < cLine by omega) hkey dd hp ⟨v, H, I.tok _, rv, q v iv⟩
    unfold subscriptTail
    refine wpAny_bind ?_
    rw [getitemInPython_of_ne hT.not_modules]
    refine wpAny_bind (wpAny_specialOf hT PySem.F.slot_dict_getitem.lookup ?_)
    have fin : wpAny (model X.prog X.w) X.A (subscripted slice false (.ref a) (.ref b)) (fun r s₃ => wpAny (model X.prog X.w) X.A (letTemporaryGo value (.ref a) r >>= fun _ => pure r) (EP X pins σ Q) X.xe s₃) X.xe s := by
      rw [hs]
      exact wpAny_operating (wpAny_mono core (fun r s₃ h₃ => wpAny_bind (wpAny_letTemporaryGo (wpAny_pure h₃))) fun _ _ x => x)
    first
      | exact wpAny_pure (wpAny_bind fin)
      | exact wpAny_bind (wpAny_pure (wpAny_bind fin))
      | exact wpAny_bind fin
theorem no_key_O {F : Hp} {k : D} (hk : okKey k = true) : ∀ {fs : List (Str × V)} {kvs : List (D × D)}, IsO F fs kvs → getK kvs k = none
  | _, _, .nil => rfl
  | _, _, .cons (f := f) (es := es) _ t => by
    obtain ⟨xs, ks, _, ek, _⟩ := okKey_of hk
    have ih := no_key_O hk t
    unfold getK at ih ⊢
    rw [List.find?_cons]
    have : decide (keyOf (PyData.str f) = keyOf k) = false := by rw [ek]; simp [keyOf]
    rw [this]
    exact ih
/-- x[y], x a dict -/
def ixK : D → D → Option D
  | .dict kvs, k => if okKey k = true then getK kvs k else none
  | _, _ => none
theorem o_ixK (hw : Wd.w = X.w) (hu : X.A.units + 65 < cLine) : IxR X (rD ixK) := by
  intro value slice pins s σ H x y v u Q I rx ry h hs
  obtain ⟨F, a, b, d, le, ia, ib, e, q⟩ := h
  unfold ixK at e
  split at e
  · rename_i kvs
    split at e
    · rename_i hk
      have iy : Is F y b := by
        obtain ⟨xs, ks, ed, _⟩ := okKey_of hk
        subst ed
        exact ib.tupIs
      cases ia with
      | of ia =>
        cases ia with
        | dct ha hz he => exact ix_dct hu value slice pins s σ H _ y v u Q I rx ry ⟨F, _, _, _, kvs, b, d, rfl, le, by rw [← hw]; exact le _ _ ha, he.ents, hk, iy, e, fun v i => q v F H (.refl le) i⟩ hs
        | obj ha hO =>
          exfalso
          have := no_key_O (F := F) hk hO
          unfold getK at e this
          obtain ⟨xs, ks, _, ek, _⟩ := okKey_of hk
          rw [List.find?_cons, show decide (keyOf ((PyData.none, PyData.none) : D × D).1 = keyOf b) = false by rw [ek]; simp [keyOf]] at e
          rw [this] at e
          cases e
    · cases e
  · cases e
end
def dgetIR (i : Nat) (g : Rho → Res D) : Rho → Res D := dctR i fun kvs ρ => (g ρ).bind fun k => if okKey k = true then .of (getK kvs k) else .bad
def dgetR (i : Nat) (g h : Rho → Res D) : Rho → Res D := dctR i fun kvs ρ => (g ρ).bind fun k => (h ρ).bind fun d => if okKey k = true then .ok ((getK kvs k).getD d) else .bad
section
variable [Wd] {X : Cx} {A : Amb} {W : WX} {k e : Expr} {g h : Rho → Res D} {p1 pos apos cpos : Pos}
/-- x[k], x a dict of one's own in slot i -/
theorem d_dgetI (i : Nat) {x : Str} (hw : Wd.w = X.w) (hu : X.A.units + 65 < cLine) (hk : DE X A W k g) (hs : PlainIx k) (hN : X.N[i]? = some x := by rfl) (hvi : Vis X.env.scope x := by first | exact Or.inl rfl | exact Or.inr (Or.inl rfl) | exact Or.inr (Or.inr rfl))
    (hd : (x == ("__debug__" : Str)) = false := by decide) (hcd : (x == ("__classdict__" : Str)) = false := by decide) : DE X A W (.Subscript (.Name x p1) k pos) (dgetIR i g) :=
  peI (pe_ix (ix_dct hu) (pe_var hN hvi hd hcd) hk hs) fun σ H Q ⟨F, ρ, S, q⟩ => by
    unfold dgetIR at q
    obtain ⟨kvs, hr, eq⟩ := dctR_of fun z => by rw [z] at q; exact q
    rw [eq] at q
    obtain ⟨v, e1, p, ys, o, rfl, hF, h0, hp, hz, hE⟩ := S.val i _ hr
    refine ⟨_, e1, F, ρ, S, ?_⟩
    cases hf : g ρ with
    | bad => rw [hf] at q; exact q
    | ex c => rw [hf] at q; exact q
    | ok kd =>
      rw [hf] at q
      simp only [Res.bind_ok] at q
      intro y F1 H1 x1 i1
      by_cases hc : okKey kd = true
      · rw [if_pos hc] at q
        cases hg : getK kvs kd with
        | none => rw [hg] at q; exact q.elim
        | some d =>
          rw [hg] at q
          exact ⟨F1, p, ys, o, kvs, kd, d, rfl, x1.le, by rw [← hw]; exact x1.keep _ _ hp, hE.mono x1.up, hc, i1, hg, fun v i => q v F1 H1 x1 i⟩
      · rw [if_neg hc] at q; exact q.elim
/-- x.get(k, e) -/
theorem d_dget (i : Nat) {x : Str} (hw : Wd.w = X.w) (hu : X.A.units + 65 < cLine) (hk : DE X A W k g) (he : DE X A W e h) (m : M2 X (.Name x p1) "get" apos k e cpos) (hN : X.N[i]? = some x := by rfl) (hvi : Vis X.env.scope x := by first | exact Or.inl rfl | exact Or.inr (Or.inl rfl) | exact Or.inr (Or.inr rfl))
    (hd : (x == ("__debug__" : Str)) = false := by decide) (hcd : (x == ("__classdict__" : Str)) = false := by decide) : DE X A W (.Call (.Attribute (.Name x p1) "get" apos) [k, e] [] cpos) (dgetR i g h) := by
  refine ⟨fun pins s σ H Q I ⟨F, ρ, S, q⟩ => ?_⟩
  unfold dgetR at q
  obtain ⟨kvs, hr, eq⟩ := dctR_of fun z => by rw [z] at q; exact q
  rw [eq] at q
  obtain ⟨v, e1, p, ys, o, rfl, hF, h0, hp, hz, hE⟩ := S.val i _ hr
  refine wpAny_Call_method m.base m.few m.line PySem.F.plainAttrs_dict PySem.F.slot_dict_get PySem.F.type_dict_get (thn ((pe_var (pos := p1) hN hvi hd hcd).run pins s σ H (fun y H1 => y = .ref p ∧ H1 = H) I ⟨_, e1, rfl, rfl⟩) fun u s1 ⟨y, H1, I1, rx, ey, eH⟩ => ?_)
  subst ey eH
  obtain rfl : u = Value.ref p := rx
  obtain ⟨t1, t2⟩ := dct_type I1 hp
  refine ⟨t1, t2, ?_⟩
  rw [m.trees]
  refine Calls.callWith_builtin rfl (Calls.evalArgs_plain (Calls.spliced_cons (thn (hk.run pins s1 σ H1 (fun y H2 => ∃ F2 kd, Ext F H1 F2 H2 ∧ Sim A F2 H2 σ ρ ∧ Is F2 y kd ∧ match (h ρ).bind fun d => if okKey kd = true then Res.ok ((getK kvs kd).getD d) else .bad with
      | .ok d => ∀ v F' H', Ext F H1 F' H' → Is F' v d → Q v H'
      | .ex c => Pex A W F H1 σ c
      | .bad => False) I1 ⟨F, ρ, S, ?_⟩) fun iv s2 ⟨y, H2, I2, ry, F2, kd, x2, S2, iy, q2⟩ =>
    Calls.spliced_cons (thn (he.run pins s2 σ H2 (fun z H3 => ∃ F3 d, Ext F2 H2 F3 H3 ∧ Is F3 z d ∧ okKey kd = true ∧ ∀ v F' H', Ext F H1 F' H' → Is F' v ((getK kvs kd).getD d) → Q v H') I2 ⟨F2, ρ, S2, ?_⟩) fun fv s3 ⟨z, H3, I3, rz, F3, d, x3, iz, hc, q3⟩ => Calls.spliced_nil ?_))))
  · cases hf : g ρ with
    | bad => rw [hf] at q; exact q
    | ex c => rw [hf] at q; exact q
    | ok kd =>
      rw [hf] at q
      simp only [Res.bind_ok] at q
      exact fun y F' H' x' i' => ⟨F', kd, x', S.grow x', i', q⟩
  · cases hf : h ρ with
    | bad => rw [hf] at q2; exact q2
    | ex c => rw [hf] at q2; exact Pex.ext x2 q2
    | ok d =>
      rw [hf] at q2
      simp only [Res.bind_ok] at q2
      by_cases hc : okKey kd = true
      · rw [if_pos hc] at q2
        exact fun z F' H' x' i' => ⟨F', d, x', i', hc, q2⟩
      · rw [if_neg hc] at q2; exact q2.elim
  · have xx := x2.trans x3
    obtain ⟨b, kk, xs, rfl, hkey, lo, dd, hl⟩ := dct_look I3 x3.le (by rw [← hw]; exact xx.keep _ _ hp) (hE.mono xx.up) hc (iy.mono x3.up) ry
    refine call_meetsIn PySem.F.slot_dict_get dd.typeIs PySem.F.entry_dict_get (PySem.F.args_dict_get_3 _ _ _) (meetsH_dict_get_default (nestedKind X.prog X.w) p b lo fv) ⟨show X.A.units + 1 + 8 < cLine by omega, kk, xs, hkey, dd, ?_⟩
    rcases hl with ⟨h1, h2⟩ | ⟨pp, v, d', h1, h2, rv, iv⟩
    · rw [h1]
      rw [h2] at q3
      exact ⟨z, H3, I3.tok _, rz, q3 _ F3 H3 xx iz⟩
    · rw [h1]
      rw [h2] at q3
      exact ⟨v, H3, I3.tok _, rv, q3 _ F3 H3 xx iv⟩
end
end DL

/-! The data layer, part 18: for k in d; min, max of lists of data. -/
namespace DL
open PySem PySem.Spec PyProof.Rows L2

/-! ### for k in d, for a comprehension -/
def Itq (w : World) (d : Addr) (o : Obj) (ys : List Ent) : It :=
  ⟨fun i H => H d = some (dctO w d ys o) ∧ i < ys.length, fun i H x H' => H' = H ∧ ∃ y, ys[i]? = some y ∧ x = .ref y.2.1, fun i H => H d = some (dctO w d ys o) ∧ ys.length ≤ i⟩
theorem EntV.get {ys : List Ent} {xs : List (NestedKey × Addr × Value)} (h : EntV ys xs) {i : Nat} {y : Ent} (e : ys[i]? = some y) : ∃ x, xs[i]? = some x ∧ y.2.1 = x.2.1 := by
  induction h generalizing i with
  | nil => simp at e
  | cons h t ih =>
    cases i with
    | zero => simp at e; subst e; exact ⟨_, rfl, h.2.1⟩
    | succ i => obtain ⟨x, h1, h2⟩ := ih (i := i) (by simpa using e); exact ⟨x, by simpa using h1, h2⟩
section
variable {X : Cx} {pins : List (Addr × Obj)} {σ : L2.St} {H : Hp} {s : Shared}
/-- what the walk wants of the dict -/
theorem dct_walk {d : Addr} {o : Obj} {ys : List Ent} {w : World} (I : L2.Inv X pins σ H s) (h : H d = some (dctO w d ys o)) :
    (d == sysModules) = false ∧ s.heap.get? d = some o ∧ o.ExactDict ∧ ∃ es ep, o.data = .dict es ep ∧ es.size = ys.length ∧ ∀ (i : Nat) (y : Ent), ys[i]? = some y → ∃ en : DictEntry, es[i]? = some en ∧ en.key = Value.ref y.2.1 := by
  have x : dctP w d ys s.heap ∧ s.heap.get? d = some o := (I.hok d _ h).1
  obtain ⟨⟨lo, xs, ev, ⟨o', es, ep, ho, hx, hd, he⟩, _⟩, hget⟩ := x
  rw [hget] at ho
  cases ho
  have hl : ys.length = xs.length := Paired.length ev
  refine ⟨lo, hget, hx, es, ep, hd, ?_, fun i y hy => ?_⟩
  · have := congrArg List.length he
    rw [Array.length_toList, List.length_map] at this
    omega
  · obtain ⟨x, hx, e⟩ := EntV.get ev hy
    have q : es.toList[i]? = some (⟨x.1.hash w, .ref x.2.1, x.2.2⟩ : DictEntry) := by rw [he, List.getElem?_map, hx]; rfl
    rw [Array.getElem?_toList] at q
    exact ⟨_, q, by rw [e]⟩
end
section
variable {P : Program} {w : World} {K : PySem.W.Frag} {tg : Expr} {d : Addr} {o : Obj} {es : Array DictEntry} {ep : Nat} {ys : List Ent} {w0 : World}
theorem turn_q (it : Addr) (hod : o.data = .dict es ep) : Turn P w K tg (Itq w0 d o ys) [it] it (fun i h => h.IsKeyIter it d i ys.length ep) where
  mem := by simp
  obj := fun i h st b hb => by
    have e : b = it := by simpa using hb
    subst e
    obtain ⟨oi, e, c, dd⟩ := st
    exact ⟨oi, e, fun v z => by rw [dd] at z; cases z⟩
  keep := fun i h h' st k => st.at fun oi e => k it (by simp) oi e
  item := by
    intro X hP hw hK hc i pins s σ H E I hf st hg
    subst hP hw hK
    obtain ⟨hd, hi⟩ := hg
    obtain ⟨f0, f1, f2, f3, f4, f5⟩ := hf it (by simp)
    obtain ⟨hs, hgd, hx, es', ep', hdt, hsz, ent⟩ := dct_walk I hd
    obtain ⟨rfl, rfl⟩ := dict_ep hod hdt
    obtain ⟨y, hy⟩ : ∃ p, ys[i]? = some p := ⟨ys[i], List.getElem?_eq_getElem hi⟩
    obtain ⟨en, hen, hkey⟩ := ent i y hy
    refine next_key_item st hgd hdt hsz hen fun h' st' sb => ?_
    have I1 : L2.Inv X pins σ H { s with heap := h' } := I.turned (t' := s.toks) (fun b ob hb e => (sb.2 b hb).trans e) f0 f1 f3 f4 f5
    obtain ⟨oi, e, c, dd⟩ := id st'
    exact ⟨en.key, rfl, go_of (s := { s with heap := h' }) e c dd (by decide) ⟨.ref y.2.1, H, I1, hkey, ⟨rfl, y, hy, rfl⟩, st', fun b hb => (hf b hb).1⟩⟩
  done := by
    intro X hP hw hK hc i pins s σ H E I hf st hg
    subst hP hw hK
    obtain ⟨hd, hi⟩ := hg
    obtain ⟨f0, f1, f2, f3, f4, f5⟩ := hf it (by simp)
    obtain ⟨hs, hgd, hx, es', ep', hdt, hsz, ent⟩ := dct_walk I hd
    obtain ⟨rfl, rfl⟩ := dict_ep hod hdt
    exact next_key_end (I.ok.hd hc) st hgd hdt hsz hi fun h' eb => ⟨rfl, I.turned (t' := s.toks) (fun b ob hb e => eb b ob hb e) f0 f1 f3 f4 f5⟩
  self := fun A i s Q E st h => by
    refine wpAny_pyIter_slot st.typeIs F.slot_dict_keyiterator_iter (wpAny_call_entry F.slot_dict_keyiterator_iter st.typeIs F.entry_dict_keyiterator_iter ?_ (F.args_dict_keyiterator_iter_1 _))
    show wpAny _ _ (ret (.ref it)) _ _ s
    exact wpAny_pure ⟨_, rfl, "dict_keyiterator", _, st.typeIs, F.slot_dict_keyiterator_next.lookup, h⟩
end
def iQ (td : TE) : TI := fun σ H R => td σ H fun x H1 => ∃ d ys o w, x = .ref d ∧ H1 d = some (dctO w d ys o) ∧ R (Itq w d o ys) H1
section
variable {X : Cx} {tg e : Expr} {td : TE}
theorem pi_q (he : PE X e td) : PI X tg e (iQ td) := by
  refine ⟨fun pins s σ H R I h => ?_⟩
  refine thn (he.run pins s σ H _ I h) fun u s1 ⟨x, H1, I1, rx, d, ys, o, w, ex, hd, q⟩ => ?_
  subst ex
  obtain rfl : u = Value.ref d := rx
  obtain ⟨hs, hgd, hx, es, ep, hdt, hsz, ent⟩ := dct_walk I1 hd
  refine iter_keys hs hgd hx hdt (pi_one (tk := s1.toks) I1 _ (turn_q _ hdt) ⟨_, Heap.get?_push_size _ rfl, rfl, ?_⟩ q)
  rw [hsz] <;> rfl
end
def keysR (i : Nat) : Rho → Res (List D) := dctR i fun kvs _ => .ok (kvs.map (·.1))
section
variable [Wd] {X : Cx} {A : Amb} {W : WX} {tg : Expr} {pos : Pos}
theorem i_dct (i : Nat) {x : Str} (hN : X.N[i]? = some x := by rfl) (hvi : Vis X.env.scope x := by first | exact Or.inl rfl | exact Or.inr (Or.inl rfl) | exact Or.inr (Or.inr rfl)) (hd : (x == ("__debug__" : Str)) = false := by decide) (hcd : (x == ("__classdict__" : Str)) = false := by decide) :
    IH X A W tg (.Name x pos) (keysR i) := piI (pi_q (pe_var hN hvi hd hcd)) fun σ H R ⟨F, ρ, S, q⟩ => by
  unfold keysR at q
  obtain ⟨kvs, hr, eq⟩ := dctR_of fun z => by rw [z] at q; exact q
  rw [eq] at q
  obtain ⟨v, e1, p, ys, o, rfl, hF, h0, hp, hz, hE⟩ := S.val i _ hr
  have t := hE.keysIs
  have hl : ys.length = kvs.length := Paired.length hE
  refine ⟨_, e1, p, ys, o, Wd.w, rfl, hp, q (Itq Wd.w p o ys) F H (.refl S.le) (fun j F' H' hF' hl' hH => ⟨fun x hx => ?_, fun hj => ⟨hH _ _ hp, ?_⟩⟩) ?_⟩
  · obtain ⟨v, hv, iv⟩ := t.get hx
    rw [List.getElem?_map] at hv
    obtain ⟨y, hy, e⟩ := Option.map_eq_some_iff.mp hv
    refine ⟨⟨hH _ _ hp, (List.getElem?_eq_some_iff.mp hy).1⟩, fun v' H2 z => ?_⟩
    obtain ⟨rfl, y', hy', rfl⟩ := z
    rw [hy] at hy'
    cases hy'
    exact ⟨F', .refl hl', by rw [e]; exact iv.mono hF'⟩
  · rw [List.length_map] at hj; omega
  · rw [List.length_map]; omega
end

/-! ### min, max of a list -/
def fitMin (ds : List D) : Bool := allLike ds && (ds.all fun d => match d with | .none => false | _ => true) && ds.all fun d => decide (d.depth ≤ 60)
def minLD : List D → Option D
  | [.list (x :: xs)] => if fitMin (x :: xs) = true then some (PySem.W.minD x xs) else none
  | _ => none
theorem fitMin_ok {ds : List D} (h : fitMin ds = true) : PySem.W.AlikeAll ds ∧ noDctA ds = true ∧ PyData.depthAll ds ≤ 60 := by
  unfold fitMin at h
  rw [Bool.and_eq_true, Bool.and_eq_true] at h
  obtain ⟨⟨h1, h2⟩, h3⟩ := h
  refine ⟨⟨fun x hx y hy => allLike_ok h1 x hx y hy, fun x hx z => ?_⟩, allLike_noDct h1, ?_⟩
  · have := List.all_eq_true.mp h2 x hx
    rw [z] at this
    cases this
  · clear h1 h2
    induction ds with
    | nil => simp [PyData.depthAll]
    | cons x xs ih =>
      rw [List.all_cons, Bool.and_eq_true] at h3
      have a := of_decide_eq_true h3.1
      have b := ih h3.2
      simp [PyData.depthAll]
      omega
section
variable [Wd] {X : Cx} {pins : List (Addr × Obj)} {σ : L2.St} {H F : Hp} {s : Shared}
/-- the item that is read as that data is that item -/
theorem pick_ok {vs : List V} {its : List Value} {ds : List D} {as : List Addr} {i : Nat} {u : Value} {h' : Heap} {d : D} {bs : List Addr} (rv : Vals vs its) (t : IsA F vs ds) (hrs : ReadsAll s.heap its ds as) (hu : its[i]? = some u) (hr : Reads h' u d bs) (hk : ∀ b o, s.heap.get? b = some o → h'.get? b = some o) : ∃ v, RelV v u ∧ Is F v d := by
  have hl := rv.length
  have hi : i < vs.length := by have := (List.getElem?_eq_some_iff.mp hu).1; omega
  obtain ⟨u', hu', ru⟩ := rv.get (i := i) (x := vs[i]) (List.getElem?_eq_getElem hi)
  rw [hu] at hu'
  cases hu'
  obtain ⟨d', hd', id'⟩ := t.get' (List.getElem?_eq_getElem hi)
  have key : ∀ {us : List Value} {es : List D} {cs : List Addr} {j : Nat} {w : Value} {e : D}, ReadsAll s.heap us es cs → us[j]? = some w → es[j]? = some e → ∃ bs, Reads s.heap w e bs := by
    intro us es cs j w e r
    induction es generalizing us cs j with
    | nil => intro _ h; simp at h
    | cons e0 es ih =>
      cases r with
      | cons h1 h2 =>
        intro h3 h4
        cases j with
        | zero => simp at h3 h4; subst h3 h4; exact ⟨_, h1⟩
        | succ j => exact ih h2 (by simpa using h3) (by simpa using h4)
  obtain ⟨bs', hr'⟩ := key hrs hu hd'
  obtain ⟨e, _⟩ := PyProof.Rows.reads_det (fun b o h _ => hk b o h) hr' hr
  exact ⟨_, ru, by rw [e]; exact id'⟩
end
section
variable [Wd] {X : Cx}
theorem c_minL (hu : X.A.units + 64 < cLine) (hc : X.calm = true) : CallR X (.builtin "min") (cD minLD) := by
  intro pins s σ H xs us Q I r h
  obtain ⟨F, as, d, le, ia, e, q⟩ := h
  unfold minLD at e
  split at e
  · rename_i x0 xs0
    split at e
    · rename_i hf
      cases e
      obtain ⟨hal, hnd, hdp⟩ := fitMin_ok hf
      obtain ⟨v, rfl, i⟩ := ia.one
      obtain ⟨p, vs, rfl, hp, z, t⟩ := i.list le
      obtain ⟨its, rv, hl, hz⟩ := I.list (.inl hp)
      rw [Vals.ref1 r]
      obtain ⟨rs, hrs⟩ := Dp.readsAll I _ vs its ((t.mono le).dp hnd) rv
      refine PySem.W.min_list_data (I.ok.hd hc) hl.isList (vs := its.toArray) (by simpa using hrs) hal (by omega) fun j u h' tk bs hv hr hk => ?_
      obtain ⟨w, rw', iw⟩ := pick_ok rv t hrs (by simpa using hv) hr hk
      exact ⟨w, H, I.kept (t' := tk) hk, rw', q w F H (.refl le) iw⟩
    · cases e
  · cases e
end
/-- max(xs, default=d) -/
def maxDefR (g h : Rho → Res D) : Rho → Res D := fun ρ => (g ρ).bind fun a => (h ρ).bind fun d => match a with
  | .list ds => if fitMin ds = true then (match ds with
    | [] => .ok d
    | x :: xs => .ok (PySem.W.maxD x xs)) else .bad
  | _ => .bad
section
variable [Wd] {X : Cx} {A : Amb} {W : WX} {e e2 : Expr} {g h : Rho → Res D} {p pos kp : Pos}
theorem d_maxDef (hu : X.A.units + 64 < cLine) (hc : X.calm = true) (hm : X.mg "max" = none) (ha : DE X A W e g) (hk : DE X A W e2 h) (hg : Gl X "max" := by rfl) (hs : starEach [e] X.env = (false, eval e X.env) :: starEach [] X.env := by rfl)
    (he : backTo pos (starEach [e] X.env) = (false, eval e X.env) :: backTo pos (starEach [] X.env) := by rfl) (hpl : (backTo pos (starEach [e] X.env)).any (·.1) = false := by rfl)
    (hall : (backToKw pos (keywordEach [⟨some "default", e2, kp⟩] X.env)).all (·.1.isSome) = true := by rfl) (hnone : (backToKw pos (keywordEach [⟨some "default", e2, kp⟩] X.env)).any (·.1.isNone) = false := by rfl)
    (hks : (backToKw pos (keywordEach [⟨some "default", e2, kp⟩] X.env)).filterMap (·.1) = [Str.ofString "default"] := by rfl) :
    DE X A W (.Call (.Name "max" p) [e] [⟨some "default", e2, kp⟩] pos) (maxDefR g h) := by
  have cr : CallRK X (.builtin "max") [Str.ofString "default"] (fun xs zs H Q => ∃ (F : Hp) (v z : V) (ds : List D) (d0 : D), Same F H ∧ xs = [v] ∧ zs = [z] ∧ Is F v (.list ds) ∧ Is F z d0 ∧ fitMin ds = true ∧
      ∀ w, Is F w (match ds with | [] => d0 | x :: xs => PySem.W.maxD x xs) → Q w H) := by
    intro pins s σ H xs zs us ws Q I r1 r2 hq
    obtain ⟨F, v, z, ds, d0, le, rfl, rfl, iv, iz, hf, q⟩ := hq
    obtain ⟨hal, hnd, hdp⟩ := fitMin_ok hf
    obtain ⟨uz, rfl, rz⟩ := vals1 r2
    cases iv with
    | lst hp z0 t =>
      obtain ⟨its, rv, hl, hz⟩ := I.list (.inl (Rd.mono le hp))
      rw [Vals.ref1 r1]
      obtain ⟨rs, hrs⟩ := Dp.readsAll I _ _ its ((t.mono le).dp hnd) rv
      refine PySem.W.max_list_default (I.ok.hd hc) hl.isList (vs := its.toArray) (by simpa using hrs) hal (by omega) (fun e0 h' tk hk => ?_) fun y ys j u h' tk bs e0 hv hr hk => ?_
      · subst e0
        exact ⟨z, H, I.kept (t' := tk) hk, rz, q z iz⟩
      · subst e0
        obtain ⟨w, rw', iw⟩ := pick_ok rv t hrs (by simpa using hv) hr hk
        exact ⟨w, H, I.kept (t' := tk) hk, rw', q w iw⟩
  refine peI (pe_callBK cr hg hm (by decide +kernel) (pa_cons ha pa_nil hs) (pk_cons hk pk_nil) (by decide) (by decide) he hpl hall hnone hks) fun σ H Q ⟨F, ρ, S, q⟩ => ⟨F, ρ, S, ?_⟩
  unfold maxDefR at q
  cases hf : g ρ with
  | bad => rw [hf] at q; exact q
  | ex c => rw [hf] at q; exact q
  | ok a =>
    rw [hf] at q
    simp only [Res.bind_ok] at q
    intro v F1 H1 x1 i1
    refine ⟨F1, ρ, S.grow x1, ?_⟩
    cases hh : h ρ with
    | bad => rw [hh] at q; exact q
    | ex c => rw [hh] at q; exact q.ext x1
    | ok d =>
      rw [hh] at q
      simp only [Res.bind_ok] at q
      intro z F2 H2 x2 i2
      cases a with
      | list ds =>
        simp only at q
        by_cases hc : fitMin ds = true
        · rw [if_pos hc] at q
          refine ⟨F2, v, z, ds, d, x2.le, rfl, rfl, i1.mono x2.up, i2, hc, fun w iw => ?_⟩
          cases ds with
          | nil => exact q w F2 H2 (x1.trans x2) iw
          | cons x xs => exact q w F2 H2 (x1.trans x2) iw
        · rw [if_neg hc] at q; exact q.elim
      | _ => exact q.elim
end
end DL

/-! The data layer, part 19: y = [..] that is written later. -/
namespace DL
open PySem PySem.Spec PyProof.Rows L2
section
variable [Wd] {X : Cx} {A : Amb} {W : WX} {pos : Pos}
/-- name = [..] on one line, to be written later -/
theorem s_setLcO (i : Nat) {y : Str} {py : Pos} {elt tg iter : Expr} {ifs : List Expr} {scope : Scope} {own : List (Str × Nat)} {spos : Pos} {fi : Rho → Res (List D)} {t : Tg} {g : TG} {c : Rho → Res Bool} {e : Rho → Res D} (hc : X.calm = true) (hN : X.N.Nodup)
    (hsw : swapsWith (.ListComp elt [⟨tg, iter, ifs, 0⟩] scope pos) (some (.Name y py)) spos.line X.env = pure true) (hi : IH X A W tg iter fi) (ok : BlkOk X.N X.env.scope scope own)
    (hg : ∀ (s : Shared) (H : Hp) (C : Addr) (cl : List (Str × Addr)) (fp : List Addr), PG (X.blk s H scope (compEnvC scope cl C X.env) fp) tg g) (hs : TgSim t g)
    (ht : ∀ (s : Shared) (H : Hp) (C : Addr) (cl : List (Str × Addr)) (fp : List Addr), DTs (X.blk s H scope (compEnvC scope cl C X.env) fp) A W0 ifs c)
    (he : ∀ (s : Shared) (H : Hp) (C : Addr) (cl : List (Str × Addr)) (fp : List Addr), DE (X.blk s H scope (compEnvC scope cl C X.env) fp) A W0 elt e)
    (hy : X.N[i]? = some y := by rfl) (hyl : X.env.scope.names.lookup y = some .local := by rfl) (hv : ∀ i ∈ t.at_, i ∈ own.map (·.2) := by decide) (hf : ∀ x, foldedSetIterable iter X.env x = pure x := by intro _; rfl) :
    DS X A W (.Assign [.Name y py] (.ListComp elt [⟨tg, iter, ifs, 0⟩] scope pos) spos) (setO i (lc fi t c e (own.map (·.2)))) :=
  psI (ps_setLc hc hN hy hyl hsw hi ok hg ht he hf) fun E σ H q => lc_ok hs hv (Q := fun x H1 => gName i x σ H1 E.nx) (by
    obtain ⟨F, ρ, S, q⟩ := q
    refine ⟨F, ρ, S, ?_⟩
    unfold setO thenS at q
    cases hl : lc fi t c e (own.map (·.2)) ρ with
    | bad => rw [hl] at q; exact q
    | ex c => rw [hl] at q; exact q.pex S
    | ok ds =>
      rw [hl] at q
      intro p vs F' H' x h1 h2 h3 h4 h5
      exact q _ F' H' ((S.grow x).setO ⟨p, vs, rfl, h1, Same.free S.ext.keep h2, h3, h4, h5⟩ fun j b _ e o => S.new h2 j b e o) x.up)
end
end DL

/-! The data layer, part 20: the program's own exceptions: what the written part says of their classes; raise. -/
namespace DL
open PySem PySem.Spec PyProof.Rows L2

def subX (x y : String) : Bool := x == y || y == "TestError"
def gaS (K : PySem.W.Frag) (x : String) : Addr := He.ga K (Str.ofString x)
def clsB (K : PySem.W.Frag) (x : String) : Bool :=
  He.eqO (PySem.W.nsIn K mainGlobals (Str.ofString x)) (some (some (.ref (gaS K x)))) && (PySem.W.keepIn K (.ref (gaS K x)) && (decide (PySem.W.subIn K (.ref (gaS K x)) (.type "BaseException") = some true) && (decide (PySem.W.typeIn K (.ref (gaS K x)) = some (.type "type")) && (
    decide (PySem.W.findIn K (.ref (gaS K x)) "__getattribute__" = some (some (.builtin "BaseException.__getattribute__"))) && (decide (PySem.W.findIn K (.ref (gaS K x)) "__getattr__" = some none) && ((PySem.W.clsIn K (gaS K x)).isSome &&
    (decide (PySem.W.findIn K (.ref (gaS K x)) "__class__" = some (some (.builtin "object.__class__"))) && (decide (PySem.W.specialIn K (.builtin "object.__class__") "__get__" = some (some (.builtin "getset_descriptor.__get__"))) && (decide (PySem.W.takesIn K (.builtin "object.__class__") = some true) && (
    decide (PySem.W.mroIn K (gaS K x) (.type "object") = some true) && decide (PySem.W.kitOne K (.ref (gaS K x)) (.type "ValueError") = some true)))))))))))
structure ClsX (K : PySem.W.Frag) (x : String) : Prop where
  g : PySem.W.nsIn K mainGlobals (Str.ofString x) = some (some (.ref (gaS K x)))
  k : PySem.W.keepIn K (.ref (gaS K x)) = true
  b : PySem.W.subIn K (.ref (gaS K x)) (.type "BaseException") = some true
  t : PySem.W.typeIn K (.ref (gaS K x)) = some (.type "type")
  ga : PySem.W.findIn K (.ref (gaS K x)) "__getattribute__" = some (some (.builtin "BaseException.__getattribute__"))
  gt : PySem.W.findIn K (.ref (gaS K x)) "__getattr__" = some none
  cl : (PySem.W.clsIn K (gaS K x)).isSome = true
  fc : PySem.W.findIn K (.ref (gaS K x)) "__class__" = some (some (.builtin "object.__class__"))
  sg : PySem.W.specialIn K (.builtin "object.__class__") "__get__" = some (some (.builtin "getset_descriptor.__get__"))
  tk : PySem.W.takesIn K (.builtin "object.__class__") = some true
  mo : PySem.W.mroIn K (gaS K x) (.type "object") = some true
  ve : PySem.W.kitOne K (.ref (gaS K x)) (.type "ValueError") = some true
theorem clsB_ok {K : PySem.W.Frag} {x : String} (h : clsB K x = true) : ClsX K x := by
  unfold clsB at h
  obtain ⟨h1, h⟩ := He.ba h
  obtain ⟨h2, h⟩ := He.ba h
  obtain ⟨h3, h⟩ := He.ba h
  obtain ⟨h4, h⟩ := He.ba h
  obtain ⟨h5, h⟩ := He.ba h
  obtain ⟨h6, h⟩ := He.ba h
  obtain ⟨h7, h⟩ := He.ba h
  obtain ⟨h8, h⟩ := He.ba h
  obtain ⟨h9, h⟩ := He.ba h
  obtain ⟨h10, h⟩ := He.ba h
  obtain ⟨h11, h12⟩ := He.ba h
  exact ⟨He.eqO_ok h1, h2, of_decide_eq_true h3, of_decide_eq_true h4, of_decide_eq_true h5, of_decide_eq_true h6, h7, of_decide_eq_true h8, of_decide_eq_true h9, of_decide_eq_true h10, of_decide_eq_true h11, of_decide_eq_true h12⟩
def pairB (K : PySem.W.Frag) (x y : String) : Bool := decide (PySem.W.exmOne K (.ref (gaS K x)) (.ref (gaS K y)) = some (subX x y)) && decide (PySem.W.kitOne K (.ref (gaS K x)) (.ref (gaS K y)) = some (subX x y))
def plainB (K : PySem.W.Frag) (x : String) : Bool := PySem.W.excIn K (gaS K x) He.veBase "ValueError.__new__"
/-- an exception class over ValueError, its own __init__ or not -/
def oexB (K : PySem.W.Frag) (C : Addr) : Bool := match K.lookup C with
  | some ⟨.type "type", _, .cls cd, sl⟩ => (match cd.mro, sl.toList with
    | .ref C' :: bm, [_, _, _, _, some (.builtin n), _] => C' == C && n == "ValueError.__new__" && !cd.hasDel && cd.hasDict && PySem.HandSPX.refsVE bm
    | _, _ => false)
  | _ => false
theorem oexB_ok {K : PySem.W.Frag} {C : Addr} (q : oexB K C = true) : ∃ nm q N bs bm sn sub ab col dd k0 k1 k2 k3 k5, K.lookup C = some (excClassObj nm q C N bs bm true sn sub ab col dd k0 k1 k2 k3 k5 "ValueError.__new__") ∧ PySem.HandSPX.refsVE bm = true := by
  unfold oexB at q
  split at q
  · rename_i dd cd sl ho
    split at q
    · rename_i C' bm k0 k1 k2 k3 n k5 hm hs
      simp only [Bool.and_eq_true, beq_iff_eq, Bool.not_eq_true'] at q
      obtain ⟨⟨⟨⟨rfl, rfl⟩, hdel⟩, hdct⟩, hbm⟩ := q
      obtain ⟨nm, bs, mro, ns, qn, hd, sn, sub, ab, col, del⟩ := cd
      dsimp only at hm hdel hdct
      subst hm hdel hdct
      have hsl : sl = #[k0, k1, k2, k3, some (.builtin "ValueError.__new__"), k5] := by
        obtain ⟨l⟩ := sl
        simp only at hs
        rw [hs]
      subst hsl
      exact ⟨nm, qn, ns, bs, bm, sn, sub, ab, col, dd, k0, k1, k2, k3, k5, ho, hbm⟩
    · cases q
  · cases q
/-- BadTests: its __init__, its base's -/
def badB (K : PySem.W.Frag) : Bool :=
  oexB K (gaS K "BadTests") && (decide (PySem.W.findIn K (.ref (gaS K "BadTests")) "__setattr__" = some (some (.builtin "object.__setattr__"))) && (decide (PySem.W.findIn K (.ref (gaS K "BadTests")) "at" = some none) && (
    decide (PySem.W.findIn K (.ref (gaS K "BadTests")) "__init__" = some (some (.ref (He.ma K (gaS K "BadTests") "__init__")))) && (decide (PySem.W.typeIn K (.ref (He.ma K (gaS K "BadTests") "__init__")) = some (.type "function")) && (
    PySem.W.hasDictIn K (gaS K "BadTests") && (decide (PySem.W.specialIn K (.ref (gaS K "TestError")) "__getattribute__" = some (some (.builtin "type.__getattribute__"))) && (PySem.W.readsIn K (gaS K "TestError") (.type "type") &&
    (match PySem.W.findCls K (.ref (gaS K "TestError")) (.type "type") "__init__" with
      | some (.val (.builtin n)) => n == "ValueError.__init__"
      | _ => false))))))))
structure BadX (K : PySem.W.Frag) : Prop where
  cls : ∃ nm q N bs bm sn sub ab col dd k0 k1 k2 k3 k5, K.lookup (gaS K "BadTests") = some (excClassObj nm q (gaS K "BadTests") N bs bm true sn sub ab col dd k0 k1 k2 k3 k5 "ValueError.__new__") ∧ PySem.HandSPX.refsVE bm = true
  sa : PySem.W.findIn K (.ref (gaS K "BadTests")) "__setattr__" = some (some (.builtin "object.__setattr__"))
  no : PySem.W.findIn K (.ref (gaS K "BadTests")) "at" = some none
  ini : PySem.W.findIn K (.ref (gaS K "BadTests")) "__init__" = some (some (.ref (He.ma K (gaS K "BadTests") "__init__")))
  fn : PySem.W.typeIn K (.ref (He.ma K (gaS K "BadTests") "__init__")) = some (.type "function")
  hd : PySem.W.hasDictIn K (gaS K "BadTests") = true
  sg : PySem.W.specialIn K (.ref (gaS K "TestError")) "__getattribute__" = some (some (.builtin "type.__getattribute__"))
  rd : PySem.W.readsIn K (gaS K "TestError") (.type "type") = true
  vi : PySem.W.findCls K (.ref (gaS K "TestError")) (.type "type") "__init__" = some (.val (.builtin "ValueError.__init__"))
theorem badB_ok {K : PySem.W.Frag} (h : badB K = true) : BadX K := by
  unfold badB at h
  obtain ⟨h1, h⟩ := He.ba h
  obtain ⟨h2, h⟩ := He.ba h
  obtain ⟨h3, h⟩ := He.ba h
  obtain ⟨h4, h⟩ := He.ba h
  obtain ⟨h5, h⟩ := He.ba h
  obtain ⟨h6, h⟩ := He.ba h
  obtain ⟨h7, h⟩ := He.ba h
  obtain ⟨h8, h9⟩ := He.ba h
  refine ⟨oexB_ok h1, of_decide_eq_true h2, of_decide_eq_true h3, of_decide_eq_true h4, of_decide_eq_true h5, h6, of_decide_eq_true h7, h8, ?_⟩
  revert h9
  cases PySem.W.findCls K (.ref (gaS K "TestError")) (.type "type") "__init__" with
  | none => intro h; cases h
  | some f =>
    cases f with
    | get _ _ _ _ => intro h; cases h
    | val v =>
      cases v with
      | builtin n =>
        intro h
        have : n = "ValueError.__init__" := beq_iff_eq.mp h
        rw [this]
      | _ => intro h; cases h
def exB (ns : List String) (K : PySem.W.Frag) : Bool := (ns.all fun x => clsB K x && ns.all fun y => pairB K x y) && ((ns.all fun x => x == "BadTests" || plainB K x) && (!ns.contains "BadTests" || badB K))
/-- the exceptions that fly -/
def zOf (K : PySem.W.Frag) (ns : List String) : String → Addr → Prop := fun s C => s ∈ ns ∧ C = gaS K s
/-- all of it -/
structure ExK (K : PySem.W.Frag) (mg : Str → Option Value) (ns : List String) : Prop where
  mg : ∀ x ∈ ns, mg (Str.ofString x) = some (.ref (gaS K x))
  cls : ∀ x ∈ ns, ClsX K x
  exm : ∀ x ∈ ns, ∀ y ∈ ns, PySem.W.exmOne K (.ref (gaS K x)) (.ref (gaS K y)) = some (subX x y)
  kit : ∀ x ∈ ns, ∀ y ∈ ns, PySem.W.kitOne K (.ref (gaS K x)) (.ref (gaS K y)) = some (subX x y)
  pl : ∀ x ∈ ns, x ≠ "BadTests" → PySem.W.excIn K (gaS K x) He.veBase "ValueError.__new__" = true
  bad : "BadTests" ∈ ns → BadX K
theorem exB_ok {K : PySem.W.Frag} {h : Heap} {mg : Str → Option Value} {ns : List String} (X : K.In h) (G : h.Ns mainGlobals mg) (e : exB ns K = true) : ExK K mg ns := by
  unfold exB at e
  obtain ⟨h1, h⟩ := He.ba e
  obtain ⟨h2, h3⟩ := He.ba h
  have c1 : ∀ x ∈ ns, ClsX K x ∧ ∀ y ∈ ns, pairB K x y = true := fun x hx => by
    obtain ⟨a, b⟩ := He.ba (List.all_eq_true.mp h1 x hx)
    exact ⟨clsB_ok a, fun y hy => List.all_eq_true.mp b y hy⟩
  refine ⟨fun x hx => PySem.W.mg_of X G (c1 x hx).1.g, fun x hx => (c1 x hx).1, fun x hx y hy => ?_, fun x hx y hy => ?_, fun x hx hn => ?_, fun hb => ?_⟩
  · exact of_decide_eq_true (He.ba ((c1 x hx).2 y hy)).1
  · exact of_decide_eq_true (He.ba ((c1 x hx).2 y hy)).2
  · have := List.all_eq_true.mp h2 x hx
    rcases (Bool.or_eq_true _ _).mp this with h | h
    · exact absurd (beq_iff_eq.mp h) hn
    · exact h
  · rcases (Bool.or_eq_true _ _).mp h3 with h | h
    · rw [List.contains_iff_mem.mpr hb] at h; cases h
    · exact badB_ok h

/-! ### raise X("..") -/
section
variable [Wd] {X : Cx} {A : Amb} {W : WX} {pos : Pos}
theorem s_raise (c : String) {m : Str} {j : Nat} {p p2 pos' : Pos} (hc : X.calm = true) {ns : List String} (tk : Takes X W) (T : ExK X.K X.mg ns) (hZ : A.Z = zOf X.K ns) (hm : c ∈ ns := by decide) (hn : c ≠ "BadTests" := by decide) (hg : Gl X (Str.ofString c) := by rfl) (hdb : ((Str.ofString c) == ("__debug__" : Str)) = false := by decide) :
    DS X A W (.Raise (some (.Call (.Name (Str.ofString c) p) [.Constant (.str m) j p2] [] pos')) none pos) (raiseS c) :=
  psI (ps_raise hc tk (pmk_own PySem.F.excBase_ValueError (T.pl c hm hn) (T.mg c hm) (T.cls c hm).k (raises_own (T.cls c hm).b (T.cls c hm).t) hg hdb)) fun E σ H ⟨F, ρ, S, h⟩ =>
    h σ (.ref (gaS X.K c)) none F H S.ext (Same.refl _) (S.len.trans S.num) ⟨_, by rw [hZ]; exact ⟨hm, rfl⟩, rfl, rfl⟩
end

/-! ### TestError.__init__(self, ..) -/
section
variable {X : Cx} {x : Str} {C : Addr} {e : Expr} {es : List Expr} {ta : TA} {p1 p2 pos : Pos}
theorem pe_cinit {pl : Sem Bool} (hg : Gl X x) (hm : X.mg x = some (.ref C)) (sg : PySem.W.specialIn X.K (.ref C) "__getattribute__" = some (some (.builtin "type.__getattribute__"))) (rd : PySem.W.readsIn X.K C (.type "type") = true)
    (vV : PySem.W.findCls X.K (.ref C) (.type "type") "__init__" = some (.val (.builtin "ValueError.__init__"))) (ha : PA X (e :: es) ta) (hdb : (x == ("__debug__" : Str)) = false := by decide)
    (hc : eval (.Call (.Attribute (.Name x p1) "__init__" p2) (e :: es) [] pos) X.env = (do
      let ov ← eval (.Name x p1) X.env
      standAt p2.atName
      let (f, first) ← holding [ov] (getMethod ov "__init__" pl)
      callWith pos f first (backTo pos (starEach (e :: es) X.env)) (backToKw pos (keywordEach [] X.env))) := by rfl)
    (he : starEach (e :: es) X.env = (false, eval e X.env) :: starEach es X.env := by rfl) (hpl : (backTo pos (starEach es X.env)).any (·.1) = false := by rfl) :
    PE X (.Call (.Attribute (.Name x p1) "__init__" p2) (e :: es) [] pos) (tVeI X.K ta) := by
  refine ⟨fun pins s σ H Q I h => ?_⟩
  refine PySem.W.methodCall_KW (ld_glob I hg hm ?_ hdb) hc
  refine PySem.W.method_cls I.kIn sg (PySem.W.cls_value I.kIn rd vV (by decide +kernel) ?_)
  show wpAny _ _ (callWith pos (Value.builtin "ValueError.__init__") [] (backTo pos (starEach (e :: es) X.env)) []) _ _ _
  refine PyProof.Rows.callWith_method1 (thn (ha.run pos pins _ σ H _ (I.tok _) h) fun us s1 ⟨vs, H1, I1, r1, a, C, ws, ev, hl, T, ea, q⟩ => ?_) he hpl
  subst ev
  cases r1 with
  | @cons _ u0 _ ur ra rw' =>
    obtain rfl : u0 = Value.ref a := ra
    have hlen : ur.length ≤ sizeLine := by
      rw [← Paired.length rw', sizeLine_eq]
      omega
    exact oinit_ok T I1 ea hlen fun s' J => ⟨.non, H1, J, rfl, q⟩
end
end DL

/-! The data layer, part 21: raise BadTests(..); try .. except; what a caught exception is asked. -/
namespace DL
open PySem PySem.Spec PyProof.Rows L2

/-! ### BadTests(text, at) -/
/-- its __init__ keeps this -/
def spBad (K : PySem.W.Frag) : Sp := fun vs H Q _ => ∃ (a : Addr) (m : Str) (n : V), vs = [.ref a, .str m, n] ∧ H a = some (exo a (gaS K "BadTests") none) ∧
  ∀ d, H d = none → d ≠ a → Q .non (upd (upd H d (exd d [(("at" : Str), n)])) a (exo a (gaS K "BadTests") (some d)))
theorem ExK.oex {K : PySem.W.Frag} {mg : Str → Option Value} {ns : List String} (T : ExK K mg ns) (hb : "BadTests" ∈ ns) : OexC K (gaS K "BadTests") :=
  ⟨(T.bad hb).cls, (T.bad hb).sa, (T.cls "BadTests" hb).b, (T.cls "BadTests" hb).t, (T.cls "BadTests" hb).k⟩
/-- the __init__ as it stands -/
structure BadI (P : Program) (w : World) (K : PySem.W.Frag) (mg : Str → Option Value) (base : Heap) (k : Nat) : Prop where
  ex : ∃ fd, FnOk P w K mg base (L2.CX P w) k (He.ma K (gaS K "BadTests") "__init__") fd ["self", "text", "at"] (spBad K) ∧ Binds K fd ["self", "text", "at"] []
def raiseB (f : Rho → Res D) : Rho → SO := thenS f fun _ d => match d with
  | .int n => .ex ⟨"BadTests", some n⟩
  | _ => .bad
section
variable [Wd] {X : Cx} {A : Amb} {W : WX} {pos : Pos}
theorem s_raiseB {k : Nat} {ns : List String} {m : Str} {j : Nat} {p p2 pos' : Pos} {e : Expr} {f : Rho → Res D} (hc : X.calm = true) (tk : Takes X W) (T : ExK X.K X.mg ns) (I : BadI X.prog X.w X.K X.mg X.base k) (hr : Room (k + 1) X.A) (hZ : A.Z = zOf X.K ns) (h : DE X A W e f) (hbt : "BadTests" ∈ ns := by decide) (hg : Gl X "BadTests" := by rfl)
    (hs : starEach [e] X.env = (false, eval e X.env) :: starEach [] X.env := by rfl) (he : starEach [.Constant (.str m) j p2, e] X.env = (false, eval (.Constant (.str m) j p2) X.env) :: starEach [e] X.env := by rfl) (hpl : (backTo pos' (starEach [e] X.env)).any (·.1) = false := by rfl) :
    DS X A W (.Raise (some (.Call (.Name "BadTests" p) [.Constant (.str m) j p2, e] [] pos')) none pos) (raiseB f) := by
  obtain ⟨fd, F1, hb⟩ := I.ex
  exact psI (ps_raise hc tk (pmk_oex (T.oex hbt) (T.bad hbt).ini (T.bad hbt).fn F1 hr hb .nil (passes_call tk fun _ _ _ _ z => z.elim) hg (T.mg "BadTests" hbt) (pa_cons pe_str (pa_cons h pa_nil hs) he) (by decide) he hpl)) fun E σ H ⟨F, ρ, S, q⟩ => ⟨F, ρ, S, by
    unfold raiseB thenS at q
    cases hf : f ρ with
    | bad => rw [hf] at q; exact q
    | ex c => rw [hf] at q; exact Po.pex (E := E) S q
    | ok d =>
      rw [hf] at q
      intro v F1 H1 x1 i1
      cases d with
      | int n =>
        cases i1
        refine ⟨by show 2 ≤ 1000; decide, fun a ha => ⟨a, m, .int n, rfl, upd_same, fun d hd hda => ?_⟩⟩
        have hd1 : H1 d = none := by rw [upd_ne hda] at hd; exact hd
        refine ⟨rfl, d, [(("at" : Str), .int n)], upd_same, by rw [upd_ne hda, upd_same], hd1, ?_⟩
        have eH : upd (del (upd (upd (upd H1 a (exo a (gaS X.K "BadTests") none)) d (exd d [(("at" : Str), V.int n)])) a (exo a (gaS X.K "BadTests") (some d))) a) d (.xd [(("at" : Str), V.int n)]) = upd H1 d (.xd [(("at" : Str), V.int n)]) := by
          funext b
          by_cases hbd : b = d
          · rw [hbd, upd_same, upd_same]
          · rw [upd_ne hbd, upd_ne hbd]
            by_cases hba : b = a
            · rw [hba, del_same, ha]
            · rw [del_ne hba, upd_ne hba, upd_ne hbd, upd_ne hba]
        rw [eH]
        exact (show Po A W E F (.ex ⟨"BadTests", some n⟩) from q) σ (.ref (gaS X.K "BadTests")) (some d) (upd F1 d (.xd [(("at" : Str), .int n)])) _ (S.ext.trans (x1.trans (.laid x1.le hd1))) (x1.trans (.laid x1.le hd1)).up (S.len.trans S.num)
          ⟨_, by rw [hZ]; exact ⟨hbt, rfl⟩, rfl, d, rfl, upd_same⟩
      | _ => exact q.elim⟩
end

/-! ### try .. except -/
/-- the slots at the start of the except suite: e's alone is known -/
def sut (n i : Nat) : Rho := (List.replicate n none).set i (some .raw)
/-- what is no data is forgotten -/
def scrub (ρ : Rho) : Rho := ρ.map fun o => match o with
  | some .raw => none
  | o => o
def tryS (n i : Nat) (g : Rho → SO) (k : Exc → Option (Rho → SO)) : Rho → SO := fun ρ => match g ρ with
  | .ex c => match k c with
    | none => .ex c
    | some s => match s (sut n i) with
      | .nx ρ' => .nx (scrub (ρ'.set i none))
      | .rt d => .rt d
      | .ro d => .ro d
      | _ => .bad
  | o => o
/-- .. without a name -/
def tryN (n : Nat) (g : Rho → SO) (k : Exc → Option (Rho → SO)) : Rho → SO := fun ρ => match g ρ with
  | .ex c => match k c with
    | none => .ex c
    | some s => match s (List.replicate n none) with
      | .nx ρ' => .nx (scrub ρ')
      | .rt d => .rt d
      | .ro d => .ro d
      | _ => .bad
  | o => o
theorem none_at {α : Type} {n j : Nat} {b : α} (h : (List.replicate n (none : Option α))[j]? = some (some b)) : False := by
  rw [List.getElem?_replicate] at h
  split at h <;> cases h
theorem blank_sim [Wd] {A : Amb} {F H : Hp} {σ : L2.St} (le : Same F H) (x : Ext A.F0 A.H0 F H) (hl : σ.length = A.n) : Sim A F H σ (List.replicate A.n none) :=
  ⟨x, by rw [hl, List.length_replicate], List.length_replicate, fun j b e => (none_at e).elim, fun j l b c v _ e _ _ _ _ => (none_at e).elim⟩
theorem sut_sim [Wd] {A : Amb} {F H : Hp} {σ : L2.St} {i : Nat} (x : Ext A.F0 A.H0 F H) (hl : σ.length = A.n) : Sim A F H (σ.set i (some A.x)) (sut A.n i) := by
  have at_ : ∀ {j : Nat} {b : B}, (sut A.n i)[j]? = some (some b) → j = i ∧ i < A.n ∧ b = .raw := fun {j b} e => by
    unfold sut at e
    by_cases hj : i = j
    · subst hj
      by_cases hi : i < A.n
      · rw [List.getElem?_set_self (by rw [List.length_replicate]; exact hi)] at e
        cases e
        exact ⟨rfl, hi, rfl⟩
      · rw [List.getElem?_eq_none (by simpa using hi)] at e; cases e
    · rw [List.getElem?_set_ne hj] at e
      exact (none_at e).elim
  refine ⟨x, by simp [sut, hl], by simp [sut], fun j b e => ?_, fun j l b c v _ e _ o _ => ?_⟩
  · obtain ⟨rfl, hi, rfl⟩ := at_ e
    exact ⟨A.x, by rw [List.getElem?_set_self (by rw [hl]; exact hi)], rfl⟩
  · obtain ⟨_, _, rfl⟩ := at_ e
    cases o
theorem back_sim [Wd] {A A' : Amb} {F H : Hp} {σ : L2.St} {ρ : Rho} (x : Ext A.F0 A.H0 A'.F0 A'.H0) (hn : A'.n = A.n) (S : Sim A' F H σ ρ) : Sim A F H σ (scrub ρ) := by
  have old : ∀ {j : Nat} {b : B}, (scrub ρ)[j]? = some (some b) → ρ[j]? = some (some b) ∧ b ≠ .raw := fun {j b} e => by
    unfold scrub at e
    rw [List.getElem?_map] at e
    obtain ⟨o, ho, e⟩ := Option.map_eq_some_iff.mp e
    cases o with
    | none => cases e
    | some c =>
      cases c with
      | raw => cases e
      | d y => cases e; exact ⟨ho, fun z => by cases z⟩
      | own y => cases e; exact ⟨ho, fun z => by cases z⟩
      | dct y => cases e; exact ⟨ho, fun z => by cases z⟩
  refine ⟨x.trans S.ext, by rw [S.len]; simp [scrub], by rw [← hn, ← S.num]; simp [scrub], fun j b e => ?_, fun j l b c v hjl e1 e2 o1 o2 e3 e4 => S.sep j l b c v hjl (old e1).1 (old e2).1 o1 o2 e3 e4⟩
  obtain ⟨e1, e2⟩ := old e
  obtain ⟨v, h1, h2⟩ := S.val j b e1
  refine ⟨v, h1, ?_⟩
  cases b with
  | raw => exact absurd rfl e2
  | d y => exact h2
  | own y =>
    obtain ⟨p, vs, a, b, c, d⟩ := h2
    exact ⟨p, vs, a, b, Same.free x.keep c, d⟩
  | dct y =>
    obtain ⟨p, ys, o, a, b, c, d⟩ := h2
    exact ⟨p, ys, o, a, b, Same.free x.keep c, d⟩
/-- the suite's ambience: what flew is known there -/
structure Suit (A A' : Amb) (c : Exc) (cls : Value) (dd : Option Addr) (a : Addr) : Prop where
  z : A'.Z = A.Z
  n : A'.n = A.n
  x : A'.x = .ref a
  fl : Zx A.Z c cls dd A'.F0
section
variable [Wd] {X : Cx} {A : Amb} {W : WX} {x n : Str} {C : Addr} {body suite : List Stmt} {b₀ : Stmt} {np pos pos' : Pos} {g : Rho → SO} {k : Exc → Option (Rho → SO)}
theorem s_tryAs (i : Nat) {m : Nat} (hm : A.n = m) (hs : X.stack = X.env :: X.outer) (hf : X.env.frame = some X.env.locals) (hN : X.N.Nodup) (tk : Takes X W) (hc : L2.Names X x (.ref C))
    (hk : ∀ c cls dd F, Zx A.Z c cls dd F → PySem.W.exmOne X.K cls (.ref C) = some (k c).isSome)
    (hb : ∀ (W' : WX) (pn : List (Addr × Obj)) (xe : Value → Shared → Prop), Takes (X.tr pn xe) W' → PassesOwn (model X.prog X.w) X.A X.env xe → DSs (X.tr pn xe) A W' body g)
    (hsu : ∀ (c : Exc) (s : Rho → SO) (a : Addr) (oe : Obj) (cls : Value) (dd : Option Addr) (pn : List (Addr × Obj)) (A' : Amb), Zc cls dd oe → (∃ vs, oe.data = .fields vs) → Suit A A' c cls dd a → k c = some s → DSs (X.suite a ((a, oe) :: pn)) A' W0 (b₀ :: suite) s)
    (hi : X.N[i]? = some n := by rfl) (hln : X.env.kindOf n = some .local := by rfl) :
    DS X A W (.Try body [.ExceptHandler (some (.Name x np)) (some n) (b₀ :: suite) pos'] [] [] pos) (tryS m i g k) := by
  subst hm
  refine psI (ps_try_as (tb := fun W' => tS A W' g) (ts := fun a cls dd D σ H => ∃ c s A', k c = some s ∧ Suit A A' c cls dd a ∧ tS A' W0 s D σ H) hs hf hN hi hln hc tk hb fun a oe cls dd pn hz hv => ⟨fun pins s σ H E I ⟨c, s', A', h1, h2, q⟩ => (hsu c s' a oe cls dd pn A' hz hv h2 h1).run pins s σ H E I q⟩) fun E σ H ⟨F, ρ, S, q⟩ => ⟨F, ρ, S, ?_⟩
  unfold tryS at q
  cases hg : g ρ with
  | nx ρ' => rw [hg] at q; exact q
  | rt d => rw [hg] at q; exact q
  | ro d => rw [hg] at q; exact q
  | bk d => rw [hg] at q; exact q
  | ct d => rw [hg] at q; exact q
  | bad => rw [hg] at q; exact q
  | ex c =>
    rw [hg] at q
    simp only at q
    intro σ' cls dd F' H' x' up' hl z
    refine ⟨(k c).isSome, hk c cls dd F' z, fun hb => ?_, fun hb => ?_⟩
    · intro a ha
      cases hkc : k c with
      | none => rw [hkc] at hb; cases hb
      | some s =>
        rw [hkc] at q
        simp only at q
        refine ⟨c, s, ⟨F', H', A.Z, A.n, .ref a⟩, hkc, ⟨rfl, rfl, rfl, z⟩, F', sut A.n i, sut_sim (A := ⟨F', H', A.Z, A.n, .ref a⟩) (.refl x'.le) hl, ?_⟩
        cases hso : s (sut A.n i) with
        | nx ρ' =>
          rw [hso] at q
          exact fun σ2 F2 H2 S2 e2 => q _ F2 H2 (back_sim (A := A) (A' := ⟨F', H', A.Z, A.n, .ref a⟩) x' rfl (S2.drop i none)) (up'.trans e2)
        | rt d => rw [hso] at q; exact fun v F2 H2 x2 i2 => q v F2 H2 (x'.trans x2) i2
        | ro d => rw [hso] at q; exact fun p vs F2 H2 x2 h1 h2 h3 h4 h5 => q p vs F2 H2 (x'.trans x2) h1 (Same.free x'.keep h2) h3 h4 h5
        | bk d => rw [hso] at q; exact q.elim
        | ct d => rw [hso] at q; exact q.elim
        | ex d => rw [hso] at q; exact q.elim
        | bad => rw [hso] at q; exact q.elim
    · cases hkc : k c with
      | some s => rw [hkc] at hb; cases hb
      | none => rw [hkc] at q; exact q σ' cls dd F' H' x' up' hl z
end
end DL

/-! The data layer, part 22: what a caught exception is asked; except without a name. -/
namespace DL
open PySem PySem.Spec PyProof.Rows L2
/-- a clause's suite, for those that it takes -/
def handK (y : String) (s : Exc → Rho → SO) : Exc → Option (Rho → SO) := fun c => if subX c.cls y = true then some (s c) else none
theorem handK_some {y : String} {s : Exc → Rho → SO} {c : Exc} {r : Rho → SO} (h : handK y s c = some r) : r = s c := by
  unfold handK at h
  split at h
  · exact (Option.some.inj h).symm
  · cases h
theorem handK_exm {K : PySem.W.Frag} {mg : Str → Option Value} {ns : List String} (T : ExK K mg ns) {y : String} (hy : y ∈ ns) (s : Exc → Rho → SO) : ∀ c cls dd F, Zx (zOf K ns) c cls dd F → PySem.W.exmOne K cls (.ref (gaS K y)) = some (handK y s c).isSome := fun c cls dd F ⟨C, ⟨h0, h1⟩, h2, _⟩ => by
  subst h1
  subst h2
  rw [T.exm _ h0 _ hy]
  unfold handK
  cases subX c.cls y <;> rfl
def xIs (i : Nat) (y : String) (c : Exc) : Rho → Res D := fun ρ => match ρ[i]? with
  | some (some .raw) => .ok (.bool (subX c.cls y))
  | _ => .bad
def xVe (i : Nat) : Rho → Res D := fun ρ => match ρ[i]? with
  | some (some .raw) => .ok (.bool true)
  | _ => .bad
def xAt (i : Nat) (c : Exc) : Rho → Res D := fun ρ => match ρ[i]? with
  | some (some .raw) => if c.cls = "BadTests" then (match c.num with
    | some n => .ok (.int n)
    | none => .bad) else .bad
  | _ => .bad
/-- the dict of what flew stands -/
def dictAt (H : Hp) : Option Addr → Prop
  | none => True
  | some d => ∃ fs, H d = some (.xd fs)
/-- isinstance(e, c), e the exception that the suite holds -/
def rIsX (K : PySem.W.Frag) (D a : Addr) (dd : Option Addr) : List V → Hp → VK → Prop := fun xs H Q => ∃ (c : V) (cv : Value) (b : Bool), xs = [.ref a, c] ∧ (∀ u, RelV c u → u = cv) ∧ PySem.W.kitOne K (.ref D) cv = some b ∧
  dictAt H dd ∧ Q (.bl b) H
theorem call_isX {X : Cx} {a : Addr} {oe : Obj} {dd : Option Addr} {pn : List (Addr × Obj)} {x : String} (C : ClsX X.K x) (hz : Zc (.ref (gaS X.K x)) dd oe) (hf : ∃ vs, oe.data = .fields vs) : CallR (X.suite a ((a, oe) :: pn)) (.builtin "isinstance") (rIsX X.K (gaS X.K x) a dd) := by
  intro pins s σ H xs us Q I r h
  obtain ⟨c, cv, b, rfl, hcv, e, hd, q⟩ := h
  cases r with
  | cons rx rr =>
    cases rr with
    | cons rt rr =>
      cases rr
      cases rx
      have ec := hcv _ rt
      subst ec
      obtain ⟨hget, _⟩ := I.pin (a, oe) (List.mem_append.mpr (.inl List.mem_cons_self))
      obtain ⟨vs, hv⟩ := hf
      obtain ⟨od, J⟩ : ∃ od, PySem.W.InstAt s.heap a oe (gaS X.K x) od := by
        obtain ⟨h1, h2⟩ := hz
        have hn : PySem.W.notCls oe := by unfold PySem.W.notCls; rw [hv]
        cases dd with
        | none => exact ⟨none, hget, h1, hn, by rw [h2]; trivial⟩
        | some d =>
          obtain ⟨fs, hx⟩ := hd
          have hx : ObjOk X.prog X.w H s.heap d (.xd fs) := I.hok d _ hx
          obtain ⟨mA, hns, hr⟩ := hx
          obtain ⟨od, ho, hl⟩ := lookIn_ns hns
          exact ⟨some od, hget, h1, hn, by rw [h2]; exact ho⟩
      exact PySem.W.kia_one (PySem.W.kitx_exc C.cl C.ga C.gt C.b C.fc C.sg C.tk C.mo) I.kIn J e (fun z => nomatch z) fun tk => ⟨.bl b, H, I.kept (t' := tk) fun _ _ z => z, rfl, q⟩
section
variable [Wd] {ns : List String} {X : Cx} {A A' : Amb} {n : Str} {c : Exc} {a : Addr} {oe : Obj} {cls : Value} {dd : Option Addr} {pn : List (Addr × Obj)} {p p1 p2 pos : Pos}
theorem Suit.dict {F H : Hp} {σ : L2.St} {ρ : Rho} (Su : Suit A A' c cls dd a) (S : Sim A' F H σ ρ) : dictAt H dd := by
  obtain ⟨C, _, _, h⟩ := Su.fl
  cases hc : c.num with
  | none => rw [hc] at h; subst h; trivial
  | some m =>
    rw [hc] at h
    obtain ⟨d, rfl, hd⟩ := h
    exact ⟨_, S.le _ _ (S.ext.up _ _ hd)⟩
theorem Suit.is (Su : Suit A A' c cls dd a) (T : ExK X.K X.mg ns) (hZ : A.Z = zOf X.K ns) : c.cls ∈ ns ∧ cls = .ref (gaS X.K c.cls) := by
  obtain ⟨C, h1, h2, _⟩ := Su.fl
  rw [hZ] at h1
  obtain ⟨h0, h1⟩ := h1
  subst h1
  exact ⟨h0, h2⟩
theorem raw_of {α : Type} {ρ : Rho} {i : Nat} {r : Res α} {s : Res α} (h : (match ρ[i]? with | some (some .raw) => r | _ => .bad) = s) (hs : s ≠ .bad) : ρ[i]? = some (some .raw) ∧ r = s := by
  cases hr : ρ[i]? with
  | none => rw [hr] at h; exact absurd h.symm hs
  | some o =>
    rw [hr] at h
    cases o with
    | none => exact absurd h.symm hs
    | some b =>
      cases b with
      | raw => exact ⟨rfl, h⟩
      | _ => exact absurd h.symm hs
theorem d_isE (i : Nat) (y : String) (T : ExK X.K X.mg ns) (Su : Suit A A' c cls dd a) (hZ : A.Z = zOf X.K ns) (hz : Zc cls dd oe) (hv : ∃ vs, oe.data = .fields vs) (hm : X.mg "isinstance" = none) (hy : y ∈ ns := by decide) (hN : X.N[i]? = some n := by rfl) (hvi : Vis X.env.scope n := by first | exact Or.inl rfl | exact Or.inr (Or.inl rfl) | exact Or.inr (Or.inr rfl))
    (hd : (n == ("__debug__" : Str)) = false := by decide) (hcd : (n == ("__classdict__" : Str)) = false := by decide) (hg : Gl X "isinstance" := by rfl) (hgy : Gl X (Str.ofString y) := by rfl) (hdy : ((Str.ofString y) == ("__debug__" : Str)) = false := by decide)
    (hs : starEach [.Name n p1, .Name (Str.ofString y) p2] X.env = (false, eval (.Name n p1) X.env) :: starEach [.Name (Str.ofString y) p2] X.env := by rfl) (hs2 : starEach [.Name (Str.ofString y) p2] X.env = (false, eval (.Name (Str.ofString y) p2) X.env) :: starEach [] X.env := by rfl) (hpl : (backTo pos (starEach [.Name (Str.ofString y) p2] X.env)).any (·.1) = false := by rfl) :
    DE (X.suite a ((a, oe) :: pn)) A' W0 (.Call (.Name "isinstance" p) [.Name n p1, .Name (Str.ofString y) p2] [] pos) (xIs i y c) := by
  obtain ⟨hcn, ec⟩ := Su.is T hZ
  subst ec
  exact peI (pe_callB (X := X.suite a ((a, oe) :: pn)) (call_isX (T.cls _ hcn) hz hv) hg hm (by decide +kernel) (pa_cons (pe_var (i := i) hN hvi hd hcd) (pa_cons (pe_glob (v := .ref (gaS X.K y)) hgy (T.mg y hy) rfl hdy) pa_nil hs2) hs) (by decide) (by decide) hs hpl) fun σ H Q ⟨F, ρ, S, q⟩ => by
    have hne : xIs i y c ρ ≠ .bad := fun z => by rw [z] at q; exact q
    obtain ⟨hr, e⟩ := raw_of (s := xIs i y c ρ) rfl hne
    obtain ⟨v, e1, e2⟩ := S.val i _ hr
    have e3 : v = .ref a := e2.trans Su.x
    subst e3
    rw [← e] at q
    exact ⟨_, e1, .ref (gaS X.K y), .ref (gaS X.K y), subX c.cls y, rfl, fun u h => h, T.kit _ hcn _ hy, Su.dict S, q _ F H (.refl S.le) (.bl _)⟩
theorem d_isV (i : Nat) (T : ExK X.K X.mg ns) (Su : Suit A A' c cls dd a) (hZ : A.Z = zOf X.K ns) (hz : Zc cls dd oe) (hv : ∃ vs, oe.data = .fields vs) (hm : X.mg "isinstance" = none) (hmv : X.mg "ValueError" = none) (hN : X.N[i]? = some n := by rfl) (hvi : Vis X.env.scope n := by first | exact Or.inl rfl | exact Or.inr (Or.inl rfl) | exact Or.inr (Or.inr rfl))
    (hd : (n == ("__debug__" : Str)) = false := by decide) (hcd : (n == ("__classdict__" : Str)) = false := by decide) (hg : Gl X "isinstance" := by rfl) (hgy : Gl X "ValueError" := by rfl)
    (hs : starEach [.Name n p1, .Name "ValueError" p2] X.env = (false, eval (.Name n p1) X.env) :: starEach [.Name "ValueError" p2] X.env := by rfl) (hs2 : starEach [.Name "ValueError" p2] X.env = (false, eval (.Name "ValueError" p2) X.env) :: starEach [] X.env := by rfl) (hpl : (backTo pos (starEach [.Name "ValueError" p2] X.env)).any (·.1) = false := by rfl) :
    DE (X.suite a ((a, oe) :: pn)) A' W0 (.Call (.Name "isinstance" p) [.Name n p1, .Name "ValueError" p2] [] pos) (xVe i) := by
  obtain ⟨hcn, ec⟩ := Su.is T hZ
  subst ec
  exact peI (pe_callB (X := X.suite a ((a, oe) :: pn)) (call_isX (T.cls _ hcn) hz hv) hg hm (by decide +kernel) (pa_cons (pe_var (i := i) hN hvi hd hcd) (pa_cons (pe_bltn (v := .ty "ValueError") hgy hmv PyProof.Rows.Boot.«ValueError» rfl) pa_nil hs2) hs) (by decide) (by decide) hs hpl) fun σ H Q ⟨F, ρ, S, q⟩ => by
    have hne : xVe i ρ ≠ .bad := fun z => by rw [z] at q; exact q
    obtain ⟨hr, e⟩ := raw_of (s := xVe i ρ) rfl hne
    obtain ⟨v, e1, e2⟩ := S.val i _ hr
    have e3 : v = .ref a := e2.trans Su.x
    subst e3
    rw [← e] at q
    exact ⟨_, e1, .ty "ValueError", .type "ValueError", true, rfl, fun u h => h, (T.cls _ hcn).ve, Su.dict S, q _ F H (.refl S.le) (.bl _)⟩
/-- e.at -/
theorem d_at (i : Nat) (T : ExK X.K X.mg ns) (Su : Suit A A' c cls dd a) (hZ : A.Z = zOf X.K ns) (hz : Zc cls dd oe) (hv : ∃ vs, oe.data = .fields vs) (hN : X.N[i]? = some n := by rfl) (hvi : Vis X.env.scope n := by first | exact Or.inl rfl | exact Or.inr (Or.inl rfl) | exact Or.inr (Or.inr rfl))
    (hd : (n == ("__debug__" : Str)) = false := by decide) (hcd : (n == ("__classdict__" : Str)) = false := by decide) (hb : attributeBase (.Name n p1) "at" X.env (eval (.Name n p1) X.env) = eval (.Name n p1) X.env := by rfl) :
    DE (X.suite a ((a, oe) :: pn)) A' W0 (.Attribute (.Name n p1) "at" pos) (xAt i c) := by
  obtain ⟨hcn, ec⟩ := Su.is T hZ
  by_cases hbt : c.cls = "BadTests"
  · have hbt' : "BadTests" ∈ ns := by rw [← hbt]; exact hcn
    have G := T.cls "BadTests" hbt'
    refine peI (pe_xf (X := X) (C := gaS X.K "BadTests") ⟨G.ga, G.gt, G.b, (T.bad hbt').hd⟩ (T.bad hbt').no hz hv (pe_var (X := X.suite a ((a, oe) :: pn)) (i := i) hN hvi hd hcd) hb) fun σ H Q ⟨F, ρ, S, q⟩ => ?_
    have hne : xAt i c ρ ≠ .bad := fun z => by rw [z] at q; exact q
    obtain ⟨hr, e⟩ := raw_of (s := xAt i c ρ) rfl hne
    obtain ⟨v, e1, e2⟩ := S.val i _ hr
    have e3 : v = .ref a := e2.trans Su.x
    subst e3
    rw [← e, if_pos hbt] at q
    obtain ⟨C, h1, h2, h⟩ := Su.fl
    cases hc : c.num with
    | none => rw [hc] at q; exact q.elim
    | some m =>
      rw [hc] at h q
      obtain ⟨d, rfl, hdd⟩ := h
      refine ⟨_, e1, rfl, by rw [ec, hbt], d, [(("at" : Str), .int m)], .int m, rfl, S.le _ _ (S.ext.up _ _ hdd), by simp [List.lookup], q _ F H (.refl S.le) (.int _)⟩
  · exact ⟨fun pins s σ H Q I ⟨F, ρ, S, q⟩ => by
      exfalso
      have hne : xAt i c ρ ≠ .bad := fun z => by rw [z] at q; exact q
      obtain ⟨hr, e⟩ := raw_of (s := xAt i c ρ) rfl hne
      rw [← e, if_neg hbt] at q
      exact q⟩
end
end DL

/-! The data layer, part 23: xs * k; int(e); except without a name. -/
namespace DL
open PySem PySem.Spec PyProof.Rows L2
section
set_option maxHeartbeats 4000000
theorem tuple_mulS (l : Addr) (items : Array Value) (n : Nat) (dd : Option Addr) (sl : Array (Option Value)) (x : Int) (u : Tok) (c0 : (decide (x < -(2 ^ 63)) || decide (x ≥ 2 ^ 63)) = false) (c1 : (items.isEmpty || x == 1) = true) :
    Meets (Builtin.«tuple.__mul__» ⟨[.ref l, .int x u], []⟩) (fun _ R s => s.heap.get? l = some { cls := .type "tuple", dict := dd, data := .seq items n, slots := sl } ∧ R (.ok (.ret (Value.ref l))) s) :=
  .of_wp fun prog w A R s h => by
    obtain ⟨hp, g, d, tk, os⟩ := s
    obtain ⟨hl, h⟩ := h
    have f1 := AutoSeq1.idx_int
    wp_walk using wpAny_loadPart' hl
    repeat (first
      | (refine wpAny_ite_false (decide_eq_false (by rw [c0]; exact Bool.false_ne_true)) ?_; wp_walk using wpAny_loadPart' hl)
      | (refine wpAny_ite_true (decide_eq_true (by rw [c1])) ?_; wp_walk using wpAny_loadPart' hl))
    exact ⟨_, rfl, h⟩
theorem tuple_mulZ (l : Addr) (items : Array Value) (n : Nat) (dd : Option Addr) (sl : Array (Option Value)) (x : Int) (u : Tok) (c0 : (decide (x < -(2 ^ 63)) || decide (x ≥ 2 ^ 63)) = false) (c1 : (items.isEmpty || x == 1) = false) (c2 : (decide (x ≤ 0) || items.isEmpty) = true) :
    Meets (Builtin.«tuple.__mul__» ⟨[.ref l, .int x u], []⟩) (fun _ R s => s.heap.get? l = some { cls := .type "tuple", dict := dd, data := .seq items n, slots := sl } ∧
      R (.ok (.ret (Value.ref s.heap.objs.size))) { s with heap := s.heap.push { cls := Value.type "tuple", data := Data.seq #[] }, toks := s.toks }) :=
  .of_wp fun prog w A R s h => by
    obtain ⟨hp, g, d, tk, os⟩ := s
    obtain ⟨hl, h⟩ := h
    have f1 := AutoSeq1.idx_int
    wp_walk using wpAny_loadPart' hl
    repeat (first
      | (refine wpAny_ite_false (decide_eq_false (by rw [c0]; exact Bool.false_ne_true)) ?_; wp_walk using wpAny_loadPart' hl)
      | (refine wpAny_ite_false (decide_eq_false (by rw [c1]; exact Bool.false_ne_true)) ?_; wp_walk using wpAny_loadPart' hl)
      | (refine wpAny_ite_true (decide_eq_true (by rw [c2])) ?_; wp_walk using wpAny_loadPart' hl))
    exact ⟨_, rfl, h⟩
end

def repD (xs : List D) (k : Int) : List D := (List.replicate k.toNat xs).flatten
def mulA : D → D → Option D
  | .tuple xs, .int k => if (Nat.ble xs.length 1000 && (decide (0 ≤ k) && decide (k ≤ 1000))) = true then some (.tuple (repD xs k)) else none
  | .list xs, .int k => if (Nat.ble xs.length 1000 && (decide (0 ≤ k) && decide (k ≤ 1000))) = true then some (.list (repD xs k)) else none
  | _, _ => none
theorem IsA.rep [Wd] {F : Hp} {vs : List V} {xs : List D} (t : IsA F vs xs) : ∀ n : Nat, IsA F (List.replicate n vs).flatten (List.replicate n xs).flatten
  | 0 => .nil
  | n + 1 => by
    rw [List.replicate_succ, List.replicate_succ, List.flatten_cons, List.flatten_cons]
    exact t.append (IsA.rep t n)
theorem rep_len {α : Type} (xs : List α) (k : Int) (h : xs.length ≤ 1000) (hk : k ≤ 1000) : (List.replicate k.toNat xs).flatten.length ≤ 1000000 := by
  have : (List.replicate k.toNat xs).flatten.length = k.toNat * xs.length := by simp [List.length_flatten]
  rw [this]
  exact Nat.mul_le_mul (show k.toNat ≤ 1000 by omega) h
section
variable [Wd] {X : Cx} {pins : List (Addr × Obj)} {σ : L2.St} {H : Hp} {s : Shared}
open L2 in
theorem mul_tup {l : Addr} {xs : List V} {k : Int} {t : Tok} {Q : VK} (I : L2.Inv X pins σ H s) (hT : SqT X.K H l xs) (h0 : 0 ≤ k) (h1 : k ≤ 1000) (hz : xs.length ≤ 1000) (hs : xs = [] ∨ k = 1 → Q (.ref l) H)
    (hn : xs ≠ [] → k ≠ 1 → ∀ p, H p = none → Q (.ref p) (upd H p (.tup (List.replicate k.toNat xs).flatten))) : wpAny (model X.prog X.w) X.A (binaryOp .Mult (.ref l) (.int k t)) (EP X pins σ Q) X.xe s := by
  obtain ⟨its, r, ⟨⟨cls, dd, data, sl⟩, ho, hc, n, hd⟩, hsz⟩ := I.tuple hT
  simp only at hc hd
  subst hc hd
  have hle : its.length = xs.length := r.length.symm
  have hi : its.toArray.isEmpty = decide (xs = []) := by
    cases its with
    | nil =>
      cases xs with
      | nil => rfl
      | cons _ _ => simp at hle
    | cons a b =>
      cases xs with
      | nil => simp at hle
      | cons _ _ => rfl
  have c0 : (decide (k < -(2 ^ 63)) || decide (k ≥ 2 ^ 63)) = false := by
    rw [decide_eq_false (by omega), decide_eq_false (by omega)] <;> rfl
  by_cases hsame : xs = [] ∨ k = 1
  · have c1 : (its.toArray.isEmpty || k == 1) = true := by
      rw [hi]
      rcases hsame with h | h
      · rw [decide_eq_true h]; rfl
      · subst h; simp
    refine wpAny_binaryOp_repeat_ref (T := "tuple") (U := "int") (by decide) ⟨_, ho, rfl⟩ (fun s' => typeIs_int s' k t) noFill_tuple_mul F.fills_int_mul F.slot_int_rmul repeat_tuple F.slot_int_index.lookup
      (call_meets F.slot_int_rmul (typeIs_int s k t) F.entry_int_rmul (F.args_int_rmul_2 _ _) (int_rmul_tuple k t l its.toArray n dd sl)
        ⟨ho, rfl, ⟨_, ho, rfl⟩, call_meets F.slot_tuple_mul ⟨_, ho, rfl⟩ F.entry_tuple_mul (F.args_tuple_mul_2 _ _) (tuple_mulS l its.toArray n dd sl k t c0 c1) ⟨ho, ?_⟩⟩)
    exact ⟨.ref l, H, I, rfl, hs hsame⟩
  · have hne : xs ≠ [] := fun z => hsame (.inl z)
    have hk1 : k ≠ 1 := fun z => hsame (.inr z)
    by_cases hk : 2 ≤ k
    · exact op_repT pins s σ H _ _ _ _ Q I (show RelV (.ref l) (.ref l) from rfl) (show RelV (.int k) (.int k t) from ⟨t, rfl⟩) ⟨l, k, xs, rfl, rfl, hT, hne, hk, h1, hz, hn hne hk1⟩
    · have hk0 : k = 0 := by omega
      subst hk0
      have c1 : (its.toArray.isEmpty || (0 : Int) == 1) = false := by rw [hi, decide_eq_false hne]; rfl
      refine wpAny_binaryOp_repeat_ref (T := "tuple") (U := "int") (by decide) ⟨_, ho, rfl⟩ (fun s' => typeIs_int s' 0 t) noFill_tuple_mul F.fills_int_mul F.slot_int_rmul repeat_tuple F.slot_int_index.lookup
        (call_meets F.slot_int_rmul (typeIs_int s 0 t) F.entry_int_rmul (F.args_int_rmul_2 _ _) (int_rmul_tuple 0 t l its.toArray n dd sl)
          ⟨ho, rfl, ⟨_, ho, rfl⟩, call_meets F.slot_tuple_mul ⟨_, ho, rfl⟩ F.entry_tuple_mul (F.args_tuple_mul_2 _ _) (tuple_mulZ l its.toArray n dd sl 0 t c0 c1 rfl) ⟨ho, ?_⟩⟩)
      refine ⟨.ref s.heap.objs.size, _, I.laid (t' := s.toks) (o := .tup []) (fun b ob q => Heap.get?_push_of_some _ q) (Nat.le_refl _) ?_, rfl, hn hne hk1 _ (I.hok.fresh (Nat.le_refl _))⟩
      exact ⟨Nat.zero_le _, [], .nil, IsTup.new _ _⟩
theorem mul_lst {l : Addr} {xs : List V} {k : Int} {t : Tok} {Q : VK} (I : L2.Inv X pins σ H s) (hH : Rd H l (.lst xs)) (h0 : 0 ≤ k) (hk : k ≤ 1000) (hzz : xs.length ≤ 1000)
    (q : ∀ p, H p = none → Q (.ref p) (upd H p (.lst (List.replicate k.toNat xs).flatten))) : wpAny (model X.prog X.w) X.A (binaryOp .Mult (.ref l) (.int k t)) (EP X pins σ Q) X.xe s := by
  obtain ⟨z, its, n, r, hl, e⟩ := Inv.lstR I hH
  have h1 : -(2 ^ 63) ≤ k := by omega
  have h2 : k < 2 ^ 63 := by omega
  have hz : xs.length * k.toNat ≤ sizeLine := by
    have : xs.length * k.toNat ≤ 1000 * 1000 := Nat.mul_le_mul hzz (show k.toNat ≤ 1000 by omega)
    have := sizeLine_eq
    omega
  have hlen : its.toArray.size * k.toNat ≤ sizeLine := by rw [List.size_toArray, ← hl]; exact hz
  have hcap : ¬ its.toArray.size * k.toNat > (2 ^ 63 - 1) / 8 := by
    have : (sizeLine : Nat) ≤ (2 ^ 63 - 1) / 8 := by decide
    omega
  have hfit : ¬ (!Builtin.List.listFitsIndex k) = true := by
    rw [fitsIndex_both h1 h2]
    exact Bool.false_ne_true
  have hlong : ¬ Builtin.List.listTooLong (its.toArray.size * k.toNat) = true := by
    rw [notLongL hlen]
    exact Bool.false_ne_true
  have hnew : List.foldl (fun x1 x2 => x1 ++ x2) #[] (List.replicate (if its.toArray.isEmpty = true then 0 else k.toNat) its.toArray) = (List.replicate k.toNat its).flatten.toArray := by
    have f0 : ∀ m : Nat, List.foldl (fun x1 x2 => x1 ++ x2) #[] (List.replicate m its.toArray) = (List.replicate m its).flatten.toArray := fun m => by
      have := foldl_rep its m []
      rw [List.nil_append] at this
      exact this
    rw [f0]
    cases its with
    | nil => simp
    | cons a r' => rw [if_neg (by simp)]
  refine wpAny_binaryOp_repeat_ref (T := "list") (U := "int") (by decide) ⟨_, e, rfl⟩ (fun s' => typeIs_int s' k t) noFill_list_mul F.fills_int_mul F.slot_int_rmul repeat_list F.slot_int_index.lookup
    (call_meets F.slot_int_rmul (typeIs_int s k t) F.entry_int_rmul (F.args_int_rmul_2 _ _) (int___rmul___int_list k t l its.toArray n)
      ⟨e, rfl, ⟨_, e, rfl⟩, call_meets F.slot_list_mul ⟨_, e, rfl⟩ F.entry_list_mul (F.args_list_mul_2 _ _) (AutoListH.list___mul___list_int_3 l its.toArray n k t hfit hcap hlong) ⟨e, ?_⟩⟩)
  rw [hnew]
  exact ⟨.ref _, _, I.lnew (t' := s.toks) (r.rep k.toNat) (by rw [PyProof.Rows.lm_len_rep_flat, Nat.mul_comm]; exact hz), rfl, q _ I.fresh⟩
end
section
variable [Wd] {X : Cx}
theorem mulA_ok {n : Nat} {k : Int} (h : (Nat.ble n 1000 && (decide (0 ≤ k) && decide (k ≤ 1000))) = true) : n ≤ 1000 ∧ 0 ≤ k ∧ k ≤ 1000 := by
  rw [Bool.and_eq_true, Bool.and_eq_true, Nat.ble_eq] at h
  exact ⟨h.1, of_decide_eq_true h.2.1, of_decide_eq_true h.2.2⟩
theorem o_mulA : OpR X (binaryOp .Mult) (rD mulA) := by
  intro pins s σ H x y v u Q I rx ry h
  obtain ⟨F, a, b, d, le, ia, ib, e, q⟩ := h
  unfold mulA at e
  split at e
  · rename_i xs k
    split at e
    · rename_i hh
      cases e
      obtain ⟨hz, h0, h1⟩ := mulA_ok hh
      have it := ia.tupIs
      obtain ⟨p, vs, rfl, hp, z, t⟩ := ia.tup le
      cases ib.int
      cases rx
      obtain ⟨tk, rfl⟩ := ry
      have hl := t.length
      have hsz : (List.replicate k.toNat vs).flatten.length ≤ sizeLine := by
        have := rep_len vs k (by omega) h1
        have := sizeLine_eq
        omega
      refine mul_tup I (.inl hp) h0 h1 (by omega) (fun hs => ?_) fun _ _ p' hn => q _ _ _ (.laid le hn) (.newT le hn hsz (t.rep k.toNat))
      have e1 : repD xs k = xs := by
        unfold repD
        rcases hs with hs | hs
        · have : xs = [] := by
            cases xs with
            | nil => rfl
            | cons _ _ => rw [hs] at hl; simp at hl
          subst this
          simp
        · subst hs; simp
      rw [e1] at q
      exact q _ F H (.refl le) it
    · cases e
  · rename_i xs k
    split at e
    · rename_i hh
      cases e
      obtain ⟨hz, h0, h1⟩ := mulA_ok hh
      obtain ⟨p, vs, rfl, hp, z, t⟩ := ia.list le
      cases ib.int
      cases rx
      obtain ⟨tk, rfl⟩ := ry
      have hl := t.length
      have hsz : (List.replicate k.toNat vs).flatten.length ≤ sizeLine := by
        have := rep_len vs k (by omega) h1
        have := sizeLine_eq
        omega
      exact mul_lst I hp h0 h1 (by omega) fun p' hn => q _ _ _ (.laid le hn) (.newL le hn hsz (t.rep k.toNat))
    · cases e
  · cases e
/-! ### int(e) -/
def intD1 : List D → Option D
  | [.int i] => some (.int i)
  | [.bool b] => some (.int (if b then 1 else 0))
  | _ => none
theorem c_int : CallR X (.type "int") (cD intD1) := by
  intro pins s σ H xs us Q I r h
  obtain ⟨F, as, d, le, ia, e, q⟩ := h
  unfold intD1 at e
  split at e
  · cases e
    obtain ⟨v, rfl, i⟩ := ia.one
    cases i.int
    exact call_int1 pins s σ H _ us Q I r (.inl ⟨_, rfl, q _ F H (.refl le) (.int _)⟩)
  · cases e
    obtain ⟨v, rfl, i⟩ := ia.one
    cases i.bl
    exact call_int1 pins s σ H _ us Q I r (.inr ⟨_, rfl, q _ F H (.refl le) (.int _)⟩)
  · cases e
end
/-! ### except without a name -/
section
variable [Wd] {X : Cx} {A : Amb} {W : WX} {x : Str} {C : Addr} {body suite : List Stmt} {b₀ : Stmt} {np pos pos' : Pos} {g : Rho → SO} {k : Exc → Option (Rho → SO)}
theorem s_tryN {m : Nat} (hm : A.n = m) (hs : X.stack = X.env :: X.outer) (hf : X.env.frame = some X.env.locals) (tk : Takes X W) (hc : L2.Names X x (.ref C))
    (hk : ∀ c cls dd F, Zx A.Z c cls dd F → PySem.W.exmOne X.K cls (.ref C) = some (k c).isSome)
    (hb : ∀ (W' : WX) (pn : List (Addr × Obj)) (xe : Value → Shared → Prop), Takes (X.tr pn xe) W' → PassesOwn (model X.prog X.w) X.A X.env xe → DSs (X.tr pn xe) A W' body g)
    (hsu : ∀ (c : Exc) (s : Rho → SO) (a : Addr) (oe : Obj) (cls : Value) (dd : Option Addr) (pn : List (Addr × Obj)) (A' : Amb), Zc cls dd oe → (∃ vs, oe.data = .fields vs) → Suit A A' c cls dd a → k c = some s → DSs (X.suite a ((a, oe) :: pn)) A' W0 (b₀ :: suite) s) :
    DS X A W (.Try body [.ExceptHandler (some (.Name x np)) none (b₀ :: suite) pos'] [] [] pos) (tryN m g k) := by
  subst hm
  refine psI (ps_try_only (tb := fun W' => tS A W' g) (ts := fun a cls dd D σ H => ∃ c s A', k c = some s ∧ Suit A A' c cls dd a ∧ tS A' W0 s D σ H) hs hf hc tk hb fun a oe cls dd pn hz hv => ⟨fun pins s σ H E I ⟨c, s', A', h1, h2, q⟩ => (hsu c s' a oe cls dd pn A' hz hv h2 h1).run pins s σ H E I q⟩) fun E σ H ⟨F, ρ, S, q⟩ => ⟨F, ρ, S, ?_⟩
  unfold tryN at q
  cases hg : g ρ with
  | nx ρ' => rw [hg] at q; exact q
  | rt d => rw [hg] at q; exact q
  | ro d => rw [hg] at q; exact q
  | bk d => rw [hg] at q; exact q
  | ct d => rw [hg] at q; exact q
  | bad => rw [hg] at q; exact q
  | ex c =>
    rw [hg] at q
    simp only at q
    intro σ' cls dd F' H' x' up' hl z
    refine ⟨(k c).isSome, hk c cls dd F' z, fun hb => ?_, fun hb => ?_⟩
    · intro a ha
      cases hkc : k c with
      | none => rw [hkc] at hb; cases hb
      | some s =>
        rw [hkc] at q
        simp only at q
        refine ⟨c, s, ⟨F', H', A.Z, A.n, .ref a⟩, hkc, ⟨rfl, rfl, rfl, z⟩, F', List.replicate A.n none, blank_sim (A := ⟨F', H', A.Z, A.n, .ref a⟩) x'.le (.refl x'.le) hl, ?_⟩
        cases hso : s (List.replicate A.n none) with
        | nx ρ' =>
          rw [hso] at q
          exact fun σ2 F2 H2 S2 e2 => q _ F2 H2 (back_sim (A := A) (A' := ⟨F', H', A.Z, A.n, .ref a⟩) x' rfl S2) (up'.trans e2)
        | rt d => rw [hso] at q; exact fun v F2 H2 x2 i2 => q v F2 H2 (x'.trans x2) i2
        | ro d => rw [hso] at q; exact fun p vs F2 H2 x2 h1 h2 h3 h4 h5 => q p vs F2 H2 (x'.trans x2) h1 (Same.free x'.keep h2) h3 h4 h5
        | bk d => rw [hso] at q; exact q.elim
        | ct d => rw [hso] at q; exact q.elim
        | ex d => rw [hso] at q; exact q.elim
        | bad => rw [hso] at q; exact q.elim
    · cases hkc : k c with
      | some s => rw [hkc] at hb; cases hb
      | none => rw [hkc] at q; exact q σ' cls dd F' H' x' up' hl z
end
end DL

/-! The data layer, part 24: what is never come to; x.split(e). -/
namespace DL
open PySem PySem.Spec PyProof.Rows L2
def splitD (x : Str) : D → Option D
  | .str y => if (!(y.length == 0) && (decide (x.length + 2 ≤ sizeLine) && decide ((Txt.split x y).length ≤ sizeLine))) = true then some (.list ((Txt.split x y).map PyData.str)) else none
  | _ => none
def splitR (fa fb : Rho → Res D) : Rho → Res D := fun ρ => (fa ρ).bind fun a => match a with
  | .str x => (fb ρ).bind fun b => .of (splitD x b)
  | _ => .bad
section
variable [Wd] {X : Cx} {A : Amb} {W : WX} {o e : Expr} {fa fb : Rho → Res D}
theorem isA_strs {F : Hp} : ∀ ys : List Str, IsA F (ys.map V.str) (ys.map PyData.str)
  | [] => .nil
  | y :: ys => .cons (.str y) (isA_strs ys)
theorem d_split {apos pos : Pos} (ho : BE X A W o fa) (he : BE X A W e fb) (hs : starEach [e] X.env = [(false, eval e X.env)] := by rfl) (hbase : attributeBase o "split" X.env (eval o X.env) = eval o X.env := by rfl) (hline : (apos.endLine == pos.line) = true := by rfl) :
    DE X A W (.Call (.Attribute o "split" apos) [e] [] pos) (splitR fa fb) :=
  peI (pe_split ho he hs hbase hline) fun σ H Q ⟨F, ρ, S, q⟩ => ⟨F, ρ, S, by
    unfold splitR at q
    cases ha : fa ρ with
    | bad => rw [ha] at q; exact q
    | ex c => rw [ha] at q; exact q
    | ok da =>
      rw [ha] at q
      simp only [Res.bind_ok] at q
      intro x F1 H1 x1 i1
      cases da with
      | str a =>
        cases i1.str
        refine ⟨⟨a, rfl⟩, F1, ρ, S.grow x1, ?_⟩
        dsimp only at q
        cases hb : fb ρ with
        | bad => rw [hb] at q; exact q
        | ex c => rw [hb] at q; exact q.ext x1
        | ok db =>
          rw [hb] at q
          simp only [Res.bind_ok] at q
          intro y F2 H2 x2 i2
          cases db with
          | str b =>
            cases i2.str
            unfold splitD at q
            dsimp only at q
            by_cases hc : (!(b.length == 0) && (decide (a.length + 2 ≤ sizeLine) && decide ((Txt.split a b).length ≤ sizeLine))) = true
            · rw [if_pos hc] at q
              simp only [Bool.and_eq_true, Bool.not_eq_true', decide_eq_true_eq] at hc
              refine ⟨a, b, rfl, rfl, hc.1, hc.2.1, fun p hn => ?_⟩
              exact q _ _ _ ((x1.trans x2).trans (.laid x2.le hn)) (.newL x2.le hn (by rw [List.length_map]; exact hc.2.2) (isA_strs _))
            · rw [if_neg hc] at q
              exact q.elim
          | _ => exact q.elim
      | _ => exact q.elim⟩
end
end DL

/-! The data layer, part 25: frozen instances of one class: their fields, their methods. -/
namespace DL
open PySem PySem.Spec PyProof.Rows L2
def keyF (f : Str) : D → Bool
  | .str g => f == g
  | _ => false
/-- a field of an instance, as data -/
def instK : D → Option (List (D × D))
  | .dict ((.none, .none) :: kvs) => some kvs
  | _ => none
theorem instK_some {d : D} {kvs : List (D × D)} (h : instK d = some kvs) : d = .dict ((.none, .none) :: kvs) := by
  unfold instK at h
  split at h
  · cases h; rfl
  · cases h
def fldD (f : Str) (d : D) : Option D := (instK d).bind fun kvs => (kvs.find? fun c => keyF f c.1).map (·.2)
def fldR (f : Str) (g : Rho → Res D) : Rho → Res D := fun ρ => (g ρ).bind fun d => .of (fldD f d)
/-- what the rules ask of the class -/
structure ClsY [Wd] (K : PySem.W.Frag) (fs : List Str) : Prop where
  c : Cls K Wd.C
  n : ∀ f ∈ fs, NoAttr K Wd.C f
section
variable [Wd]
theorem IsO.look {F : Hp} {f : Str} {d : D} : ∀ {fs : List (Str × V)} {kvs : List (D × D)}, IsO F fs kvs → (kvs.find? fun c => keyF f c.1).map (·.2) = some d → ∃ v, fs.lookup f = some v ∧ Is F v d
  | _, _, .nil, e => by cases e
  | _, _, .cons (f := g) (v := v) (fs := fs) (d := d') (es := es) i t, e => by
    rw [List.find?_cons] at e
    rw [List.lookup_cons]
    cases hk : (f == g) with
    | true =>
      rw [show keyF f (PyData.str g) = (f == g) from rfl, hk] at e
      cases e
      exact ⟨v, rfl, i⟩
    | false =>
      rw [show keyF f (PyData.str g) = (f == g) from rfl, hk] at e
      exact IsO.look t e
theorem IsO.none {F : Hp} {f : Str} : ∀ {fs : List (Str × V)} {kvs : List (D × D)}, IsO F fs kvs → (kvs.find? fun c => keyF f c.1) = none → fs.lookup f = none
  | _, _, .nil, _ => rfl
  | _, _, .cons (f := g) (v := v) (fs := fs) (d := d') (es := es) i t, e => by
    rw [List.find?_cons] at e
    rw [List.lookup_cons]
    cases hk : (f == g) with
    | true =>
      rw [show keyF f (PyData.str g) = (f == g) from rfl, hk] at e
      cases e
    | false =>
      rw [show keyF f (PyData.str g) = (f == g) from rfl, hk] at e
      exact IsO.none t e
/-- an instance's data is an instance -/
theorem Is.inst {F : Hp} {v : V} {kvs : List (D × D)} (h : Is F v (.dict ((.none, .none) :: kvs))) : ∃ a dx fs, v = .ref a ∧ F a = some (.ins Wd.C dx fs) ∧ IsO F fs kvs := by
  cases h with
  | obj h t => exact ⟨_, _, _, rfl, h, t⟩
  | dct h z t =>
    cases t with
    | cons _ _ h3 _ _ => cases h3
theorem IsH.inst {F H : Hp} {v : V} {kvs : List (D × D)} (h : IsH F H v (.dict ((.none, .none) :: kvs))) : ∃ a dx fs, v = .ref a ∧ F a = some (.ins Wd.C dx fs) ∧ IsO F fs kvs := by
  cases h with
  | of h => exact h.inst
variable {X : Cx} {A : Amb} {W : WX} {e o : Expr} {f m : Str} {pos apos : Pos} {fe fo : Rho → Res D}
theorem fldD_some {d x : D} (h : fldD f d = some x) : ∃ kvs, d = .dict ((.none, .none) :: kvs) ∧ (kvs.find? fun c => keyF f c.1).map (·.2) = some x := by
  unfold fldD at h
  cases hi : instK d with
  | none => rw [hi] at h; cases h
  | some kvs => rw [hi] at h; exact ⟨kvs, instK_some hi, h⟩
theorem d_fld {fs : List Str} (he : BE X A W e fe) (c : ClsY X.K fs) (hf : f ∈ fs := by decide) (hb : attributeBase e f X.env (eval e X.env) = eval e X.env := by rfl) : DE X A W (.Attribute e f pos) (fldR f fe) :=
  peI (pe_fld he hb) fun σ H Q ⟨F, ρ, S, q⟩ => ⟨F, ρ, S, by
    unfold fldR at q
    cases hr : fe ρ with
    | bad => rw [hr] at q; exact q
    | ex c => rw [hr] at q; exact q
    | ok d =>
      rw [hr] at q
      simp only [Res.bind_ok] at q
      intro v F1 H1 x1 i1
      cases hg : fldD f d with
      | none => rw [hg] at q; exact q.elim
      | some x =>
        rw [hg] at q
        obtain ⟨kvs, rfl, h2⟩ := fldD_some hg
        obtain ⟨a, dx, gs, rfl, ha, io⟩ := i1.inst
        obtain ⟨v', hl, hv⟩ := io.look h2
        exact ⟨a, Wd.C, dx, gs, v', rfl, x1.le _ _ ha, c.c, c.n f hf, hl, q _ F1 H1 x1 hv⟩⟩
/-- a method, its promise by data; self is the first -/
structure MethD (P : Program) (w : World) (K : PySem.W.Frag) (mg : Str → Option Value) (base : Heap) (Z : String → Addr → Prop) (k : Nat) (m : Str) (ps : List Str) (fD : List D → RO) : Prop where
  ex : ∃ f fd, FnOk P w K mg base (L2.CX P w) k f fd ps (spD Z ps.length fD) ∧ Meth K Wd.C m f ∧ Binds K fd ps []
def tMethS' (C : Addr) (m : Str) (sp : Sp) (E : L2.St → XK) (ta : TE) (t : TA) : TE := fun σ H Q => ta σ H fun x H1 => ∃ a dx fs, x = .ref a ∧ H1 a = some (.ins C dx fs) ∧ fs.lookup m = none ∧ t σ H1 fun vs H2 => sp (x :: vs) H2 Q (E σ)
theorem pe_methS' {CX : CXT} {k : Nat} {C f : Addr} {fd : FuncData} {ps : List Str} {sp : Sp} {E : L2.St → XK} {es : List Expr} {ta : TE} {t : TA} {pl : Sem Bool} (he : PE X o ta) (c : Cls X.K C) (hm : Meth X.K C m f) (F : FnOk X.prog X.w X.K X.mg X.base CX k f fd ps sp) (hr : Room k X.A) (hb : Binds X.K fd ps []) (hx : ∀ σ, PassesAt CX X σ (E σ)) (ha : PA X (e :: es) t)
    (hst : starEach (e :: es) X.env = (false, eval e X.env) :: starEach es X.env := by rfl) (hpl : (backTo pos (starEach es X.env)).any (·.1) = false := by rfl)
    (ht : eval (.Call (.Attribute o m apos) (e :: es) [] pos) X.env = (do
      let ov ← eval o X.env
      standAt apos.atName
      let (f, first) ← holding [ov] (getMethod ov m pl)
      callWith pos f first (backTo pos (starEach (e :: es) X.env)) (backToKw pos (keywordEach [] X.env))) := by rfl) :
    PE X (.Call (.Attribute o m apos) (e :: es) [] pos) (tMethS' C m sp E ta t) := by
  refine ⟨fun pins s σ H Q I h => ?_⟩
  refine PySem.W.methodCall_KW (pl := pl) (thn (he.run pins s σ H _ I h) fun u s1 ⟨x, H1, I1, rx, a, dx, fs, ex, ea, l, q⟩ => ?_) ht
  subst ex
  obtain rfl : u = Value.ref a := rx
  refine getmeth_ok I1 ea c hm l ?_
  refine PySem.W.callWith_K (first := [.ref a]) (h₀ := X.base) I.ok.mod.kin hm.kp (thn (ha.run pos pins s1 σ H1 _ I1 q) fun us s2 ⟨vs, H2, I2, r, q2⟩ => ⟨I2.kIn, ?_⟩) hst hpl
  exact run_fnS (us := .ref a :: us) (vs := .ref a :: vs) F hr hb (hx σ) I2 (.cons rfl r) q2
/-- the value of o.m(..): o an instance without a field of that name -/
def methR (n : Nat) (m : Str) (fD : List D → RO) (fo : Rho → Res D) (g : Rho → Res (List D)) : Rho → Res D := fun ρ => (fo ρ).bind fun d => match instK d with
  | some kvs => if (kvs.find? fun c => keyF m c.1).isNone = true then (g ρ).bind fun ds => if ds.length + 1 = n then (fD (d :: ds)).res else .bad else .bad
  | none => .bad
theorem d_meth {k : Nat} {ps fs : List Str} {fD : List D → RO} {es : List Expr} {g : Rho → Res (List D)} {n : Nat} {pl : Sem Bool} (c : ClsY X.K fs) (G : MethD X.prog X.w X.K X.mg X.base A.Z k m ps fD) (tk : Takes X W) (hr : Room k X.A) (ho : DE X A W o fo) (ha : DAs X A W (e :: es) g)
    (hst : starEach (e :: es) X.env = (false, eval e X.env) :: starEach es X.env := by rfl) (hpl : (backTo pos (starEach es X.env)).any (·.1) = false := by rfl)
    (ht : eval (.Call (.Attribute o m apos) (e :: es) [] pos) X.env = (do
      let ov ← eval o X.env
      standAt apos.atName
      let (f, first) ← holding [ov] (getMethod ov m pl)
      callWith pos f first (backTo pos (starEach (e :: es) X.env)) (backToKw pos (keywordEach [] X.env))) := by rfl) (hn : ps.length = n := by rfl) :
    DE X A W (.Call (.Attribute o m apos) (e :: es) [] pos) (methR n m fD fo g) := by
  subst hn
  obtain ⟨f, fd, F, hm, hb⟩ := G.ex
  refine peI (pe_methS' (pl := pl) ho c.c hm F hr hb (fun σ => passAt tk σ) ha hst hpl ht) fun σ H Q ⟨F, ρ, S, q⟩ => ⟨F, ρ, S, ?_⟩
  unfold methR at q
  cases hf : fo ρ with
  | bad => rw [hf] at q; exact q
  | ex c => rw [hf] at q; exact q
  | ok d =>
    rw [hf] at q
    simp only [Res.bind_ok] at q
    intro v F1 H1 x1 i1
    cases hi : instK d with
    | none => rw [hi] at q; exact q.elim
    | some kvs =>
      rw [hi] at q
      have hd := instK_some hi
      dsimp only at q
      by_cases hk : (kvs.find? fun c => keyF m c.1).isNone = true
      · rw [if_pos hk] at q
        obtain ⟨a, dx, gs, rfl, ha', io⟩ := (hd ▸ i1 : Is F1 v (.dict ((.none, .none) :: kvs))).inst
        refine ⟨a, dx, gs, rfl, x1.le _ _ ha', io.none (Option.isNone_iff_eq_none.mp hk), F1, ρ, S.grow x1, ?_⟩
        cases hg : g ρ with
        | bad => rw [hg] at q; exact q
        | ex c => rw [hg] at q; exact Pex.ext x1 q
        | ok ds =>
          rw [hg] at q
          simp only [Res.bind_ok] at q
          intro vs F2 H2 x2 i2
          by_cases hn : ds.length + 1 = ps.length
          · rw [if_pos hn] at q
            refine ⟨F2, d :: ds, by rw [List.length_cons, i2.length]; exact hn, x2.le, .cons (i1.mono x2.up) i2, ?_⟩
            have x3 := x1.trans x2
            cases hres : fD (d :: ds) with
            | rt d => rw [hres] at q; exact fun v F3 H3 x i => q v F3 H3 (x3.trans x) i
            | ro xs => rw [hres] at q; exact fun p us F3 H3 x h1 h2 h3 h4 h5 => frozen q (x3.trans x) h1 (Same.free x3.keep h2) h3 h4 h5
            | ex c => rw [hres] at q; exact fun cls dd F3 H3 x z => q cls dd F3 H3 (x3.trans x) z
            | bad => rw [hres] at q; exact q
          · rw [if_neg hn] at q; exact q.elim
      · rw [if_neg hk] at q; exact q.elim
end
end DL

/-! The data layer, part 26: sep.join(e); str(int). -/
namespace DL
open PySem PySem.Spec PyProof.Rows L2
def strsD : List D → Option (List Str)
  | [] => some []
  | .str x :: r => (strsD r).map (x :: ·)
  | _ :: _ => none
def joinD (a : Str) : D → Option D
  | .list ds => (strsD ds).bind fun ys => if (decide ((ys.map (·.length)).sum + ys.length * a.length ≤ 16777216)) = true then some (.str (Txt.join a ys)) else none
  | _ => none
def joinR (fa fb : Rho → Res D) : Rho → Res D := fun ρ => (fa ρ).bind fun a => match a with
  | .str x => (fb ρ).bind fun b => .of (joinD x b)
  | _ => .bad
section
variable [Wd] {X : Cx} {A : Amb} {W : WX} {o e : Expr} {fa fb : Rho → Res D}
theorem isA_strs_of {F : Hp} : ∀ {ds : List D} {ys : List Str} {vs : List V}, strsD ds = some ys → IsA F vs ds → vs = ys.map V.str
  | [], _, _, h, .nil => by cases h; rfl
  | .str x :: r, ys, _, h, .cons i t => by
    rw [strsD] at h
    obtain ⟨zs, h1, rfl⟩ := Option.map_eq_some_iff.mp h
    cases i
    rw [isA_strs_of h1 t]
    rfl
  | .none :: _, _, _, h, _ => by cases h
  | .bool _ :: _, _, _, h, _ => by cases h
  | .int _ :: _, _, _, h, _ => by cases h
  | .list _ :: _, _, _, h, _ => by cases h
  | .tuple _ :: _, _, _, h, _ => by cases h
  | .dict _ :: _, _, _, h, _ => by cases h
theorem d_join {apos pos : Pos} (ho : BE X A W o fa) (he : BE X A W e fb) (hs : starEach [e] X.env = [(false, eval e X.env)] := by rfl) (hbase : attributeBase o "join" X.env (eval o X.env) = eval o X.env := by rfl) (hline : (apos.endLine == pos.line) = true := by rfl) :
    DE X A W (.Call (.Attribute o "join" apos) [e] [] pos) (joinR fa fb) :=
  peI (pe_join ho he hs hbase hline) fun σ H Q ⟨F, ρ, S, q⟩ => ⟨F, ρ, S, by
    unfold joinR at q
    cases ha : fa ρ with
    | bad => rw [ha] at q; exact q
    | ex c => rw [ha] at q; exact q
    | ok da =>
      rw [ha] at q
      simp only [Res.bind_ok] at q
      intro x F1 H1 x1 i1
      cases da with
      | str a =>
        cases i1.str
        refine ⟨⟨a, rfl⟩, F1, ρ, S.grow x1, ?_⟩
        dsimp only at q
        cases hb : fb ρ with
        | bad => rw [hb] at q; exact q
        | ex c => rw [hb] at q; exact q.ext x1
        | ok db =>
          rw [hb] at q
          simp only [Res.bind_ok] at q
          intro y F2 H2 x2 i2
          cases db with
          | list ds =>
            obtain ⟨p, vs, rfl, hp, _, t⟩ := i2.list x2.le
            unfold joinD at q
            dsimp only at q
            cases hy : strsD ds with
            | none => rw [hy] at q; exact q.elim
            | some ys =>
              rw [hy] at q
              simp only [Option.bind_some] at q
              by_cases hc : (decide ((ys.map (·.length)).sum + ys.length * a.length ≤ 16777216)) = true
              · rw [if_pos hc] at q
                have hv := isA_strs_of hy t
                subst hv
                exact ⟨a, p, ys, rfl, rfl, .inl (.inl hp), of_decide_eq_true hc, q _ F2 H2 (x1.trans x2) (.str _)⟩
              · rw [if_neg hc] at q
                exact q.elim
          | _ => exact q.elim
      | _ => exact q.elim⟩

end
/-! ### str(e) -/
def strD1 : List D → Option D
  | [.int i] => if smallI i = true then some (.str (toString i : Str)) else none
  | _ => none
section
variable [Wd] {X : Cx}
theorem log_small {n : Nat} (h : n < 18446744073709551616) : n.log2 < 1920 := by
  by_cases h0 : n = 0
  · subst h0; decide
  · have : n.log2 < 64 := (Nat.log2_lt h0).mpr h
    omega
theorem c_str : CallR X (.type "str") (cD strD1) := by
  intro pins s σ H xs us Q I r h
  obtain ⟨F, as, d, le, ia, e, q⟩ := h
  unfold strD1 at e
  split at e
  · rename_i i
    split at e
    · rename_i hs
      cases e
      obtain ⟨v, rfl, iv⟩ := ia.one
      cases iv.int
      have hb : i.natAbs < 18446744073709551616 := by
        unfold smallI at hs
        simpa [Nat.blt_eq] using hs
      exact call_str_int pins s σ H _ us Q I r ⟨_, rfl, log_small hb, q _ F H (.refl le) (.str _)⟩
    · cases e
  · cases e
end
end DL

/-! The data layer, part 27: texts: x in y, y[i], y.index(x). -/
namespace DL
open PySem PySem.Spec PyProof.Rows L2
def inS (neg : Bool) : D → D → Option D
  | .str x, .str y => some (.bool (neg ^^ !(Builtin.Str.occurrences y x 0 y.length 1).isEmpty))
  | _, _ => none
def ixS : D → D → Option D
  | .str z, .int i => if decide (z.length ≤ sizeLine) = true then (L2.atI z.cps.toList i).map fun c => .str ⟨#[c]⟩ else none
  | _, _ => none
def idxS (a : Str) : D → Option D
  | .str b => match Builtin.Str.occurrences a b 0 a.length 1 with
    | i :: _ => some (.int (i : Nat))
    | [] => none
  | _ => none
def idxSR (fa fb : Rho → Res D) : Rho → Res D := fun ρ => (fa ρ).bind fun a => match a with
  | .str x => (fb ρ).bind fun b => .of (idxS x b)
  | _ => .bad
section
variable [Wd] {X : Cx} {A : Amb} {W : WX} {o e : Expr} {fa fb : Rho → Res D}
theorem o_inS : OpR X (compareOp .In) (rD (inS false)) := by
  intro pins s σ H x y v u Q I rx ry h
  obtain ⟨F, a, b, d, le, ia, ib, e, q⟩ := h
  unfold inS at e
  split at e
  · rename_i i j
    cases e
    cases ia.str
    cases ib.str
    refine op_in_str pins s σ H _ _ v u Q I rx ry ⟨i, j, rfl, rfl, ?_⟩
    have := q _ F H (.refl le) (.bl _)
    rw [Bool.false_xor] at this
    exact this
  · cases e
theorem o_notInS : OpR X (compareOp .NotIn) (rD (inS true)) := by
  intro pins s σ H x y v u Q I rx ry h
  obtain ⟨F, a, b, d, le, ia, ib, e, q⟩ := h
  unfold inS at e
  split at e
  · rename_i i j
    cases e
    cases ia.str
    cases ib.str
    refine op_notin_str pins s σ H _ _ v u Q I rx ry ⟨i, j, rfl, rfl, ?_⟩
    have := q _ F H (.refl le) (.bl _)
    rw [Bool.true_xor] at this
    exact this
  · cases e
theorem o_ixS : IxR X (rD ixS) := by
  intro value slice pins s σ H x y v u Q I rx ry h hs
  obtain ⟨F, a, b, d, le, ia, ib, e, q⟩ := h
  unfold ixS at e
  split at e
  · rename_i z i
    split at e
    · rename_i hz
      obtain ⟨c, hc, rfl⟩ := Option.map_eq_some_iff.mp e
      cases ia.str
      cases ib.int
      exact ix_str value slice pins s σ H _ _ v u Q I rx ry ⟨z, i, c, rfl, rfl, of_decide_eq_true hz, hc, q _ F H (.refl le) (.str _)⟩ hs
    · cases e
  · cases e
theorem d_idxS {apos pos : Pos} (ho : BE X A W o fa) (he : BE X A W e fb) (hs : starEach [e] X.env = [(false, eval e X.env)] := by rfl) (hbase : attributeBase o "index" X.env (eval o X.env) = eval o X.env := by rfl) (hline : (apos.endLine == pos.line) = true := by rfl) :
    DE X A W (.Call (.Attribute o "index" apos) [e] [] pos) (idxSR fa fb) :=
  peI (pe_m1 F.slot_str_index F.type_str_index mt_sindex ho he hs hbase hline) fun σ H Q ⟨F, ρ, S, q⟩ => ⟨F, ρ, S, by
    unfold idxSR at q
    cases ha : fa ρ with
    | bad => rw [ha] at q; exact q
    | ex c => rw [ha] at q; exact q
    | ok da =>
      rw [ha] at q
      simp only [Res.bind_ok] at q
      intro x F1 H1 x1 i1
      cases da with
      | str a =>
        cases i1.str
        refine ⟨⟨a, rfl⟩, F1, ρ, S.grow x1, ?_⟩
        dsimp only at q
        cases hb : fb ρ with
        | bad => rw [hb] at q; exact q
        | ex c => rw [hb] at q; exact q.ext x1
        | ok db =>
          rw [hb] at q
          simp only [Res.bind_ok] at q
          intro y F2 H2 x2 i2
          cases db with
          | str b =>
            cases i2.str
            unfold idxS at q
            dsimp only at q
            cases ho : Builtin.Str.occurrences a b 0 a.length 1 with
            | nil => rw [ho] at q; exact q.elim
            | cons i rest =>
              rw [ho] at q
              exact ⟨a, b, i, rest, rfl, rfl, ho, q _ F2 H2 (x1.trans x2) (.int _)⟩
          | _ => exact q.elim
      | _ => exact q.elim⟩
end
end DL

/-! The data layer, part 28: a class of instances: its facts as a Bool of the written part; methods without arguments. -/
namespace DL
open PySem PySem.Spec PyProof.Rows L2
def methB (K : PySem.W.Frag) (C : Addr) (m : String) : Bool :=
  decide (PySem.W.findIn K (.ref C) (Str.ofString m) = some (some (.ref (He.ma K C (Str.ofString m))))) && (PySem.W.isFn K (.ref (He.ma K C (Str.ofString m))) && PySem.W.keepIn K (.ref (He.ma K C (Str.ofString m))))
/-- an instance class: its fields fs (no attributes of the class), its methods ms -/
def yardB (K : PySem.W.Frag) (x : String) (fs ms : List String) : Bool :=
  He.eqO (PySem.W.nsIn K mainGlobals (Str.ofString x)) (some (some (.ref (gaS K x)))) && (PySem.W.plainGet K (gaS K x) Str.empty && (PySem.W.hasDictIn K (gaS K x) && (PySem.W.plainOver K (gaS K x) && (
    decide (PySem.W.findIn K (.ref (gaS K x)) "__setattr__" = some (some (.builtin "object.__setattr__"))) && ((fs.all fun f => decide (PySem.W.findIn K (.ref (gaS K x)) (Str.ofString f) = some none)) && ((ms.all fun m => methB K (gaS K x) m) && (
    PySem.W.makesIn K (gaS K x) && (methB K (gaS K x) "__init__" && PySem.W.keepIn K (.ref (gaS K x))))))))))
structure YardX (K : PySem.W.Frag) (x : String) (fs ms : List String) : Prop where
  g : PySem.W.nsIn K mainGlobals (Str.ofString x) = some (some (.ref (gaS K x)))
  c : Cls K (gaS K x)
  n : ∀ f ∈ fs, NoAttr K (gaS K x) (Str.ofString f)
  m : ∀ m ∈ ms, Meth K (gaS K x) (Str.ofString m) (He.ma K (gaS K x) (Str.ofString m))
  mkY : Mk K (gaS K x) (He.ma K (gaS K x) (Str.ofString "__init__"))
theorem methB_ok {K : PySem.W.Frag} {C : Addr} {m : String} (h : methB K C m = true) : Meth K C (Str.ofString m) (He.ma K C (Str.ofString m)) := by
  unfold methB at h
  obtain ⟨h1, h⟩ := He.ba h
  obtain ⟨h2, h3⟩ := He.ba h
  exact ⟨of_decide_eq_true h1, h2, h3⟩
theorem yardB_ok {K : PySem.W.Frag} {x : String} {fs ms : List String} (h : yardB K x fs ms = true) : YardX K x fs ms := by
  unfold yardB at h
  obtain ⟨h1, h⟩ := He.ba h
  obtain ⟨h2, h⟩ := He.ba h
  obtain ⟨h3, h⟩ := He.ba h
  obtain ⟨h4, h⟩ := He.ba h
  obtain ⟨h5, h⟩ := He.ba h
  obtain ⟨h6, h⟩ := He.ba h
  obtain ⟨h7, h⟩ := He.ba h
  obtain ⟨h8, h⟩ := He.ba h
  obtain ⟨h9, h10⟩ := He.ba h
  have hm := methB_ok h9
  exact ⟨He.eqO_ok h1, ⟨h2, h3, h4, of_decide_eq_true h5⟩, fun f hf => (show PySem.W.findIn K (.ref (gaS K x)) (Str.ofString f) = some none from of_decide_eq_true (List.all_eq_true.mp h6 f hf)), fun m hm => methB_ok (List.all_eq_true.mp h7 m hm), ⟨h8, hm.at_, hm.fn, h10⟩⟩
section
variable [Wd] {X : Cx} {A : Amb} {W : WX} {o : Expr} {m : Str} {pos apos : Pos} {fo : Rho → Res D}
def tMeth0' (C : Addr) (m : Str) (sp : Sp) (E : L2.St → XK) (ta : TE) : TE := fun σ H Q => ta σ H fun x H1 => ∃ a dx fs, x = .ref a ∧ H1 a = some (.ins C dx fs) ∧ fs.lookup m = none ∧ sp [x] H1 Q (E σ)
theorem pe_meth0' {CX : CXT} {k : Nat} {C f : Addr} {fd : FuncData} {ps : List Str} {sp : Sp} {E : L2.St → XK} {ta : TE} {pl : Sem Bool} (he : PE X o ta) (c : Cls X.K C) (hm : Meth X.K C m f) (F : FnOk X.prog X.w X.K X.mg X.base CX k f fd ps sp) (hr : Room k X.A) (hb : Binds X.K fd ps []) (hx : ∀ σ, PassesAt CX X σ (E σ))
    (ht : eval (.Call (.Attribute o m apos) [] [] pos) X.env = (do
      let ov ← eval o X.env
      standAt apos.atName
      let (f, first) ← holding [ov] (getMethod ov m pl)
      callWith pos f first (backTo pos (starEach [] X.env)) (backToKw pos (keywordEach [] X.env))) := by rfl) :
    PE X (.Call (.Attribute o m apos) [] [] pos) (tMeth0' C m sp E ta) := by
  refine ⟨fun pins s σ H Q I h => ?_⟩
  refine PySem.W.methodCall_KW (pl := pl) (thn (he.run pins s σ H _ I h) fun u s1 ⟨x, H1, I1, rx, a, dx, fs, ex, ea, l, q⟩ => ?_) ht
  subst ex
  obtain rfl : u = Value.ref a := rx
  refine getmeth_ok I1 ea c hm l ?_
  exact PySem.W.callWith_K0 (first := [.ref a]) I1.kIn hm.kp (run_fnS (us := [.ref a]) (vs := [.ref a]) F hr hb (hx σ) I1 (.cons rfl .nil) q)
def methR0 (m : Str) (fD : List D → RO) (fo : Rho → Res D) : Rho → Res D := fun ρ => (fo ρ).bind fun d => match instK d with
  | some kvs => if (kvs.find? fun c => keyF m c.1).isNone = true then (fD [d]).res else .bad
  | none => .bad
theorem d_meth0 {k : Nat} {ps fs : List Str} {fD : List D → RO} {pl : Sem Bool} (c : ClsY X.K fs) (G : MethD X.prog X.w X.K X.mg X.base A.Z k m ps fD) (tk : Takes X W) (hr : Room k X.A) (ho : DE X A W o fo)
    (ht : eval (.Call (.Attribute o m apos) [] [] pos) X.env = (do
      let ov ← eval o X.env
      standAt apos.atName
      let (f, first) ← holding [ov] (getMethod ov m pl)
      callWith pos f first (backTo pos (starEach [] X.env)) (backToKw pos (keywordEach [] X.env))) := by rfl) (hn : ps.length = 1 := by rfl) :
    DE X A W (.Call (.Attribute o m apos) [] [] pos) (methR0 m fD fo) := by
  obtain ⟨f, fd, F, hm, hb⟩ := G.ex
  rw [hn] at F
  refine peI (pe_meth0' (pl := pl) ho c.c hm F hr hb (fun σ => passAt tk σ) ht) fun σ H Q ⟨F, ρ, S, q⟩ => ⟨F, ρ, S, ?_⟩
  unfold methR0 at q
  cases hf : fo ρ with
  | bad => rw [hf] at q; exact q
  | ex c => rw [hf] at q; exact q
  | ok d =>
    rw [hf] at q
    simp only [Res.bind_ok] at q
    intro v F1 H1 x1 i1
    cases hi : instK d with
    | none => rw [hi] at q; exact q.elim
    | some kvs =>
      rw [hi] at q
      have hd := instK_some hi
      dsimp only at q
      by_cases hk : (kvs.find? fun c => keyF m c.1).isNone = true
      · rw [if_pos hk] at q
        obtain ⟨a, dx, gs, rfl, ha', io⟩ := (hd ▸ i1 : Is F1 v (.dict ((.none, .none) :: kvs))).inst
        refine ⟨a, dx, gs, rfl, x1.le _ _ ha', io.none (Option.isNone_iff_eq_none.mp hk), F1, [d], rfl, x1.le, .cons i1 .nil, ?_⟩
        cases hres : fD [d] with
        | rt d => rw [hres] at q; exact fun v F3 H3 x i => q v F3 H3 (x1.trans x) i
        | ro xs => rw [hres] at q; exact fun p us F3 H3 x h1 h2 h3 h4 h5 => frozen q (x1.trans x) h1 (Same.free x1.keep h2) h3 h4 h5
        | ex c => rw [hres] at q; exact fun cls dd F3 H3 x z => q cls dd F3 H3 (x1.trans x) z
        | bad => rw [hres] at q; exact q
      · rw [if_neg hk] at q; exact q.elim
end
end DL

/-! The data layer, part 29: a comprehension whose element lets an exception out (as a value, in a def's own frame). -/
namespace DL
open PySem PySem.Spec PyProof.Rows L2 PySem.HandSPX

theorem noteFrame_eq {e : Value} {env env' : Env} (h : env.frame = env'.frame) : noteFrame e env = noteFrame e env' := by
  unfold noteFrame PySem.frameOf
  rw [h]

section
variable {M : Model} {A : Around} {E : Value → Shared → Prop} {s : Shared} {Z : Obj → Prop} {base : Heap} {env : Env} {outer l : List Env} {L e : Addr}
theorem looks_otherZ {fl : Value} {Q : Unit → Shared → Prop} (hZ : Steady Z) (hfr : A.frames = some (env :: outer)) (hf : env.frame = some L) (hne : (fl == rawInt L) = false)
    (hkb : base.StaysIn s.heap) (hen : base.get? e = none) (hl : s.heap.FunFrames base (env :: outer)) (ht : TracedZ s.heap base e Z fl)
    (hQ : ∀ h', HeldZ base (env :: outer) e Z L h' → s.heap.UpToSlots h' → Q () { s with heap := h' }) : wpAny M A (noteFrame (.ref e) env) Q E s := by
  obtain ⟨oe, vs, T, oT, ts, he, hz, hd, h1, hnT, hTe, hT, hdT, h3⟩ := ht
  unfold noteFrame
  simp only [hf]
  refine wpAny_bind (wpAny_field he hd h1 ?_)
  rw [if_pos (show (Value.ref T != Value.none) = true from by simp)]
  refine wpAny_bind (wpAny_field hT hdT h3 ?_)
  rw [if_neg (show ¬ ((fl == rawInt L) = true) from by rw [hne]; simp)]
  refine wpAny_bind (wpAny_setField hT hdT (Array.getElem?_eq_some_iff.mp h3).1 ?_)
  have other : ∀ b, b ≠ T → (s.heap.update T (Obj.mapFields (·.setIfInBounds 3 Value.none))).get? b = s.heap.get? b := fun b hb => Heap.get?_update_other _ _ (Ne.symm hb)
  have noRecord : ∀ b o, s.heap.get? b = some o → (∀ vs, o.data ≠ .fields vs) → b ≠ T := fun b o hb hnf q => by
    rw [q, hT] at hb; injection hb with hb; subst hb; exact hnf ts hdT
  refine wpAny_entryZ hZ hfr (hl.of_keeps fun b o hb hnf => ⟨o, (other b (noRecord b o hb hnf)).trans hb, rfl⟩) hf ((other e (Ne.symm hTe)).trans he)
    (fun b o hbo => (other b fun q => by rw [q, hnT] at hbo; cases hbo).trans (hkb b o hbo)) hen hd (Array.getElem?_eq_some_iff.mp h1).1 hz fun h' hN => ?_
  obtain ⟨x1, x2, x3, x4⟩ := hN
  exact hQ h' ⟨x1, hen, x2, x3⟩ fun b o hb hnf => x4 b o ((other b (noRecord b o hb hnf)).trans hb) hnf
/-- whatever it is in the air: noted at L -/
theorem looks_sky {C : Addr} {Q : Unit → Shared → Prop} (hZ : Steady Z) (hfr : A.frames = some (env :: outer)) (hf : env.frame = some L) (x : Sky base (env :: outer) e Z C s.heap)
    (hQ : ∀ h', HeldZ base (env :: outer) e Z L h' → s.heap.UpToSlots h' → Q () { s with heap := h' }) : wpAny M A (noteFrame (.ref e) env) Q E s := by
  rcases x with ⟨hB, hn, hl, oe, vs, he, hz, hd, h1⟩ | fl | hh
  · exact look_newZ hZ hfr hl hf he hB hn hd h1 hz hQ
  · exact looks_onZ hZ hfr hf fl hQ
  · by_cases hc : C = L
    · subst hc
      exact againZ hf hh.2.2.2 (hQ s.heap hh (Heap.UpToSlots.refl _))
    · refine looks_otherZ hZ hfr hf ?_ hh.1 hh.2.1 hh.2.2.1 hh.2.2.2 hQ
      simp [rawInt]
      first | exact hc | (intro z; exact hc (by exact_mod_cast z))
theorem passOn_ok {α : Type} {what : String} (hf : env.frame = some L) (hh : HeldZ base l e Z L s.heap)
    (hQ : ∀ h', HeldZ base l e Z L h' → s.heap.UpToSlots h' → E (.ref e) { s with heap := h' }) : wpAny M A (PySem.passOn what (.ref e) env : Sem α) (fun _ _ => False) E s := by
  obtain ⟨oe, vs, T, oT, ts, he, hz, hd, h1, _⟩ := hh.2.2.2
  unfold PySem.passOn
  refine wpAny_bind (wpAny_field he hd h1 ?_)
  rw [if_neg (show ¬ ((Value.ref T == Value.none) = true) from by simp)]
  rw [hf]
  exact wpAny_bind (setFlight_onZ hh fun h' x y => wpAny_throw (hQ h' x y))
theorem funFrames_at {base B h h' : Heap} : ∀ {l : List Env}, h.FunFrames base l → (∀ L ∈ frs l, B.get? L = none ∧ h'.get? L = h.get? L) → h'.FunFrames B l
  | [], _, _ => trivial
  | env :: l, h, hn => by
    obtain ⟨hk, ⟨L, o, hf, _, ho, hd⟩, hr⟩ := h
    have z := hn L (List.mem_filterMap.mpr ⟨env, List.mem_cons_self, hf⟩)
    exact ⟨hk, ⟨L, o, hf, z.1, z.2.trans ho, hd⟩, funFrames_at hr fun b hb => by
      obtain ⟨e, he, q⟩ := List.mem_filterMap.mp hb
      exact hn b (List.mem_filterMap.mpr ⟨e, List.mem_cons_of_mem _ he, q⟩)⟩
end

/-! ### the frame of a comprehension, its exceptions told -/
def cpX (M : Model) (A : Around) (E : Value → Shared → Prop) (Q : Value → Shared → Prop) (acc : Value) (C : Env) (r : Result) (s' : Shared) : Prop :=
  match r with
  | .ok _ => ∃ m, s'.heap.Ns C.locals m ∧ ∀ h', Heap.SameBut C.locals s'.heap h' → Q acc { s' with heap := h' }
  | .error x => ∃ m, s'.heap.Ns C.locals m ∧ ∀ h', Heap.SameBut C.locals s'.heap h' → wpAny M A (PySem.passOn "comprehension.variables-let-go" x C : Sem Value) (fun _ _ => False) E { s' with heap := h' }
theorem wpAny_comprehension_ex {M : Model} {A : Around} {E : Value → Shared → Prop} {s : Shared} {env : Env} {e : Expr} {scope : Scope} {pos : Pos} {newAcc first : Sem Value} {g : Comprehension} {gs : List Comprehension} {cl : List (Str × Addr)}
    {Q : Value → Shared → Prop}
    (hcl : clausesOf e = g :: gs) (hs : ∀ x, foldedSetIterable g.iter env x = pure x) (hclos : closureFor scope env = pure cl)
    (hkind : scope.kind = .function) (hnames : ∀ x ∈ scope.names, x.2 = .local → scope.names.lookup x.1 = some .local)
    (h : wpAny M A first (fun x s₁ => wpAny M A (pyIter x) (fun it s₂ => wpAny M A newAcc (fun acc s₃ =>
      wpAny M A (newFunctionEnv scope env.globals cl [] env.qual none .none (some env)) (fun cenv s₄ =>
        codeAny M A (.compStart e 0 it acc { cenv with scope := relabel scope env }) (cpX M A E Q acc { cenv with scope := relabel scope env }) s₄) E s₃) E s₂) E s₁) E s) :
    wpAny M A (comprehension e scope env pos newAcc false first none) Q E s := by
  unfold comprehension
  rw [hclos, hcl]
  refine wpAny_bind (wpAny_mono h (fun x s₁ h₁ => wpAny_bind (wpAny_standAt (wpAny_bind (wpAny_of_eq (hs x) (wpAny_bind (wpAny_holding (wpAny_mono h₁ (fun it s₂ h₂ =>
    wpAny_standIf (wpAny_bind (wpAny_mono h₂ (fun acc s₃ h₃ => wpAny_bind (wpAny_pure (wpAny_bind (wpAny_mono h₃ (fun cenv s₄ h₄ => ?_) fun _ _ h' => h')))) fun _ _ h' => h')))
      fun _ _ h' => h'))))))) fun _ _ h' => h')
  dsimp only
  have hv : ∀ x ∈ (scope.names.filter fun x => (x.2 == .local || x.2 == .cell) && x.1 != (".0" : Str)).reverse, x.2 = .local →
      Env.kindOf { cenv with scope := relabel scope env } x.1 = some .local := fun x hx hl => lookup_relabel_local (hnames x (List.mem_filter.mp (List.mem_reverse.mp hx)).1 hl)
  have hv' : ∀ x ∈ (scope.names.filter fun x => (x.2 == .local || x.2 == .cell) && x.1 != (".0" : Str)).reverse.drop 1 ++ (scope.names.filter fun x => (x.2 == .local || x.2 == .cell) && x.1 != (".0" : Str)).reverse.take 1,
      x.2 = .local → Env.kindOf { cenv with scope := relabel scope env } x.1 = some .local := fun x hx hl => by
    rcases List.mem_append.mp hx with h1 | h1
    · exact hv x (List.mem_of_mem_drop h1) hl
    · exact hv x (List.mem_of_mem_take h1) hl
  refine wpAny_holding (wpAny_bind (wpAny_attempt (wpAny_holding (wpAny_run (codeAny_mono h₄ fun r s' hr => ?_)))))
  cases r with
  | ok f =>
    obtain ⟨m, hn, hr⟩ := hr
    exact wpAny_bind (wpAny_holding (wpAny_comp_letGo (cenv := { cenv with scope := relabel scope env }) hkind _ s' m hv hn fun h' m' _ hs' => wpAny_pure (hr h' hs')))
  | error x =>
    obtain ⟨m, hn, hr⟩ := hr
    exact wpAny_bind (wpAny_holding (wpAny_comp_letGo (cenv := { cenv with scope := relabel scope env }) hkind _ s' m hv hn fun h' m' _ hs' => wpAny_mono (hr h' hs') (fun _ _ f => f.elim) fun _ _ y => y))
abbrev Cx.blkx (X : Cx) (s : Shared) (H : Hp) (scope : Scope) (cenv : Env) (fp : List Addr) (xe : Value → Shared → Prop) : Cx := { X.blk s H scope cenv fp with xe := xe }
theorem inv_xe {X : Cx} {pins : List (Addr × Obj)} {σ : L2.St} {H : Hp} {s : Shared} (I : Inv X pins σ H s) (xe : Value → Shared → Prop) : Inv { X with xe := xe } pins σ H s :=
  ⟨⟨I.ok.mod, I.ok.kind, I.ok.glob, I.ok.blt, I.ok.above, I.ok.inj, I.ok.has, I.ok.cab, I.ok.hd, I.ok.frames, I.ok.stk, I.ok.exf, I.ok.bs, I.ok.bsz, I.ok.noex, I.ok.exfs, I.ok.funs, I.ok.frf⟩, I.os, I.bare, I.base, I.loc, I.cell, I.free, I.freeC, I.pin, I.hok, I.len⟩
theorem inv_xe' {X : Cx} {pins : List (Addr × Obj)} {σ : L2.St} {H : Hp} {s : Shared} {xe : Value → Shared → Prop} (I : Inv { X with xe := xe } pins σ H s) : Inv X pins σ H s := inv_xe I X.xe
/-- out of the block, noted and passed on -/
theorem out_of_block {X : Cx} {pins : List (Addr × Obj)} {σ : L2.St} {H3 : Hp} {s3 s' : Shared} {scope : Scope} {ce : Env} {fp : List Addr} {W Wb : WX} {u : Value} {R : Result → Shared → Prop} {E : Value → Shared → Prop}
    (hs : X.stack = X.env :: X.outer) (hf : X.env.frame = some X.env.locals) (I3 : Inv X pins σ H3 s3) (hC : ce.locals = s3.heap.objs.size) (hcf : ce.frame = X.env.frame) (hfp : ∀ b ∈ fp, FpOk X pins H3 b ∧ b < s3.heap.objs.size)
    (x : XE (X.blk s3 H3 scope ce fp) Wb u s') (hW : ∀ cls d σ' H', Wb cls d σ' H' → W cls d σ H') (tk : Takes X W)
    (hR : ∀ s'', (∃ m, s''.heap.Ns ce.locals m ∧ ∀ h', Heap.SameBut ce.locals s''.heap h' → wpAny (model X.prog X.w) X.A (PySem.passOn "comprehension.variables-let-go" u ce : Sem Value) (fun _ _ => False) X.xe { s'' with heap := h' }) → R (.error u) s'') :
    wpAny (model X.prog X.w) X.A (noteFrame u ce) (fun _ s'' => R (.error u) s'') E s' := by
  obtain ⟨a, B, sI, pins', σ', H, cls, d, rfl, I, nb, up, sky, na, os, ag, w⟩ := x
  have hfr : X.A.frames = some (X.env :: X.outer) := by rw [← hs]; exact I3.ok.frames
  rw [noteFrame_eq hcf]
  have sky : Sky B (X.env :: X.outer) a (Zc cls d) ce.locals s'.heap := by rw [← hs]; exact sky
  refine looks_sky Zc.steady hfr hf sky fun h1 hh up1 => hR _ ?_
  obtain ⟨m, o, es, ep, ho, r⟩ : ∃ m, sI.heap.Ns ce.locals m := let ⟨m, hm, _⟩ := I.loc; ⟨m, hm⟩
  have nst : ce.locals ∉ frs X.stack := fun hm => by
    rcases List.mem_cons.mp (I3.stkSub _ hm) with z | z
    · have := I3.lt
      rw [← z, hC] at this
      exact absurd this (Nat.lt_irrefl _)
    · exact I3.nofs (Nat.le_of_eq hC.symm) z
  have bC : B.get? ce.locals = some o := nb _ _ ho nst
  refine ⟨m, ⟨o, es, ep, hh.1 _ _ bC, r⟩, fun h' sb => ?_⟩
  have fr' : ∀ L ∈ frs (X.env :: X.outer), L ≠ ce.locals := fun L hL e => nst (by rw [hs, ← e]; exact hL)
  have hid : ∀ {b o'}, (PySem.W.hideAll B [ce.locals]).get? b = some o' → b ≠ ce.locals ∧ B.get? b = some o' := fun {b o'} e => by
    refine ⟨fun z => ?_, PySem.W.of_hideAll _ e⟩
    rw [PySem.W.hideAll_none [ce.locals] (by rw [z]; exact List.mem_cons_self)] at e
    cases e
  have hidn : ∀ {b}, B.get? b = none → (PySem.W.hideAll B [ce.locals]).get? b = none := fun {b} e => by
    cases q : (PySem.W.hideAll B [ce.locals]).get? b with
    | none => rfl
    | some o' => rw [(hid q).2] at e; cases e
  have hh' : HeldZ (PySem.W.hideAll B [ce.locals]) (X.env :: X.outer) a (Zc cls d) X.env.locals h' := by
    obtain ⟨k1, k2, k3, oe, vs, T, oT, ts, he, hz, hd, h1', hnT, hTe, hT, hdT, h3⟩ := hh
    have aC : a ≠ ce.locals := fun e => by rw [e, bC] at k2; cases k2
    have tC : T ≠ ce.locals := fun e => by rw [e, bC] at hnT; cases hnT
    refine ⟨fun b o' e => (sb.2 b (hid e).1).trans (k1 b o' (hid e).2), hidn k2, funFrames_at k3 fun L hL => ⟨hidn (k3.mem hL).1, sb.2 L (fr' L hL)⟩, oe, vs, T, oT, ts, (sb.2 a aC).trans he, hz, hd, h1', hidn hnT, hTe, (sb.2 T tC).trans hT, hdT, h3⟩
  refine passOn_ok (hcf.trans hf) hh' fun h'' hh'' up'' => tk _ _ ?_
  have nC : H ce.locals = none := I.free
  have f : FpOk X pins H ce.locals := I3.fpOk (Nat.le_of_eq hC.symm) nC
  have I7 : Inv X pins σ H sI := I3.call' (ch := fp) I.os I.base I.hok I.bare fun b hb => ⟨(hfp b hb).1.2.2.2.1, (hfp b hb).1.2.1, (hfp b hb).1.2.2.2.2.1, (hfp b hb).1.2.2.2.2.2⟩
  obtain ⟨f0, f1, f2, f3, f4, f5⟩ := f
  have I8 := I7.turned (t' := sI.toks) (h' := PySem.W.hideAll sI.heap [ce.locals]) (it := ce.locals) (fun b o' hb e => PySem.W.hideAll_get _ e (by simpa using hb)) f0 f1 f3 f4 f5
  have hidI : ∀ {b o'}, (PySem.W.hideAll sI.heap [ce.locals]).get? b = some o' → b ≠ ce.locals ∧ sI.heap.get? b = some o' := fun {b o'} e => by
    refine ⟨fun z => ?_, PySem.W.of_hideAll _ e⟩
    rw [PySem.W.hideAll_none [ce.locals] (by rw [z]; exact List.mem_cons_self)] at e
    cases e
  refine ⟨a, PySem.W.hideAll B [ce.locals], _, pins, σ, H, cls, d, rfl, I8, fun b o' e hb => PySem.W.hideAll_get _ (nb b o' (hidI e).2 hb) (by simpa using (hidI e).1), fun b o' e hn => ?_, .inr (.inr (by rw [hs]; exact hh'')), na, os, ag, hW _ _ _ _ w⟩
  obtain ⟨e1, e2⟩ := hidI e
  obtain ⟨s1, q1⟩ := up b o' e2 hn
  obtain ⟨s2, q2⟩ := up1 b _ q1 hn
  exact up'' b { o' with slots := s2 } (by
    show h'.get? b = _
    rw [sb.2 b e1]
    exact q2) hn

theorem pe_lcX {X : Cx} {W : WX} {elt tg iter : Expr} {ifs : List Expr} {scope : Scope} {own : List (Str × Nat)} {pos : Pos} {wi : TI} {g : TG} {tt : TT} {te : WX → TE} (hs0 : X.stack = X.env :: X.outer) (hf0 : X.env.frame = some X.env.locals) (tk : Takes X W)
    (hc : X.calm = true) (hN : X.N.Nodup) (hi : PI X tg iter wi) (ok : BlkOk X.N X.env.scope scope own)
    (hg : ∀ (s : Shared) (H : Hp) (C : Addr) (cl : List (Str × Addr)) (fp : List Addr) (xe : Value → Shared → Prop), PG (Cx.blkx X s H scope (compEnvC scope cl C X.env) fp xe) tg g)
    (ht : ∀ (s : Shared) (H : Hp) (C : Addr) (cl : List (Str × Addr)) (fp : List Addr) (xe : Value → Shared → Prop), PTs (Cx.blkx X s H scope (compEnvC scope cl C X.env) fp xe) ifs tt)
    (he : ∀ (s : Shared) (H : Hp) (C : Addr) (cl : List (Str × Addr)) (fp : List Addr) (xe : Value → Shared → Prop) (W' : WX), Takes (Cx.blkx X s H scope (compEnvC scope cl C X.env) fp xe) W' → PE (Cx.blkx X s H scope (compEnvC scope cl C X.env) fp xe) elt (te W'))
    (hs : ∀ x, foldedSetIterable iter X.env x = pure x := by intro _; rfl) :
    PE X (.ListComp elt [⟨tg, iter, ifs, 0⟩] scope pos) (fun σ H Q => tLc wi g tt (te fun cls d _ H' => W cls d σ H') (own.map (·.2)) σ H Q) := by
  refine ⟨fun pins s σ H Q I h => ?_⟩
  rw [eval_ListComp]
  have hfree : ∀ y ∈ scope.names, y.2 = .free → ∃ c, X.env.cells.lookup y.1 = some c := fun y hy e => by
    rcases ok.free y hy e with k | k
    · exact I.ok.has _ (.inl k)
    · exact I.ok.has _ (.inr k)
  refine wpAny_comprehension_ex rfl hs (closure_ok hfree) ok.kind (fun y hy e => by rw [ok.uniq y hy, e])
    (thn (hi.run pins s σ H _ I h) fun xv s1 hx => thn hx fun itv s2 h2 => ?_)
  obtain ⟨it, fp, tn, J, H2, e, I2, T, st2, f2, q⟩ := h2
  subst e
  refine wpAny_newObj_type (newEnv_comp ?_) (by show 0 ≤ sizeLine; decide)
  generalize hD : s2.heap.objs.size = D
  have hDn : H2 D = none := I2.hok.fresh (Nat.le_of_eq hD)
  obtain ⟨Wt, ⟨m0, w0⟩, turn⟩ := q D hDn
  -- the new list
  generalize hs3 : ({ s2 with heap := s2.heap.push { cls := .type "list", data := .seq ([] : List Value).toArray } } : Shared) = s3
  have I3 : Inv X pins σ (upd H2 D (.lst [])) s3 := by
    rw [← hs3]
    refine I2.laid (t' := s2.toks) (fun b o e => Heap.get?_push_of_some _ e) (Nat.le_of_eq hD) ⟨Nat.zero_le _, [], 0, .nil, ?_⟩
    rw [← hD]
    exact Heap.get?_push_size _ rfl
  have h3 : s3.heap = s2.heap.push { cls := .type "list", data := .seq ([] : List Value).toArray } := by rw [← hs3]
  have sz : ∀ b ∈ fp, b < s2.heap.objs.size := fun b hb => by
    obtain ⟨o, e, _⟩ := T.obj _ _ st2 b hb
    exact Heap.lt_size e
  have f3 : ∀ b ∈ fp, FpOk X pins (upd H2 D (.lst [])) b ∧ b < s3.heap.objs.size := fun b hb => by
    have hlt := sz b hb
    refine ⟨⟨?_, (f2 b hb).2⟩, by rw [h3, Heap.size_push]; exact Nat.lt_succ_of_lt hlt⟩
    rw [upd_ne (by rw [← hD]; exact Nat.ne_of_lt hlt)]
    exact (f2 b hb).1
  have st3 : tn 0 s3.heap := T.keep _ _ _ st2 fun b _ o e => by rw [h3]; exact Heap.get?_push_of_some _ e
  have I4 := block_start I3 ok hN f3
  generalize hC : s3.heap.objs.size = C
  generalize hce : compEnvC scope (cellsFrom (C + 1) scope.names (cloFrom X.env.cells scope.names [])) C X.env = ce
  have cL : ce.locals = s3.heap.objs.size := by subst hce; exact hC.symm
  have cF : ce.frame = X.env.frame := by subst hce; rfl
  have key : ∀ H3, upd H2 D (.lst []) = H3 → ∃ xe : Value → Shared → Prop, (∀ u s', xe u s' → XE (X.blk s3 H3 scope ce fp) (fun cls d _ H' => W cls d σ H') u s') ∧ Takes (Cx.blkx X s3 H3 scope ce fp xe) (fun cls d _ H' => W cls d σ H') := fun H3 _ =>
    ⟨fun u s' => XE (X.blk s3 H3 scope ce fp) (fun cls d _ H' => W cls d σ H') u s', fun _ _ h => h, fun u s' ⟨a, B, sI, pins, σ1, H, cls, d, e, I, r⟩ => ⟨a, B, sI, pins, σ1, H, cls, d, e, inv_xe' I, r⟩⟩
  obtain ⟨xe, hxe, tk'⟩ := key _ rfl
  have pg : PG (Cx.blkx X s3 (upd H2 D (.lst [])) scope ce fp xe) tg g := by subst hce; exact hg s3 (upd H2 D (.lst [])) _ _ fp xe
  have pt : PTs (Cx.blkx X s3 (upd H2 D (.lst [])) scope ce fp xe) ifs tt := by subst hce; exact ht s3 (upd H2 D (.lst [])) _ _ fp xe
  have pe : PE (Cx.blkx X s3 (upd H2 D (.lst [])) scope ce fp xe) elt (te fun cls d _ H' => W cls d σ H') := by subst hce; exact he s3 (upd H2 D (.lst [])) _ _ fp xe _ tk'
  rw [hC, hce] at I4
  show codeAny (model X.prog X.w) X.A (.compStart (.ListComp elt [⟨tg, iter, ifs, 0⟩] scope pos) 0 (.ref it) (.ref D) (compEnvC scope (cellsFrom (C + 1) scope.names (cloFrom X.env.cells scope.names [])) C X.env)) (cpX (model X.prog X.w) X.A X.xe (EP X pins σ Q) (.ref D) (compEnvC scope (cellsFrom (C + 1) scope.names (cloFrom X.env.cells scope.names [])) C X.env)) { s3 with heap := pushCells (s3.heap.push { cls := .type "dict", data := .dict #[] }) scope.names }
  rw [hce]
  have nfp : ∀ b ∈ fp, (upd H2 D (.lst [])) b = none := fun b hb => (f3 b hb).1.1
  generalize hH3 : upd H2 D (.lst []) = H3 at I3 I4 pg pt pe w0 nfp f3 hxe tk'
  generalize hs4 : ({ s3 with heap := pushCells (s3.heap.push { cls := .type "dict", data := .dict #[] }) scope.names } : Shared) = s4 at I4 ⊢
  have st4 : tn 0 s4.heap := T.keep _ _ _ st3 fun b _ o e => by rw [← hs4]; exact pushCells_keeps _ _ _ _ (Heap.get?_push_of_some _ e)
  have stat : ∀ {σ' : L2.St} {H' : Hp} {s' : Shared}, Inv (Cx.blkx X s3 H3 scope ce fp xe) [] σ' H' s' → (∀ b ∈ fp, H' b = none) → ∀ b ∈ fp, FpOk (Cx.blkx X s3 H3 scope ce fp xe) [] H' b := fun {σ' H' s'} I' hn b hb =>
    ⟨hn b hb, (I'.ok.exf b hb).1, I'.ok.exfs b hb, .inl hb, fun x c e => (I'.ok.exf b hb).2 x c e, fun p hp => absurd (show p ∈ ([] : List (Addr × Obj)) ++ [] from hp) (by simp)⟩
  -- what flies out
  have out : ∀ u s', xe u s' → notedBy (model X.prog X.w) X.A ce (fun e s'' => cpX (model X.prog X.w) X.A X.xe (EP X pins σ Q) (.ref D) ce (.error e) s'') u s' := fun u s' hx =>
    out_of_block (W := W) (R := cpX (model X.prog X.w) X.A X.xe (EP X pins σ Q) (.ref D) ce) hs0 hf0 I3 cL cF f3 (hxe u s' hx) (fun _ _ _ _ h => h) tk fun s'' h => h
  have loop : codeAny (model X.prog X.w) X.A (.compLoop (.ListComp elt [⟨tg, iter, ifs, 0⟩] scope pos) 0 (.ref it) (.ref D) ce) (cpX (model X.prog X.w) X.A X.xe (EP X pins σ Q) (.ref D) ce) s4 := by
    refine compLoop_any (fun n s' => ∃ i H', Inv (Cx.blkx X s3 H3 scope ce fp xe) [] (wipe σ (own.map (·.2))) H' s' ∧ tn i s'.heap ∧ (∀ b ∈ fp, H' b = none) ∧ Wt i n H') ?_ m0 ⟨0, H3, inv_xe I4 xe, st4, nfp, w0⟩
    rintro n s5 ⟨i, H5, I5, st5, n5, w5⟩
    rcases turn i n H5 w5 with ⟨stop, qq⟩ | ⟨go, Nx, hNx, step⟩
    · have td := T.done (Cx.blkx X s3 H3 scope ce fp xe) rfl rfl rfl hc i [] s5 _ H5 (fun _ _ => False) I5 (stat I5 n5) st5 stop
      refine thnF td fun r s6 ⟨hr, I6⟩ => ?_
      subst hr
      have I7 : Inv X pins σ H5 s6 := I3.call' (ch := fp) I6.os I6.base I6.hok I6.bare fun b hb => ⟨(f3 b hb).1.2.2.2.1, (f3 b hb).1.2.1, (f3 b hb).1.2.2.2.2.1, (f3 b hb).1.2.2.2.2.2⟩
      have nC : H5 ce.locals = none := I6.free
      obtain ⟨m, hn, _⟩ := I6.loc
      obtain ⟨g0, g1, g2, g3, g4, g5⟩ := I3.fpOk (Nat.le_of_eq cL.symm) nC
      exact ⟨m, hn, fun h'' sb => ⟨.ref D, H5, I7.turned (t' := s6.toks) (fun b o hb e => (sb.2 b hb).trans e) g0 g1 g3 g4 g5, rfl, qq⟩⟩
    · have ti := T.item (Cx.blkx X s3 H3 scope ce fp xe) rfl rfl rfl hc i [] s5 _ H5 (fun _ _ => False) I5 (stat I5 n5) st5 go
      refine thnF ti fun r s6 ⟨u, hr, h6⟩ => ?_
      subst hr
      refine thnF h6 fun _ s7 ⟨x, H7, I7, r7, y7, st7, n7⟩ => ?_
      have I7' := I7.pinned (stat I7 n7) (T.obj _ _ st7)
      refine wpAny_mono (pg.run _ s7 _ H7 x u _ I7' r7 (step x H7 y7)) (fun _ s8 ⟨σ8, H8, I8, hw8, q8⟩ => ?_) out
      refine wpAny_mono (pt.run _ s8 σ8 H8 _ I8 q8) (fun b s9 ⟨H9, I9, q9⟩ => ?_) out
      -- the turn's end
      have fin : ∀ {s' : Shared} {H' : Hp}, Inv (Cx.blkx X s3 H3 scope ce fp xe) ([] ++ pinsAt fp s7.heap) σ8 H' s' → Nx H' → ∃ m, m < n ∧ ∃ i H', Inv (Cx.blkx X s3 H3 scope ce fp xe) [] (wipe σ (own.map (·.2))) H' s' ∧ tn i s'.heap ∧ (∀ b ∈ fp, H' b = none) ∧ Wt i m H' := fun {s' H'} I' nx => by
        obtain ⟨m', hm, w'⟩ := hNx H' nx
        have pin' : ∀ b ∈ fp, ∀ o, s7.heap.get? b = some o → s'.heap.get? b = some o ∧ H' b = none := fun b hb o e =>
          let z := I'.pin (b, o) (List.mem_append_right _ (List.mem_append_right _ (mem_pinsAt hb e)))
          ⟨z.1, z.2.1⟩
        have hl : (wipe σ (own.map (·.2))).length = σ8.length := by rw [← hw8, wipe_length]
        refine ⟨m', hm, i + 1, H', (I'.unpinned (pins := [])).weak hl (fun j v e => ?_), T.keep _ _ _ st7 fun b hb o e => (pin' b hb o e).1, fun b hb => ?_, w'⟩
        · rw [← hw8] at e
          exact (wipe_some e).1
        · obtain ⟨o, e, _⟩ := T.obj _ _ st7 b hb
          exact (pin' b hb o e).2
      cases b with
      | false =>
        simp only [Bool.false_eq_true, if_false] at q9 ⊢
        exact fin I9 q9
      | true =>
        simp only [if_true] at q9 ⊢
        refine wpAny_mono (pe.run _ s9 σ8 H9 _ I9 q9) (fun z s10 ⟨yv, H10, I10, r10, acc, hD10, hz10, nx⟩ => ?_) out
        exact app_ok (X := Cx.blkx X s3 H3 scope ce fp xe) I10 hD10 hz10 r10 fun s11 I11 => fin I11 nx
  exact codeAny_compStart_list loop (T.self X.A 0 _ _ _ st4 loop)

def lcLX (t : Tg) (c : Rho → Res Bool) (e : Rho → Res D) (ρ : Rho) : List D → Res (List D)
  | [] => .ok []
  | x :: xs => (t.run x ρ).noex.bind fun ρ1 => (c ρ1).noex.bind fun b => if b = true then (e ρ1).bind fun y => (lcLX t c e ρ xs).map (y :: ·) else lcLX t c e ρ xs
/-- a comprehension whose element may raise -/
def lcX (fi : Rho → Res (List D)) (t : Tg) (c : Rho → Res Bool) (e : Rho → Res D) (vs : List Nat) : Rho → Res (List D) := fun ρ => (fi ρ).bind fun xs => lcLX t c e (wipeR ρ vs) xs
theorem noex_ok' {α β : Type} {r : Res α} {f : α → Res β} (h : r.noex.bind f ≠ .bad) : ∃ a, r = .ok a ∧ r.noex.bind f = f a := by
  cases r with
  | ok a => exact ⟨a, rfl, rfl⟩
  | ex c => exact absurd rfl h
  | bad => exact absurd rfl h
theorem Res.map_map {α β γ : Type} (r : Res α) (f : α → β) (g : β → γ) : (r.map f).map g = r.map fun a => g (f a) := by cases r <;> rfl
section
variable [Wd] {X : Cx} {A : Amb} {W : WX}
theorem lcX_ok {fi : Rho → Res (List D)} {t : Tg} {g : TG} {c : Rho → Res Bool} {e : Rho → Res D} {vs : List Nat} (hs : TgSim t g) (hv : ∀ i ∈ t.at_, i ∈ vs) {σ : L2.St} {H : Hp} {Q : VK} (h : tO A W (lcX fi t c e vs) σ H Q) :
    tLc (tIH A W fi) g (tT A W0 c) (tD A (fun cls d _ H' => W cls d σ H') e) vs σ H Q := by
  obtain ⟨F, ρ, S, q⟩ := h
  refine ⟨F, ρ, S, ?_⟩
  unfold lcX at q
  cases hf : fi ρ with
  | bad => rw [hf] at q; exact q
  | ex c => rw [hf] at q; exact q
  | ok xs =>
    rw [hf] at q
    simp only [Res.bind_ok] at q
    intro J F1 H1 x1 J1 hz D hD
    generalize hr : lcLX t c e (wipeR ρ vs) xs = r at q
    have nb : r ≠ .bad := fun z => by rw [z] at q; exact q
    refine ⟨fun i m H => ∃ F' acc done, m = xs.length - i ∧ i ≤ xs.length ∧ Ext F1 H1 F' H ∧ F' D = none ∧ H D = some (.lst acc) ∧ acc.length ≤ i ∧ IsA F' acc done ∧ (lcLX t c e (wipeR ρ vs) (xs.drop i)).map (done ++ ·) = r,
      ⟨xs.length, F1, [], [], by simp, Nat.zero_le _, .fresh x1.le hD, none_of_le x1.le hD, upd_same, Nat.le_refl _, .nil, by
        simp only [List.drop_zero, hr]
        cases r <;> rfl⟩, ?_⟩
    rintro i m H2 ⟨F2, acc, done, rfl, hi, x2, fD, hA, ha, iA, hd⟩
    obtain ⟨go, stop⟩ := J1 i F2 H2 x2.up x2.le x2.keep
    by_cases hlt : i < xs.length
    · obtain ⟨g1, g2⟩ := go xs[i] (List.getElem?_eq_getElem hlt)
      rw [List.drop_eq_getElem_cons hlt] at hd
      have nb1 : lcLX t c e (wipeR ρ vs) (xs[i] :: xs.drop (i + 1)) ≠ .bad := fun z => by rw [z] at hd; exact nb hd.symm
      unfold lcLX at hd nb1
      obtain ⟨ρ1, hρ, e1⟩ := noex_ok' nb1
      rw [e1] at hd nb1
      obtain ⟨b, hb, e2⟩ := noex_ok' nb1
      rw [e2] at hd nb1
      refine .inr ⟨g1, fun H => ∃ F' acc done, Ext F1 H1 F' H ∧ F' D = none ∧ H D = some (.lst acc) ∧ acc.length ≤ i + 1 ∧ IsA F' acc done ∧ (lcLX t c e (wipeR ρ vs) (xs.drop (i + 1))).map (done ++ ·) = r,
        fun H' ⟨F', acc, done, a1, a2, a3, a4, a5, a6⟩ => ⟨xs.length - (i + 1), by omega, F', acc, done, rfl, hlt, a1, a2, a3, a4, a5, a6⟩, fun v H3 hy => ?_⟩
      obtain ⟨F3, x3, i3⟩ := g2 v H3 hy
      have S3 : Sim A F3 H3 (wipe σ vs) (wipeR ρ vs) := (((S.grow x1).wipe vs).grow (x2.trans x3))
      refine hs A F3 H3 _ _ ρ1 v _ _ S3 i3 hρ fun σ2 S4 hl2 ho => ⟨wipe_eq hl2 fun j hj => ho j fun z => hj (hv j z), F3, ρ1, S4, ?_⟩
      rw [hb]
      intro F4 H4 x4
      cases b with
      | false =>
        rw [if_neg Bool.false_ne_true] at hd ⊢
        exact ⟨F4, acc, done, x2.trans (x3.trans x4), (x3.trans x4).new _ _ fD hA, (x3.trans x4).keep _ _ hA, by omega, iA.mono (x3.trans x4).up, hd⟩
      | true =>
        rw [if_pos rfl] at hd nb1 ⊢
        refine ⟨F4, ρ1, S4.grow x4, ?_⟩
        cases hy : e ρ1 with
        | bad => rw [hy] at nb1; exact nb1 rfl
        | ex c' =>
          rw [hy] at hd
          have hd : Res.ex c' = r := hd
          subst hd
          have q : Pex A W F H σ c' := q
          exact fun cls dd F' H' y z => q cls dd F' H' (x1.trans (x2.trans (x3.trans (x4.trans y)))) z
        | ok y =>
          rw [hy] at hd
          simp only [Res.bind_ok, Res.map_map] at hd
          intro w F5 H5 x5 i5
          have x6 := x3.trans (x4.trans x5)
          have hA5 := x6.keep _ _ hA
          have fD5 := x6.new _ _ fD hA
          refine ⟨acc, hA5, by omega, F5, acc ++ [w], done ++ [y], ?_, fD5, upd_same, by rw [List.length_append]; simp; omega, (iA.mono x6.up).append (.cons i5 .nil), ?_⟩
          · have x7 := x2.trans x6
            refine ⟨x7.up, fun b o eb => ?_, fun b o eb => ?_, x7.new⟩
            · rw [upd_ne (ne_of_none eb hD)]; exact x7.keep _ _ eb
            · rw [upd_ne (ne_of_none eb fD5)]; exact x7.le _ _ eb
          · rw [← hd]
            congr 1
            funext zs
            simp
    · have ei : i = xs.length := by omega
      subst ei
      refine .inl ⟨stop (Nat.le_refl _), ?_⟩
      rw [List.drop_length] at hd
      have hd : Res.ok (done ++ []) = r := hd
      rw [List.append_nil] at hd
      subst hd
      exact q D acc F2 H2 (x1.trans x2) fD (Same.free x1.keep hD) hA (by omega) iA
theorem o_lcX {elt tg iter : Expr} {ifs : List Expr} {scope : Scope} {own : List (Str × Nat)} {pos : Pos} {fi : Rho → Res (List D)} {t : Tg} {g : TG} {c : Rho → Res Bool} {e : Rho → Res D} (tk : Takes X W) (hs0 : X.stack = X.env :: X.outer) (hf0 : X.env.frame = some X.env.locals) (hc : X.calm = true) (hN : X.N.Nodup) (hi : IH X A W tg iter fi) (ok : BlkOk X.N X.env.scope scope own)
    (hg : ∀ (s : Shared) (H : Hp) (C : Addr) (cl : List (Str × Addr)) (fp : List Addr) (xe : Value → Shared → Prop), PG (Cx.blkx X s H scope (compEnvC scope cl C X.env) fp xe) tg g) (hs : TgSim t g)
    (ht : ∀ (s : Shared) (H : Hp) (C : Addr) (cl : List (Str × Addr)) (fp : List Addr) (xe : Value → Shared → Prop), DTs (Cx.blkx X s H scope (compEnvC scope cl C X.env) fp xe) A W0 ifs c)
    (he : ∀ (s : Shared) (H : Hp) (C : Addr) (cl : List (Str × Addr)) (fp : List Addr) (xe : Value → Shared → Prop) (W' : WX), Takes (Cx.blkx X s H scope (compEnvC scope cl C X.env) fp xe) W' → DE (Cx.blkx X s H scope (compEnvC scope cl C X.env) fp xe) A W' elt e)
    (hv : ∀ i ∈ t.at_, i ∈ own.map (·.2) := by decide) (hf : ∀ x, foldedSetIterable iter X.env x = pure x := by intro _; rfl) :
    OE X A W (.ListComp elt [⟨tg, iter, ifs, 0⟩] scope pos) (lcX fi t c e (own.map (·.2))) := peI (pe_lcX (te := fun W' => tD A W' e) hs0 hf0 tk hc hN hi ok hg ht he hf) fun σ H Q h => lcX_ok hs hv h
end
end DL

/-! The data layer, whole. -/

/-! The data layer, part 14: the head. The written part that the facts are read of holds no list. -/
namespace DL
open PySem PySem.Spec PyProof.Rows L2
def noList (o : Obj) : Bool := match o.cls with
  | .type n => n != "list"
  | _ => true
def gL (g : Addr → Option Obj) (a : Addr) : Option Obj := match g a with
  | some o => if noList o = true then some o else none
  | none => none
theorem gL_at {g : Addr → Option Obj} {a : Addr} {o : Obj} (h : gL g a = some o) : g a = some o ∧ noList o = true := by
  unfold gL at h
  cases hg : g a with
  | none => rw [hg] at h; cases h
  | some o' =>
    rw [hg] at h
    by_cases hn : noList o' = true
    · rw [show (match some o' with | some o => if noList o = true then some o else none | none => none) = if noList o' = true then some o' else none from rfl, if_pos hn] at h
      cases h
      exact ⟨rfl, hn⟩
    · rw [show (match some o' with | some o => if noList o = true then some o else none | none => none) = if noList o' = true then some o' else none from rfl, if_neg hn] at h
      cases h
def NoL (K : PySem.W.Frag) : Prop := ∀ a o, K.lookup a = some o → noList o = true
/-- the facts, and whatever else is asked of the written part -/
def obsL (n : Nat) (fa : List He.Fa) (fn : List He.DefD) (ex : PySem.W.Frag → Bool) (g : Addr → Option Obj) : He.AlD × Bool :=
  (fun K => (He.obsD fa fn K, ex K)) (He.frG (gL g) (He.asD (gL g) n ++ [cStatics]))
def hookL (n : Nat) (fa : List He.Fa) (fn : List He.DefD) (ex : PySem.W.Frag → Bool) : PySem.W.Hook where
  α := He.AlD × Bool
  obs := fun s => obsL n fa fn ex s.heap.get?
  val := fun _ => (He.valD fn, true)
  says := fun _ h => ∃ K : PySem.W.Frag, K.In h ∧ He.SaysD fa fn K ∧ ex K = true ∧ NoL K
  of := fun _ _ e => ⟨_, fun _ _ q => (gL_at (He.frG_at _ q)).1, (Prod.mk.inj e).1, (Prod.mk.inj e).2, fun _ _ q => (gL_at (He.frG_at _ q)).2⟩
  keeps := fun _ _ _ ⟨K, hK, c⟩ k => ⟨K, PySem.W.Frag.In.keeps hK k, c⟩
theorem obsL_eq {n : Nat} {fa : List He.Fa} {fn : List He.DefD} {ex : PySem.W.Frag → Bool} {g : Addr → Option Obj} {s : Shared} (h : ∀ a, g a = s.heap.get? a) : obsL n fa fn ex g = (hookL n fa fn ex).obs s := by
  have e : g = s.heap.get? := funext h
  rw [e] <;> rfl
section
variable [Wd] {P : Program} {w : World} {K : PySem.W.Frag} {mg : Str → Option Value} {Z : String → Addr → Prop}
theorem isInts {F : Hp} : ∀ ns : List Int, IsA F (ns.map V.int) (ns.map PyData.int)
  | [] => .nil
  | n :: ns => .cons (.int n) (isInts ns)
theorem hsp_D {H : Hp} {a : Addr} {ns : List Int} {fD : List D → RO} {m : Nat} (nl : NoL K) (hS : SqL K H a (ns.map V.int)) (hn : ns.length ≤ m) (hm : m ≤ sizeLine) (e : fD [.list (ns.map PyData.int)] = .rt (.bool true)) :
    spD Z 1 fD [.ref a] H (fun v _ => v = .bl true) fun _ _ _ => False := by
  rcases hS with hS | ⟨o, its, k, lk, hc, _⟩
  · refine ⟨H, [.list (ns.map PyData.int)], rfl, Same.refl _, .cons (.lst hS (by rw [List.length_map]; omega) (isInts ns)) .nil, ?_⟩
    rw [e]
    intro v F' H' _ i
    cases i
    rfl
  · have := nl _ _ lk
    unfold noList at this
    rw [hc] at this
    cases this
theorem law_end {x y : Str} {st : Stmt} {h : Heap} {f : Addr} {k : Nat} {fD : List D → RO} (X : K.In h) (G : h.Ns mainGlobals mg) (hm : mg x = some (.ref f)) {f' : Addr} {fd : FuncData} (F : FunD K x x (defArgs st) (defBody st) (defScope st) [] [] f' fd) (hm' : mg x = some (.ref f'))
    (hb : ∀ (kV doc pm : Value) (an : Option Addr) (cdv ct : Value) (us : List Value), us.length = [y].length → bindArgs (PySem.W.fnOf x x (defArgs st) (defBody st) (defScope st) .none kV doc pm an cdv ct) ⟨us, []⟩ = pure ([y].zip us))
    (hD : ∀ base : Heap, K.In base → base.Ns mainGlobals mg → DefD P w K mg base Z k x [y] fD) :
    ∃ fd : FuncData, (∀ (s : Shared) (v : Value), BindsTo s fd ⟨[v], []⟩ [(y, v)]) ∧ ∀ base : Heap, K.In base → base.Ns mainGlobals mg → FnOk P w K mg base (L2.CX P w) k f fd [y] (spD Z 1 fD) := by
  have ef := hm.symm.trans hm'
  cases ef
  have b := FunD.bindsA (ps := [y]) F hb
  refine ⟨fd, fun s v => b s [v] rfl, fun base h1 h2 => ?_⟩
  obtain ⟨f2, fd2, ok, hm2, _, _, oc, od, osl, lk⟩ := (hD base h1 h2).ex
  have e2 := hm.symm.trans hm2
  cases e2
  obtain ⟨oc', od', dV, kV, doc, pm, an, cdv, ct, osl', e, lk', _⟩ := F.ex
  rw [lk] at lk'
  have e3 : fd2 = fd := by
    have := Option.some.inj lk'
    injection this with _ _ h3 _
    injection h3
  subst e3
  exact ok
omit [Wd] in
theorem cx_false {P : Program} {w : World} {H : Hp} {s : Shared} {e : Value} {s' : Shared} (h : L2.CX P w [] H s (fun _ _ _ => False) e s') : False := by
  obtain ⟨_, _, _, _, _, _, _, _, _, _, _, _, q⟩ := h
  exact q
end
end DL
namespace L2
open PySem PySem.Spec PyProof.Rows
/-- a law over a head by facts, the exceptions' part by the world -/
theorem walk_ofW {l : PySem.W.OpenLaw} {n k : Nat} {q : Program} {loose : List Str} {XP : (Str → Option Value) → Heap → Prop} {YP : World → Heap → Prop} {d : DefRec} {x : Str}
    (hn : l.most = some n) (hn2 : n ≤ sizeLine) (hdf : d.params.defaults = []) (hr : Room k callerA)
    (F : ∀ (w : World) (mg : Str → Option Value) (fa : Addr) (h : Heap), YP w h → h.Ns mainGlobals mg → mg d.name = some (.ref fa) →
      ∃ (K : PySem.W.Frag) (fd : FuncData) (sp : Sp), K.In h ∧ (∀ (s : Shared) (u : Value), BindsTo s fd ⟨[u], []⟩ [(x, u)]) ∧
        (∀ (H : Hp) (a : Addr) (ns : List Int), ns.length ≤ n → Only H → SqL K H a (ns.map V.int) → sp [.ref a] H (fun v _ => v = .bl true) fun _ _ _ => False) ∧
        ∀ base : Heap, K.In base → base.Ns mainGlobals mg → FnOk l.prog w K mg base (CX l.prog w) k fa fd [x] sp)
    (hCX : ∀ (w : World) (H : Hp) (s : Shared) (e : Value) (s' : Shared), CX l.prog w [] H s (fun _ _ _ => False) e s' → False) :
    PySem.W.WalkO q loose XP YP l.row.toRowW d [] (fun f vs => PySem.call f vs) := by
  refine Att.attach_call hn hdf fun w s₀ s₁ mg mb fa o pm cd doc a vs ns G Y ho hd hcd hmg hobj hints hlen hg => ?_
  obtain ⟨K, fd, sp, KX, hb, hsp, hF⟩ := F w mg fa _ Y G.T.g hmg
  exact law_call KX G.T.g G.T.b G.T.builtins G.T.nolimit hg hobj hints (Nat.le_trans hlen hn2) hr hF hb (fun H hO hS => hsp H a ns hlen hO hS) fun H e s' => hCX w H s₁ e s'
end L2


noncomputable section
namespace DM
open PySem PySem.Spec PyProof.Rows L2 DL
def g_is_within : Rho → SO := (retS (andV (isiR "int" (rdB 0)) (andV (ofB (notT (toTru (isiR "bool" (rdB 0))))) (chV leD leD (rdB 1) (rdB 0) (rdB 2)))))
def f_is_within : List D → RO := runD 3 g_is_within
def g_is_meeting_b1 : Rho → SO := (seqS (ifS (orT (notT (toTru (isiR "tuple" (rdB 5)))) (orT (toB (op2 neD (cb lenD (asCons (rdB 5) asNil)) (kst (.int 2)))) (notT (toTru (callR 3 f_is_within (asCons (op2 ixD (rdB 5) (kst (.int 0))) (asCons (op2 addD (rdB 4) (kst (.int 1))) (asCons (op2 subD (cb lenD (asCons (rdB 0) asNil)) (kst (.int 1))) asNil)))))))) (retS (kst (.bool false))) SO.nx)
    (seqS (ifS (notT (toTru (callR 3 f_is_within (asCons (op2 ixD (rdB 5) (kst (.int 1))) (asCons (kst (.int 0)) (asCons (op2 subD (op2 ixD (rdB 0) (op2 ixD (rdB 5) (kst (.int 0)))) (kst (.int 1))) asNil)))))) (retS (kst (.bool false))) SO.nx)
    (setS 4 (op2 ixD (rdB 5) (kst (.int 0))))))
def g_is_meeting : Rho → SO := (seqS (ifS (orT (notT (toTru (isiR "tuple" (rdB 1)))) (notT (toB (chV leD leD (rdB 2) (cb lenD (asCons (rdB 1) asNil)) (rdB 3))))) (retS (kst (.bool false))) SO.nx)
    (seqS (setS 4 (negR (kst (.int 1))))
    (seqS (forS (toSeq (rd 1)) (tgName 5) g_is_meeting_b1)
    (retS (kst (.bool true))))))
def f_is_meeting : List D → RO := runD 6 g_is_meeting
def g_rows_in_b1 : Rho → SO := (setS 1 (op2 mulD (rdB 1) (rdB 2)))
def g_rows_in : Rho → SO := (seqS (setS 1 (kst (.int 1)))
    (seqS (forS (toSeq (rd 0)) (tgName 2) g_rows_in_b1)
    (retS (rd 1))))
def f_rows_in : List D → RO := runD 3 g_rows_in
def g_is_book_c1 : Rho → Res Bool := (notT (toTru (callR 3 f_is_within (asCons (rd 3) (asCons (kst (.int 1)) (asCons (kst (.int 4)) asNil))))))
def g_is_book_c2 : Rho → Res Bool := (notT (toTru (callR 4 f_is_meeting (asCons (rd 1) (asCons (rd 4) (asCons (kst (.int 1)) (asCons (kst (.int 3)) asNil)))))))
def g_is_book : Rho → SO := (seqS (ifS (orT (notT (toTru (isiR "tuple" (rdB 0)))) (orT (toB (op2 neD (cb lenD (asCons (rdB 0) asNil)) (kst (.int 2)))) (notT (toTru (isiR "tuple" (op2 ixD (rdB 0) (kst (.int 0)))))))) (retS (kst (.bool false))) SO.nx)
    (seqS (tgtS (tgPair 1 2) (rd 0))
    (seqS (ifS (orT (notT (toB (chV leD leD (kst (.int 1)) (cb lenD (asCons (rdB 1) asNil)) (kst (.int 6))))) (toTru (frz (lc (toSeq (rdB 1)) (tgName 3) g_is_book_c1 (rd 3) [3])))) (retS (kst (.bool false))) SO.nx)
    (seqS (ifS (orT (toB (op2 gtD (callR 1 f_rows_in (asCons (rd 1) asNil)) (kst (.int 400)))) (orT (notT (toTru (isiR "tuple" (rdB 2)))) (toB (op2 gtD (cb lenD (asCons (rdB 2) asNil)) (kst (.int 12)))))) (retS (kst (.bool false))) SO.nx)
    (retS (ofB (notT (toTru (frz (lc (toSeq (rdB 2)) (tgName 4) g_is_book_c2 (rd 4) [4]))))))))))
def f_is_book : List D → RO := runD 5 g_is_book
def g_checked : Rho → SO := (seqS (ifS (notT (toTru (callR 1 f_is_book (asCons (rd 0) asNil)))) (raiseS "BadBook") SO.nx)
    (retS (rd 0)))
def f_checked : List D → RO := runD 1 g_checked
def g_look_strength : Rho → SO := (seqS (dropS (callR 1 f_checked (asCons (rd 0) asNil)))
    (ifS (notT (toTru (callR 3 f_is_within (asCons (rd 1) (asCons (kst (.int 1)) (asCons (cb minD (asCons (kst (.int 3)) (asCons (cb lenD (asCons (op2 ixD (rdB 0) (kst (.int 0))) asNil)) asNil))) asNil)))))) (raiseS "BadStrength") SO.nx))
def f_look_strength : List D → RO := runD 2 g_look_strength
def g_meets_c1 : Rho → Res Bool := (toB (op2 neD (op2 ixD (rdB 0) (op2 ixD (rdB 2) (kst (.int 0)))) (op2 ixD (rdB 2) (kst (.int 1)))))
def g_meets : Rho → SO := (retS (ofB (notT (toTru (frz (lc (toSeq (rdB 1)) (tgName 2) g_meets_c1 (rd 2) [2]))))))
def f_meets : List D → RO := runD 3 g_meets
def g_is_allowed_c1 : Rho → Res Bool := (toTru (callR 2 f_meets (asCons (rd 1) (asCons (rd 2) asNil))))
def g_is_allowed : Rho → SO := (retS (ofB (notT (toTru (frz (lc (toSeq (op2 ixD (rdB 0) (kst (.int 1)))) (tgName 2) g_is_allowed_c1 (rd 2) [2]))))))
def f_is_allowed : List D → RO := runD 3 g_is_allowed
def g_rows_of_e1 : Rho → Res D := (op2 addD (rdB 4) (dispT (asCons (rd 5) asNil)))
def g_rows_of_b1 : Rho → SO := (extS 3 (frz (lc (cb rng1 (asCons (rdB 2) asNil)) (tgName 5) yes g_rows_of_e1 [5])))
def g_rows_of_b2 : Rho → SO := (seqS (setO 3 (disp asNil))
    (seqS (forS (toSeq (rd 1)) (tgName 4) g_rows_of_b1)
    (fun ρ => (setS 1 (rd 3)) (frzAt 3 ρ))))
def g_rows_of : Rho → SO := (seqS (setS 1 (frz (disp (asCons (dispT asNil) asNil))))
    (seqS (forS (toSeq (rd 0)) (tgName 2) g_rows_of_b2)
    (retS (rd 1))))
def f_rows_of : List D → RO := runD 6 g_rows_of
def g_tests_of_c1 : Rho → Res Bool := (toTru (callR 2 f_is_allowed (asCons (rd 0) (asCons (rd 1) asNil))))
def g_tests_of : Rho → SO := (retO (lc (toSeq (callR 1 f_rows_of (asCons (op2 ixD (rdB 0) (kst (.int 0))) asNil))) (tgName 1) g_tests_of_c1 (rd 1) [1]))
def f_tests_of : List D → RO := runD 2 g_tests_of
def g_all_tests : Rho → SO := (retO (callO 1 f_tests_of (asCons (callR 1 f_checked (asCons (rd 0) asNil)) asNil)))
def f_all_tests : List D → RO := runD 1 g_all_tests
def g_chosen_e1 (fD : List D → RO) : Rho → Res D := (op2 addD (dispT (asCons (rd 4) asNil)) (rdB 5))
def g_chosen_b1 (fD : List D → RO) : Rho → SO := (extS 3 (frz (lc (toSeq (callR 3 fD (asCons (rd 0) (asCons (op2 addD (rdB 4) (kst (.int 1))) (asCons (op2 subD (rdB 2) (kst (.int 1))) asNil))))) (tgName 5) yes (g_chosen_e1 fD) [5])))
def g_chosen (fD : List D → RO) : Rho → SO := (seqS (ifS (toB (op2 eqD (rdB 2) (kst (.int 0)))) (retO (disp (asCons (dispT asNil) asNil))) SO.nx)
    (seqS (setO 3 (disp asNil))
    (seqS (forS (cb rng2 (asCons (rdB 1) (asCons (rdB 0) asNil))) (tgName 4) (g_chosen_b1 fD))
    (retV 3))))
def f_chosen : List D → RO := recD 6 g_chosen 6
def g_meetings_of_e1 : Rho → Res D := (op2 addD (rdB 7) (dispT (asCons (dispT (asCons (rd 5) (asCons (rd 8) asNil))) asNil)))
def g_meetings_of_b1 : Rho → SO := (extS 6 (frz (lc (cb rng1 (asCons (op2 ixD (rdB 0) (rdB 5)) asNil)) (tgName 8) yes g_meetings_of_e1 [8])))
def g_meetings_of_b2 : Rho → SO := (seqS (setO 6 (disp asNil))
    (seqS (forS (toSeq (rd 4)) (tgName 7) g_meetings_of_b1)
    (fun ρ => (setS 4 (rd 6)) (frzAt 6 ρ))))
def g_meetings_of_b3 : Rho → SO := (seqS (setS 4 (frz (disp (asCons (dispT asNil) asNil))))
    (seqS (forS (toSeq (rd 3)) (tgName 5) g_meetings_of_b2)
    (extS 2 (rdB 4))))
def g_meetings_of : Rho → SO := (seqS (setO 2 (disp asNil))
    (seqS (forS (toSeq (callR 3 f_chosen (asCons (cb lenD (asCons (rdB 0) asNil)) (asCons (kst (.int 0)) (asCons (rd 1) asNil))))) (tgName 3) g_meetings_of_b3)
    (retO (cb sortedD (asCons (rdB 2) asNil)))))
def f_meetings_of : List D → RO := runD 9 g_meetings_of
def g_all_meetings : Rho → SO := (seqS (dropS (callR 2 f_look_strength (asCons (rd 0) (asCons (rd 1) asNil))))
    (retO (callO 2 f_meetings_of (asCons (op2 ixD (rdB 0) (kst (.int 0))) (asCons (rd 1) asNil)))))
def f_all_meetings : List D → RO := runD 2 g_all_meetings
def g_possible_of_c1 : Rho → Res Bool := (toTru (callR 2 f_meets (asCons (rd 4) (asCons (rd 3) asNil))))
def g_possible_of_c2 : Rho → Res Bool := (toTru (frz (lc (toSeq (rdB 2)) (tgName 4) g_possible_of_c1 (rd 4) [4])))
def g_possible_of : Rho → SO := (seqS (setS 2 (callR 1 f_tests_of (asCons (rd 0) asNil)))
    (retO (lc (toSeq (callR 2 f_meetings_of (asCons (op2 ixD (rdB 0) (kst (.int 0))) (asCons (rd 1) asNil)))) (tgName 3) g_possible_of_c2 (rd 3) [3])))
def f_possible_of : List D → RO := runD 5 g_possible_of
def g_possible : Rho → SO := (seqS (dropS (callR 2 f_look_strength (asCons (rd 0) (asCons (rd 1) asNil))))
    (retO (callO 2 f_possible_of (asCons (rd 0) (asCons (rd 1) asNil)))))
def f_possible : List D → RO := runD 2 g_possible
def g_impossible_c1 : Rho → Res Bool := (toB (op2 (inD true) (rdB 3) (rdB 2)))
def g_impossible : Rho → SO := (seqS (dropS (callR 2 f_look_strength (asCons (rd 0) (asCons (rd 1) asNil))))
    (seqS (setS 2 (callR 2 f_possible_of (asCons (rd 0) (asCons (rd 1) asNil))))
    (retO (lc (toSeq (callR 2 f_meetings_of (asCons (op2 ixD (rdB 0) (kst (.int 0))) (asCons (rd 1) asNil)))) (tgName 3) g_impossible_c1 (rd 3) [3]))))
def f_impossible : List D → RO := runD 4 g_impossible
def g_l_cell : Rho → SO := (seqS (ifS (toB (op2 ltD (rdB 1) (cb lenD (asCons (rdB 0) asNil)))) (retS (op2 ixD (rdB 0) (rdB 1))) SO.nx)
    (retS (kst (.int 0))))
def f_l_cell : List D → RO := runD 2 g_l_cell
def g_l_mix : Rho → SO := (retS (op2 modD (op2 modD (op2 mulD (rdB 0) (kst (.int 48271))) (rdB 1)) (rdB 2)))
def f_l_mix : List D → RO := runD 3 g_l_mix
def g_l_book_b1 : Rho → SO := (seqS (setS 6 (kst (.int 2)))
    (seqS (ifS (orT (toB (op2 ltD (rdB 5) (kst (.int 2)))) (toB (op2 gtD (cb lenD (asCons (rdB 0) asNil)) (kst (.int 63))))) (setS 6 (kst (.int 3))) SO.nx)
    (appS 4 (op2 addD (kst (.int 1)) (callR 3 f_l_mix (asCons (op2 addD (op2 addD (callR 2 f_l_cell (asCons (rd 0) (asCons (op2 addD (rdB 1) (kst (.int 1))) asNil))) (op2 mulD (op2 mulD (kst (.int 31)) (rdB 5)) (rdB 5))) (rdB 5)) (asCons (kst (.int 9967)) (asCons (rd 6) asNil))))))))
def g_l_book_c1 : Rho → Res Bool := (toB (op2 eqD (callR 3 f_l_mix (asCons (op2 addD (rdB 8) (op2 mulD (kst (.int 17)) (rdB 9))) (asCons (kst (.int 9941)) (asCons (kst (.int 2)) asNil)))) (kst (.int 1))))
def g_l_book_e1 : Rho → Res D := (dispT (asCons (rd 9) (asCons (callR 3 f_l_mix (asCons (op2 addD (rdB 8) (op2 mulD (kst (.int 5)) (rdB 9))) (asCons (kst (.int 9929)) (asCons (op2 ixD (rdB 4) (rdB 9)) asNil)))) asNil)))
def g_l_book_b2 : Rho → SO := (seqS (setS 8 (op2 addD (op2 addD (callR 2 f_l_cell (asCons (rd 0) (asCons (op2 addD (rdB 1) (kst (.int 2))) asNil))) (op2 mulD (op2 mulD (kst (.int 53)) (rdB 5)) (rdB 5))) (op2 mulD (kst (.int 7)) (rdB 5))))
    (seqS (setS 10 (sl3 cutD (frz (lc (cb rng1 (asCons (rdB 3) asNil)) (tgName 9) g_l_book_c1 (rd 9) [9])) ptN (ptS (kst (.int 3)))))
    (seqS (ifS (toB (op2 eqD (rdB 10) (frz (disp asNil)))) (setS 10 (frz (disp (asCons (callR 3 f_l_mix (asCons (rd 8) (asCons (kst (.int 9931)) (asCons (rd 3) asNil)))) asNil)))) SO.nx)
    (appS 7 (cb toTupD (asCons (frz (lc (toSeq (rdB 10)) (tgName 9) yes g_l_book_e1 [9])) asNil))))))
def g_l_book : Rho → SO := (seqS (setS 2 (callR 2 f_l_cell (asCons (rd 0) (asCons (rd 1) asNil))))
    (seqS (setS 3 (op2 addD (kst (.int 1)) (callR 3 f_l_mix (asCons (rd 2) (asCons (kst (.int 9973)) (asCons (kst (.int 4)) asNil))))))
    (seqS (setO 4 (disp asNil))
    (seqS (forS (cb rng1 (asCons (rdB 3) asNil)) (tgName 5) g_l_book_b1)
    (seqS (setO 7 (disp asNil))
    (seqS (forS (cb rng1 (asCons (callR 3 f_l_mix (asCons (rd 2) (asCons (kst (.int 9949)) (asCons (kst (.int 4)) asNil)))) asNil)) (tgName 5) g_l_book_b2)
    (retS (dispT (asCons (cb toTupD (asCons (rdB 4) asNil)) (asCons (cb toTupD (asCons (rdB 7) asNil)) asNil))))))))))
def f_l_book : List D → RO := runD 11 g_l_book
def g_l_rows_e1 : Rho → Res D := (op2 addD (rdB 4) (dispT (asCons (rd 5) asNil)))
def g_l_rows_b1 : Rho → SO := (setS 3 (op2 addD (rdB 3) (frz (lc (cb rng1 (asCons (rdB 2) asNil)) (tgName 5) yes g_l_rows_e1 [5]))))
def g_l_rows_b2 : Rho → SO := (seqS (setS 3 (frz (disp asNil)))
    (seqS (forS (toSeq (rd 1)) (tgName 4) g_l_rows_b1)
    (setS 1 (rd 3))))
def g_l_rows : Rho → SO := (seqS (setS 1 (frz (disp (asCons (dispT asNil) asNil))))
    (seqS (forS (toSeq (rd 0)) (tgName 2) g_l_rows_b2)
    (retS (rd 1))))
def f_l_rows : List D → RO := runD 6 g_l_rows
def g_l_meets_c1 : Rho → Res Bool := (toB (op2 neD (op2 ixD (rdB 0) (op2 ixD (rdB 2) (kst (.int 0)))) (op2 ixD (rdB 2) (kst (.int 1)))))
def g_l_meets : Rho → SO := (retS (op2 eqD (frz (lc (toSeq (rdB 1)) (tgName 2) g_l_meets_c1 (rd 2) [2])) (frz (disp asNil))))
def f_l_meets : List D → RO := runD 3 g_l_meets
def g_l_tests_c1 : Rho → Res Bool := (toTru (callR 2 f_l_meets (asCons (rd 2) (asCons (rd 3) asNil))))
def g_l_tests_b1 : Rho → SO := (ifS (toB (op2 eqD (frz (lc (toSeq (op2 ixD (rdB 0) (kst (.int 1)))) (tgName 3) g_l_tests_c1 (rd 3) [3])) (frz (disp asNil)))) (appS 1 (rd 2)) SO.nx)
def g_l_tests : Rho → SO := (seqS (setO 1 (disp asNil))
    (seqS (forS (toSeq (callR 1 f_l_rows (asCons (op2 ixD (rdB 0) (kst (.int 0))) asNil))) (tgName 2) g_l_tests_b1)
    (retV 1)))
def f_l_tests : List D → RO := runD 4 g_l_tests
def g_l_meetings_e1 : Rho → Res D := (op2 addD (rdB 7) (dispT (asCons (dispT (asCons (rd 5) (asCons (rd 6) asNil))) asNil)))
def g_l_meetings_b1 : Rho → SO := (setS 4 (op2 addD (rdB 4) (frz (lc (toSeq (rdB 4)) (tgName 7) yes g_l_meetings_e1 [7]))))
def g_l_meetings_b2 : Rho → SO := (ifS (toB (op2 eqD (cb lenD (asCons (rdB 7) asNil)) (rdB 1))) (dputS 2 (rd 7) (kst (.bool true))) SO.nx)
def g_l_meetings_b3 : Rho → SO := (seqS (setS 4 (frz (disp (asCons (dispT asNil) asNil))))
    (seqS (forS (toEnum (rd 3)) (tgPair 5 6) g_l_meetings_b1)
    (forS (toSeq (rd 4)) (tgName 7) g_l_meetings_b2)))
def g_l_meetings : Rho → SO := (seqS (dnewS 2)
    (seqS (forS (toSeq (callR 1 f_l_rows (asCons (op2 ixD (rdB 0) (kst (.int 0))) asNil))) (tgName 3) g_l_meetings_b3)
    (retO (sortedDR 2))))
def f_l_meetings : List D → RO := runD 8 g_l_meetings
def g_l_possible_c1 : Rho → Res Bool := (toTru (callR 2 f_l_meets (asCons (rd 5) (asCons (rd 4) asNil))))
def g_l_possible_b1 : Rho → SO := (ifS (toB (op2 neD (frz (lc (toSeq (rdB 2)) (tgName 5) g_l_possible_c1 (rd 5) [5])) (frz (disp asNil)))) (appS 3 (rd 4)) SO.nx)
def g_l_possible : Rho → SO := (seqS (setS 2 (callR 1 f_l_tests (asCons (rd 0) asNil)))
    (seqS (setO 3 (disp asNil))
    (seqS (forS (toSeq (callR 2 f_l_meetings (asCons (rd 0) (asCons (rd 1) asNil)))) (tgName 4) g_l_possible_b1)
    (retV 3))))
def f_l_possible : List D → RO := runD 6 g_l_possible
def g_l_strength : Rho → SO := (retS (cb minD (asCons (op2 ixD (frz (disp (asCons (kst (.int 2)) (asCons (kst (.int 2)) (asCons (kst (.int 1)) (asCons (kst (.int 3)) asNil)))))) (op2 modD (rdB 1) (kst (.int 4)))) (asCons (cb lenD (asCons (op2 ixD (rdB 0) (kst (.int 0))) asNil)) asNil))))
def f_l_strength : List D → RO := runD 2 g_l_strength
def g_law_03_c1 : Rho → Res Bool := (toB (op2 (inD true) (rdB 5) (rdB 4)))
def g_law_03 : Rho → SO := (seqS (setS 1 (callR 2 f_l_book (asCons (rd 0) (asCons (kst (.int 1)) asNil))))
    (seqS (setS 2 (callR 2 f_l_strength (asCons (rd 1) (asCons (callR 2 f_l_cell (asCons (rd 0) (asCons (kst (.int 0)) asNil))) asNil))))
    (seqS (setS 3 (callR 1 f_all_tests (asCons (rd 1) asNil)))
    (seqS (ifS (orT (notT (toTru (isiR "list" (rdB 3)))) (toB (op2 neD (rdB 3) (callR 1 f_l_tests (asCons (rd 1) asNil))))) (retS (kst (.bool false))) SO.nx)
    (seqS (ifS (toB (op2 neD (callR 2 f_all_meetings (asCons (rd 1) (asCons (rd 2) asNil))) (callR 2 f_l_meetings (asCons (rd 1) (asCons (rd 2) asNil))))) (retS (kst (.bool false))) SO.nx)
    (seqS (setS 4 (callR 2 f_l_possible (asCons (rd 1) (asCons (rd 2) asNil))))
    (seqS (ifS (toB (op2 neD (callR 2 f_possible (asCons (rd 1) (asCons (rd 2) asNil))) (rdB 4))) (retS (kst (.bool false))) SO.nx)
    (retS (op2 eqD (callR 2 f_impossible (asCons (rd 1) (asCons (rd 2) asNil))) (frz (lc (toSeq (callR 2 f_l_meetings (asCons (rd 1) (asCons (rd 2) asNil)))) (tgName 5) g_law_03_c1 (rd 5) [5])))))))))))
def f_law_03 : List D → RO := runD 6 g_law_03
def g_whole_bans_c1 : Rho → Res Bool := (toB (op2 (inD true) (rdB 5) (rdB 3)))
def g_whole_bans_c2 : Rho → Res Bool := (notT (toTru (frz (lc (toSeq (rdB 4)) (tgName 5) g_whole_bans_c1 (rd 5) [5]))))
def g_whole_bans_b1 : Rho → SO := (ifS (notT (toTru (frz (lc (toSeq (rdB 1)) (tgName 4) g_whole_bans_c2 (rd 4) [4])))) (appS 1 (rd 3)) SO.nx)
def g_whole_bans_b2 : Rho → SO := (forS (toSeq (callR 2 f_impossible (asCons (rd 0) (asCons (rd 2) asNil)))) (tgName 3) g_whole_bans_b1)
def g_whole_bans : Rho → SO := (seqS (dropS (callR 2 f_look_strength (asCons (rd 0) (asCons (kst (.int 1)) asNil))))
    (seqS (setO 1 (disp asNil))
    (seqS (forS (cb rng2 (asCons (kst (.int 1)) (asCons (op2 addD (cb minD (asCons (kst (.int 3)) (asCons (cb lenD (asCons (op2 ixD (rdB 0) (kst (.int 0))) asNil)) asNil))) (kst (.int 1))) asNil))) (tgName 2) g_whole_bans_b2)
    (retV 1))))
def f_whole_bans : List D → RO := runD 6 g_whole_bans
def g_law_04_c1 : Rho → Res Bool := (toB (op2 (inD true) (rdB 8) (rdB 6)))
def g_law_04_c2 : Rho → Res Bool := (toB (op2 eqD (frz (lc (toSeq (rdB 7)) (tgName 8) g_law_04_c1 (rd 8) [8])) (frz (disp asNil))))
def g_law_04_b1 : Rho → SO := (ifS (toB (op2 (inD true) (rdB 6) (rdB 5))) (seqS (setS 9 (frz (lc (toSeq (rdB 3)) (tgName 7) g_law_04_c2 (rd 7) [7])))
    (ifS (toB (op2 eqD (rdB 9) (frz (disp asNil)))) (appS 3 (rd 6)) SO.nx)) SO.nx)
def g_law_04_b2 : Rho → SO := (seqS (setS 5 (callR 2 f_l_possible (asCons (rd 1) (asCons (rd 4) asNil))))
    (forS (toSeq (callR 2 f_l_meetings (asCons (rd 1) (asCons (rd 4) asNil)))) (tgName 6) g_law_04_b1))
def g_law_04_c3 : Rho → Res Bool := (toTru (callR 2 f_l_meets (asCons (rd 12) (asCons (rd 6) asNil))))
def g_law_04_b3 : Rho → SO := (seqS (setS 13 (op2 neD (frz (lc (toSeq (rdB 10)) (tgName 6) g_law_04_c3 (rd 6) [6])) (frz (disp asNil))))
    (ifS (orT (andT (toTru (rdB 13)) (toB (op2 (inD false) (rdB 12) (rdB 11)))) (andT (toB (op2 ltD (cb lenD (asCons (op2 ixD (rdB 1) (kst (.int 0))) asNil)) (kst (.int 4)))) (toB (op2 eqD (rdB 13) (op2 (inD false) (rdB 12) (rdB 11)))))) (retS (kst (.bool false))) SO.nx))
def g_law_04_c4 : Rho → Res Bool := (toB (op2 (inD true) (rdB 8) (rdB 14)))
def g_law_04_c5 : Rho → Res Bool := (toB (op2 eqD (frz (lc (toSeq (rdB 6)) (tgName 8) g_law_04_c4 (rd 8) [8])) (frz (disp asNil))))
def g_law_04_b4 : Rho → SO := (ifS (toB (op2 eqD (frz (lc (toSeq (rdB 10)) (tgName 6) g_law_04_c5 (rd 6) [6])) (frz (disp asNil)))) (retS (kst (.bool false))) SO.nx)
def g_law_04 : Rho → SO := (seqS (setS 1 (callR 2 f_l_book (asCons (rd 0) (asCons (kst (.int 0)) asNil))))
    (seqS (setS 2 (cb minD (asCons (kst (.int 3)) (asCons (cb lenD (asCons (op2 ixD (rdB 1) (kst (.int 0))) asNil)) asNil))))
    (seqS (setO 3 (disp asNil))
    (seqS (forS (cb rng2 (asCons (kst (.int 1)) (asCons (op2 addD (rdB 2) (kst (.int 1))) asNil))) (tgName 4) g_law_04_b2)
    (seqS (setS 10 (callR 1 f_whole_bans (asCons (rd 1) asNil)))
    (seqS (ifS (orT (notT (toTru (isiR "list" (rdB 10)))) (toB (op2 neD (rdB 10) (rdB 3)))) (retS (kst (.bool false))) SO.nx)
    (seqS (setS 11 (callR 1 f_l_tests (asCons (rd 1) asNil)))
    (seqS (forS (toSeq (callR 1 f_l_rows (asCons (op2 ixD (rdB 1) (kst (.int 0))) asNil))) (tgName 12) g_law_04_b3)
    (seqS (forS (toSeq (op2 ixD (rdB 1) (kst (.int 1)))) (tgName 14) g_law_04_b4)
    (retS (kst (.bool true))))))))))))
def f_law_04 : List D → RO := runD 15 g_law_04
def g_is_row_c1 : Rho → Res Bool := (notT (toTru (callR 3 f_is_within (asCons (op2 ixD (rdB 1) (rdB 2)) (asCons (kst (.int 0)) (asCons (op2 subD (op2 ixD (rdB 0) (rdB 2)) (kst (.int 1))) asNil))))))
def g_is_row : Rho → SO := (seqS (ifS (orT (notT (toTru (isiR "tuple" (rdB 1)))) (toB (op2 neD (cb lenD (asCons (rdB 1) asNil)) (cb lenD (asCons (rdB 0) asNil))))) (retS (kst (.bool false))) SO.nx)
    (retS (ofB (notT (toTru (frz (lc (cb rng1 (asCons (cb lenD (asCons (rdB 0) asNil)) asNil)) (tgName 2) g_is_row_c1 (rd 2) [2])))))))
def f_is_row : List D → RO := runD 3 g_is_row
def g_look_tests_b1 : Rho → SO := (ifS (orT (notT (toTru (callR 2 f_is_row (asCons (op2 ixD (rdB 0) (kst (.int 0))) (asCons (rd 3) asNil))))) (notT (toTru (callR 2 f_is_allowed (asCons (rd 0) (asCons (rd 3) asNil)))))) (raiseB (rd 2)) SO.nx)
def g_look_tests : Rho → SO := (seqS (ifS (notT (toTru (isiR "list" (rdB 1)))) (raiseB (kst (.int 0))) SO.nx)
    (forS (toEnum (rd 1)) (tgPair 2 3) g_look_tests_b1))
def f_look_tests : List D → RO := runD 4 g_look_tests
def g_look_cover : Rho → SO := (seqS (dropS (callR 2 f_look_strength (asCons (rd 0) (asCons (rd 1) asNil))))
    (dropS (callR 2 f_look_tests (asCons (rd 0) (asCons (rd 2) asNil)))))
def f_look_cover : List D → RO := runD 3 g_look_cover
def g_unmet_c1 : Rho → Res Bool := (toTru (callR 2 f_meets (asCons (rd 3) (asCons (rd 2) asNil))))
def g_unmet_c2 : Rho → Res Bool := (notT (toTru (frz (lc (toSeq (rdB 1)) (tgName 3) g_unmet_c1 (rd 3) [3]))))
def g_unmet : Rho → SO := (retO (lc (toSeq (rdB 0)) (tgName 2) g_unmet_c2 (rd 2) [2]))
def f_unmet : List D → RO := runD 4 g_unmet
def g_missing : Rho → SO := (seqS (dropS (callR 3 f_look_cover (asCons (rd 0) (asCons (rd 1) (asCons (rd 2) asNil)))))
    (retO (callO 2 f_unmet (asCons (callR 2 f_possible_of (asCons (rd 0) (asCons (rd 1) asNil))) (asCons (rd 2) asNil)))))
def f_missing : List D → RO := runD 3 g_missing
def g_is_cover : Rho → SO := (retS (ofB (notT (toTru (callR 3 f_missing (asCons (rd 0) (asCons (rd 1) (asCons (rd 2) asNil))))))))
def f_is_cover : List D → RO := runD 3 g_is_cover
def g_without : Rho → SO := (retO (op2 catD (sl3 cutD (rdB 0) ptN (ptS (rdB 1))) (sl3 cutD (rdB 0) (ptS (op2 addD (rdB 1) (kst (.int 1)))) ptN)))
def f_without : List D → RO := runD 2 g_without
def g_needless_c1 : Rho → Res Bool := (toB (op2 eqD (callR 2 f_unmet (asCons (rd 4) (asCons (callR 2 f_without (asCons (rd 2) (asCons (rd 5) asNil))) asNil))) (rdB 3)))
def g_needless : Rho → SO := (seqS (dropS (callR 3 f_look_cover (asCons (rd 0) (asCons (rd 1) (asCons (rd 2) asNil)))))
    (seqS (setS 3 (callR 2 f_unmet (asCons (callR 2 f_possible_of (asCons (rd 0) (asCons (rd 1) asNil))) (asCons (rd 2) asNil))))
    (seqS (setS 4 (callR 2 f_possible_of (asCons (rd 0) (asCons (rd 1) asNil))))
    (retO (lc (cb rng1 (asCons (cb lenD (asCons (rdB 2) asNil)) asNil)) (tgName 5) g_needless_c1 (rd 5) [5])))))
def f_needless : List D → RO := runD 6 g_needless
def g_trimmed_of_b1 : Rho → SO := (ifS (toB (op2 eqD (callR 2 f_unmet (asCons (rd 0) (asCons (frz (lendO 2 (callO 2 f_without (asCons (rd 2) (asCons (rd 4) asNil))))) asNil))) (rdB 3))) (setO 2 (lendO 2 (callO 2 f_without (asCons (rd 2) (asCons (rd 4) asNil))))) SO.nx)
def g_trimmed_of : Rho → SO := (seqS (setO 2 (cb toListD (asCons (rdB 1) asNil)))
    (seqS (setS 3 (callR 2 f_unmet (asCons (rd 0) (asCons (rd 1) asNil))))
    (seqS (forS (cb rng3 (asCons (op2 subD (cb lenD (asCons (rdB 1) asNil)) (kst (.int 1))) (asCons (negR (kst (.int 1))) (asCons (negR (kst (.int 1))) asNil)))) (tgName 4) g_trimmed_of_b1)
    (retV 2))))
def f_trimmed_of : List D → RO := runD 5 g_trimmed_of
def g_trimmed : Rho → SO := (seqS (dropS (callR 3 f_look_cover (asCons (rd 0) (asCons (rd 1) (asCons (rd 2) asNil)))))
    (retO (callO 2 f_trimmed_of (asCons (callR 2 f_possible_of (asCons (rd 0) (asCons (rd 1) asNil))) (asCons (rd 2) asNil)))))
def f_trimmed : List D → RO := runD 3 g_trimmed
def g_l_left_c1 : Rho → Res Bool := (toTru (callR 2 f_l_meets (asCons (rd 4) (asCons (rd 3) asNil))))
def g_l_left_b1 : Rho → SO := (ifS (toB (op2 eqD (frz (lc (toSeq (rdB 1)) (tgName 4) g_l_left_c1 (rd 4) [4])) (frz (disp asNil)))) (appS 2 (rd 3)) SO.nx)
def g_l_left : Rho → SO := (seqS (setO 2 (disp asNil))
    (seqS (forS (toSeq (rd 0)) (tgName 3) g_l_left_b1)
    (retV 2)))
def f_l_left : List D → RO := runD 5 g_l_left
def g_l_drawn_b1 : Rho → SO := (appS 5 (op2 ixD (rdB 4) (callR 3 f_l_mix (asCons (op2 addD (op2 addD (callR 2 f_l_cell (asCons (rd 0) (asCons (rd 1) asNil))) (op2 mulD (op2 mulD (kst (.int 29)) (rdB 6)) (rdB 6))) (rdB 6)) (asCons (kst (.int 9907)) (asCons (cb lenD (asCons (rdB 4) asNil)) asNil))))))
def g_l_drawn : Rho → SO := (seqS (setS 4 (callR 1 f_l_tests (asCons (rd 2) asNil)))
    (seqS (setO 5 (disp asNil))
    (seqS (ifS (toB (op2 neD (rdB 4) (frz (disp asNil)))) (forS (cb rng1 (asCons (callR 3 f_l_mix (asCons (callR 2 f_l_cell (asCons (rd 0) (asCons (rd 1) asNil))) (asCons (kst (.int 9923)) (asCons (op2 addD (rdB 3) (kst (.int 1))) asNil)))) asNil)) (tgName 6) g_l_drawn_b1) SO.nx)
    (retV 5))))
def f_l_drawn : List D → RO := runD 7 g_l_drawn
def g_law_05_b1 : Rho → SO := (ifS (toB (op2 eqD (callR 2 f_l_left (asCons (rd 5) (asCons (op2 addD (sl3 cutD (rdB 3) ptN (ptS (rdB 8))) (sl3 cutD (rdB 3) (ptS (op2 addD (rdB 8) (kst (.int 1)))) ptN)) asNil))) (rdB 6))) (appS 7 (rd 8)) SO.nx)
def g_law_05_b2 : Rho → SO := (ifS (toB (op2 eqD (callR 2 f_l_left (asCons (rd 5) (asCons (op2 addD (sl3 cutD (rdB 9) ptN (ptS (rdB 8))) (sl3 cutD (rdB 9) (ptS (op2 addD (rdB 8) (kst (.int 1)))) ptN)) asNil))) (rdB 6))) (dropE (popAtD 9 (rdB 8))) SO.nx)
def g_law_05 : Rho → SO := (seqS (setS 1 (callR 2 f_l_book (asCons (rd 0) (asCons (kst (.int 2)) asNil))))
    (seqS (setS 2 (callR 2 f_l_strength (asCons (rd 1) (asCons (callR 2 f_l_cell (asCons (rd 0) (asCons (kst (.int 0)) asNil))) asNil))))
    (seqS (setS 3 (callR 4 f_l_drawn (asCons (rd 0) (asCons (kst (.int 5)) (asCons (rd 1) (asCons (kst (.int 7)) asNil))))))
    (seqS (setS 4 (frz (cb toListD (asCons (rdB 3) asNil))))
    (seqS (setS 5 (callR 2 f_l_possible (asCons (rd 1) (asCons (rd 2) asNil))))
    (seqS (setS 6 (callR 2 f_l_left (asCons (rd 5) (asCons (rd 3) asNil))))
    (seqS (ifS (orT (toB (op2 neD (callR 3 f_missing (asCons (rd 1) (asCons (rd 2) (asCons (rd 3) asNil)))) (rdB 6))) (toB (op2 neD (callR 3 f_is_cover (asCons (rd 1) (asCons (rd 2) (asCons (rd 3) asNil)))) (op2 eqD (rdB 6) (frz (disp asNil)))))) (retS (kst (.bool false))) SO.nx)
    (seqS (setO 7 (disp asNil))
    (seqS (forS (cb rng1 (asCons (cb lenD (asCons (rdB 3) asNil)) asNil)) (tgName 8) g_law_05_b1)
    (seqS (ifS (toB (op2 neD (callR 3 f_needless (asCons (rd 1) (asCons (rd 2) (asCons (rd 3) asNil)))) (rdB 7))) (retS (kst (.bool false))) SO.nx)
    (seqS (setO 9 (cb toListD (asCons (rdB 3) asNil)))
    (seqS (forS (cb rng3 (asCons (op2 subD (cb lenD (asCons (rdB 3) asNil)) (kst (.int 1))) (asCons (negR (kst (.int 1))) (asCons (negR (kst (.int 1))) asNil)))) (tgName 8) g_law_05_b2)
    (seqS (setS 10 (callR 3 f_trimmed (asCons (rd 1) (asCons (rd 2) (asCons (rd 3) asNil)))))
    (retS (andV (isiR "list" (rdB 10)) (andV (op2 eqD (rdB 10) (rdB 9)) (op2 eqD (rdB 3) (rdB 4))))))))))))))))))
def f_law_05 : List D → RO := runD 11 g_law_05
def g_new_met_c1 : Rho → Res Bool := (toTru (callR 2 f_meets (asCons (rd 1) (asCons (rd 2) asNil))))
def g_new_met : Rho → SO := (retS (cb lenD (asCons (frz (lc (toSeq (rdB 0)) (tgName 2) g_new_met_c1 (rd 2) [2])) asNil)))
def f_new_met : List D → RO := runD 3 g_new_met
def g_in_order_e1 : Rho → Res D := (callR 2 f_new_met (asCons (rd 3) (asCons (rd 6) asNil)))
def g_in_order_w1 : Rho → Res Bool := (toTru (rdB 4))
def g_in_order_b1 : Rho → SO := (seqS (setS 7 (frz (lc (toSeq (rdB 4)) (tgName 6) yes g_in_order_e1 [6])))
    (seqS (setE 6 (popAtD 4 (idxR (rdB 7) (cb maxLD (asCons (rdB 7) asNil)))))
    (seqS (appS 5 (rd 6))
    (setS 3 (callR 2 f_unmet (asCons (rd 3) (asCons (frz (disp (asCons (rd 6) asNil))) asNil)))))))
def g_in_order : Rho → SO := (seqS (dropS (callR 3 f_look_cover (asCons (rd 0) (asCons (rd 1) (asCons (rd 2) asNil)))))
    (seqS (setS 3 (callR 2 f_possible_of (asCons (rd 0) (asCons (rd 1) asNil))))
    (seqS (setO 4 (cb toListD (asCons (rdB 2) asNil)))
    (seqS (setO 5 (disp asNil))
    (seqS (whileS g_in_order_w1 g_in_order_b1)
    (retV 5))))))
def f_in_order : List D → RO := runD 8 g_in_order
def g_law_06_e1 : Rho → Res D := (op2 subD (cb lenD (asCons (rdB 5) asNil)) (cb lenD (asCons (callR 2 f_l_left (asCons (rd 5) (asCons (frz (disp (asCons (rd 9) asNil))) asNil))) asNil)))
def g_law_06_w1 : Rho → Res Bool := (toB (op2 neD (rdB 6) (frz (disp asNil))))
def g_law_06_b1 : Rho → SO := (seqS (setS 10 (frz (lc (toSeq (rdB 6)) (tgName 9) yes g_law_06_e1 [9])))
    (seqS (setS 11 (idxR (rdB 10) (cb maxLD (asCons (rdB 10) asNil))))
    (seqS (appS 8 (op2 ixD (rdB 10) (rdB 11)))
    (seqS (setS 5 (callR 2 f_l_left (asCons (rd 5) (asCons (frz (disp (asCons (op2 ixD (rdB 6) (rdB 11)) asNil))) asNil))))
    (appX 7 (popAtD 6 (rdB 11)))))))
def g_law_06 : Rho → SO := (seqS (setS 1 (callR 2 f_l_book (asCons (rd 0) (asCons (kst (.int 2)) asNil))))
    (seqS (setS 2 (callR 2 f_l_strength (asCons (rd 1) (asCons (callR 2 f_l_cell (asCons (rd 0) (asCons (kst (.int 0)) asNil))) asNil))))
    (seqS (setS 3 (callR 4 f_l_drawn (asCons (rd 0) (asCons (kst (.int 5)) (asCons (rd 1) (asCons (kst (.int 7)) asNil))))))
    (seqS (setS 4 (frz (cb toListD (asCons (rdB 3) asNil))))
    (seqS (setS 5 (callR 2 f_l_possible (asCons (rd 1) (asCons (rd 2) asNil))))
    (seqS (setO 6 (cb toListD (asCons (rdB 3) asNil)))
    (seqS (setO 7 (disp asNil))
    (seqS (setO 8 (disp asNil))
    (seqS (whileS g_law_06_w1 g_law_06_b1)
    (seqS (setS 12 (callR 3 f_in_order (asCons (rd 1) (asCons (rd 2) (asCons (rd 3) asNil)))))
    (seqS (ifS (orT (notT (toTru (isiR "list" (rdB 12)))) (orT (toB (op2 neD (rdB 12) (rdB 7))) (toB (op2 neD (rdB 3) (rdB 4))))) (retS (kst (.bool false))) SO.nx)
    (retS (andV (op2 eqD (rdB 8) (frz (revR (frz (cb sortedD (asCons (rdB 8) asNil)))))) (op2 eqD (callR 3 f_missing (asCons (rd 1) (asCons (rd 2) (asCons (rd 12) asNil)))) (rdB 5)))))))))))))))
def f_law_06 : List D → RO := runD 13 g_law_06
def g_filled_e1 : Rho → Res D := (callR 2 f_new_met (asCons (rd 4) (asCons (rd 6) asNil)))
def g_filled_w1 : Rho → Res Bool := (toTru (rdB 4))
def g_filled_b1 : Rho → SO := (seqS (setS 7 (frz (lc (toSeq (rdB 5)) (tgName 6) yes g_filled_e1 [6])))
    (seqS (appS 3 (op2 ixD (rdB 5) (idxR (rdB 7) (cb maxLD (asCons (rdB 7) asNil)))))
    (setS 4 (callR 2 f_unmet (asCons (rd 4) (asCons (sl3 cutD (rdB 3) (ptS (negR (kst (.int 1)))) ptN) asNil))))))
def g_filled : Rho → SO := (seqS (setO 3 (cb toListD (asCons (rdB 2) asNil)))
    (seqS (setS 4 (frz (lendO 3 (callO 2 f_unmet (asCons (rd 1) (asCons (rd 3) asNil))))))
    (seqS (setS 5 (callR 1 f_tests_of (asCons (rd 0) asNil)))
    (seqS (whileS g_filled_w1 g_filled_b1)
    (retV 3)))))
def f_filled : List D → RO := runD 8 g_filled
def g_built : Rho → SO := (seqS (dropS (callR 2 f_look_strength (asCons (rd 0) (asCons (rd 1) asNil))))
    (seqS (setS 2 (callR 2 f_possible_of (asCons (rd 0) (asCons (rd 1) asNil))))
    (retO (callO 2 f_trimmed_of (asCons (rd 2) (asCons (callR 3 f_filled (asCons (rd 0) (asCons (rd 2) (asCons (frz (disp asNil)) asNil)))) asNil))))))
def f_built : List D → RO := runD 3 g_built
def g_law_08_c1 : Rho → Res Bool := (toB (op2 (inD true) (rdB 10) (rdB 9)))
def g_law_08_c2 : Rho → Res Bool := (toB (op2 eqD (frz (lc (toSeq (rdB 8)) (tgName 10) g_law_08_c1 (rd 10) [10])) (frz (disp asNil))))
def g_law_08_b1 : Rho → SO := (ifS (toB (op2 eqD (frz (lc (toSeq (rdB 6)) (tgName 9) g_law_08_c2 (rd 9) [9])) (frz (disp asNil)))) (retS (kst (.bool false))) SO.nx)
def g_law_08_c3 : Rho → Res Bool := (toB (op2 (inD true) (rdB 10) (rdB 9)))
def g_law_08_c4 : Rho → Res Bool := (toB (op2 eqD (frz (lc (toSeq (rdB 8)) (tgName 10) g_law_08_c3 (rd 10) [10])) (frz (disp asNil))))
def g_law_08_c5 : Rho → Res Bool := (toB (op2 (inD true) (rdB 8) (rdB 7)))
def g_law_08_b2 : Rho → SO := (seqS (setS 11 (frz (lc (toSeq (callR 2 f_l_meetings (asCons (rd 1) (asCons (rd 4) asNil)))) (tgName 8) g_law_08_c4 (rd 8) [8])))
    (ifS (toTru (frz (lc (toSeq (rdB 11)) (tgName 8) g_law_08_c5 (rd 8) [8]))) (retS (kst (.bool false))) SO.nx))
def g_law_08 : Rho → SO := (seqS (setS 1 (callR 2 f_l_book (asCons (rd 0) (asCons (kst (.int 2)) asNil))))
    (seqS (setS 2 (cb minD (asCons (kst (.int 3)) (asCons (cb lenD (asCons (op2 ixD (rdB 1) (kst (.int 0))) asNil)) asNil))))
    (seqS (setS 3 (op2 addD (kst (.int 1)) (op2 modD (callR 2 f_l_cell (asCons (rd 0) (asCons (kst (.int 0)) asNil))) (rdB 2))))
    (seqS (setS 4 (op2 addD (kst (.int 1)) (op2 modD (callR 2 f_l_cell (asCons (rd 0) (asCons (kst (.int 1)) asNil))) (rdB 3))))
    (seqS (setS 5 (callR 2 f_built (asCons (rd 1) (asCons (rd 3) asNil))))
    (seqS (ifS (orT (notT (toTru (callR 3 f_is_cover (asCons (rd 1) (asCons (rd 4) (asCons (rd 5) asNil)))))) (notT (toTru (callR 3 f_is_cover (asCons (rd 1) (asCons (rd 3) (asCons (op2 addD (frz (revR (rdB 5))) (rdB 5)) asNil))))))) (retS (kst (.bool false))) SO.nx)
    (seqS (ifS (orT (toB (op2 neD (callR 3 f_trimmed (asCons (rd 1) (asCons (rd 3) (asCons (rd 5) asNil)))) (rdB 5))) (toB (op2 neD (callR 3 f_needless (asCons (rd 1) (asCons (rd 3) (asCons (rd 5) asNil)))) (frz (disp asNil))))) (retS (kst (.bool false))) SO.nx)
    (seqS (ifS (toB (op2 neD (frz (cb sortedD (asCons (callR 3 f_in_order (asCons (rd 1) (asCons (rd 3) (asCons (rd 5) asNil)))) asNil))) (frz (cb sortedD (asCons (rdB 5) asNil))))) (retS (kst (.bool false))) SO.nx)
    (seqS (ifS (notT (toTru (callR 3 f_is_cover (asCons (rd 1) (asCons (rd 4) (asCons (callR 3 f_in_order (asCons (rd 1) (asCons (rd 4) (asCons (rd 5) asNil)))) asNil)))))) (retS (kst (.bool false))) SO.nx)
    (seqS (setS 6 (callR 2 f_possible (asCons (rd 1) (asCons (rd 3) asNil))))
    (seqS (setS 7 (callR 2 f_possible (asCons (rd 1) (asCons (rd 4) asNil))))
    (seqS (forS (toSeq (rd 7)) (tgName 8) g_law_08_b1)
    (seqS (forS (toSeq (rd 6)) (tgName 9) g_law_08_b2)
    (retS (kst (.bool true))))))))))))))))
def f_law_08 : List D → RO := runD 12 g_law_08
def g_look_results_c1 : Rho → Res Bool := (notT (toTru (isiR "bool" (rdB 4))))
def g_look_results : Rho → SO := (seqS (dropS (callR 2 f_look_strength (asCons (rd 0) (asCons (rd 1) asNil))))
    (seqS (dropS (callR 2 f_look_tests (asCons (rd 0) (asCons (rd 2) asNil))))
    (seqS (ifS (orT (notT (toTru (isiR "list" (rdB 3)))) (toB (op2 neD (cb lenD (asCons (rdB 3) asNil)) (cb lenD (asCons (rdB 2) asNil))))) (raiseS "BadResults") SO.nx)
    (ifS (toTru (frz (lc (toSeq (rdB 3)) (tgName 4) g_look_results_c1 (rd 4) [4]))) (raiseS "BadResults") SO.nx))))
def f_look_results : List D → RO := runD 5 g_look_results
def g_results_by_e1 : Rho → Res D := (ofB (notT (toTru (callR 2 f_meets (asCons (rd 2) (asCons (rd 0) asNil))))))
def g_results_by : Rho → SO := (retO (lc (toSeq (rdB 1)) (tgName 2) yes g_results_by_e1 [2]))
def f_results_by : List D → RO := runD 3 g_results_by
def g_suspects_of_c1 : Rho → Res Bool := (toB (op2 eqD (callR 2 f_results_by (asCons (rd 4) (asCons (rd 2) asNil))) (rdB 3)))
def g_suspects_of : Rho → SO := (retO (lc (toSeq (callR 2 f_possible_of (asCons (rd 0) (asCons (rd 1) asNil)))) (tgName 4) g_suspects_of_c1 (rd 4) [4]))
def f_suspects_of : List D → RO := runD 5 g_suspects_of
def g_suspects : Rho → SO := (seqS (dropS (callR 4 f_look_results (asCons (rd 0) (asCons (rd 1) (asCons (rd 2) (asCons (rd 3) asNil))))))
    (retO (callO 4 f_suspects_of (asCons (rd 0) (asCons (rd 1) (asCons (rd 2) (asCons (rd 3) asNil)))))))
def f_suspects : List D → RO := runD 4 g_suspects
def g_next_test_c1 : Rho → Res Bool := (toTru (callR 2 f_meets (asCons (rd 6) (asCons (rd 7) asNil))))
def g_next_test_b1 : Rho → SO := (seqS (setS 8 (cb lenD (asCons (frz (lc (toSeq (rdB 4)) (tgName 7) g_next_test_c1 (rd 7) [7])) asNil)))
    (seqS (setS 9 (cb maxD (asCons (rdB 8) (asCons (op2 subD (cb lenD (asCons (rdB 4) asNil)) (rdB 8)) asNil))))
    (ifS (andT (toB (op2 ltD (rdB 9) (cb lenD (asCons (rdB 4) asNil)))) (orT (toB (isN false (rdB 5))) (toB (op2 ltD (rdB 9) (op2 ixD (rdB 5) (kst (.int 0))))))) (setS 5 (dispT (asCons (rd 9) (asCons (rd 6) asNil)))) SO.nx)))
def g_next_test : Rho → SO := (seqS (setS 4 (callR 4 f_suspects (asCons (rd 0) (asCons (rd 1) (asCons (rd 2) (asCons (rd 3) asNil))))))
    (seqS (setS 5 (kst .none))
    (seqS (forS (toSeq (callR 1 f_tests_of (asCons (rd 0) asNil))) (tgName 6) g_next_test_b1)
    (seqS (ifS (toB (isN false (rdB 5))) (retS (kst .none)) SO.nx)
    (retS (op2 ixD (rdB 5) (kst (.int 1))))))))
def f_next_test : List D → RO := runD 10 g_next_test
def g_most_looked_w1 : Rho → Res Bool := (toB (isN true (rdB 6)))
def g_most_looked_b1 : Rho → SO := (seqS (appS 5 (rd 6))
    (setS 6 (lendD 5 (callR 4 f_next_test (asCons (rd 0) (asCons (rd 1) (asCons (rd 5) (asCons (frz (lendO 5 (callO 2 f_results_by (asCons (rd 4) (asCons (rd 5) asNil))))) asNil))))))))
def g_most_looked_b2 : Rho → SO := (seqS (setO 5 (cb toListD (asCons (rdB 2) asNil)))
    (seqS (setS 6 (lendD 5 (callR 4 f_next_test (asCons (rd 0) (asCons (rd 1) (asCons (rd 5) (asCons (frz (lendO 5 (callO 2 f_results_by (asCons (rd 4) (asCons (rd 5) asNil))))) asNil)))))))
    (seqS (whileS g_most_looked_w1 g_most_looked_b1)
    (setS 3 (cb maxD (asCons (rdB 3) (asCons (op2 subD (cb lenD (asCons (rdB 5) asNil)) (cb lenD (asCons (rdB 2) asNil))) asNil)))))))
def g_most_looked : Rho → SO := (seqS (dropS (callR 2 f_look_strength (asCons (rd 0) (asCons (rd 1) asNil))))
    (seqS (dropS (callR 2 f_look_tests (asCons (rd 0) (asCons (rd 2) asNil))))
    (seqS (setS 3 (kst (.int 0)))
    (seqS (forS (toSeq (callR 2 f_possible_of (asCons (rd 0) (asCons (rd 1) asNil)))) (tgName 4) g_most_looked_b2)
    (retS (rd 3))))))
def f_most_looked : List D → RO := runD 7 g_most_looked
def g_l_next_c1 : Rho → Res Bool := (toTru (callR 2 f_l_meets (asCons (rd 3) (asCons (rd 4) asNil))))
def g_l_next_b1 : Rho → SO := (seqS (setS 5 (cb lenD (asCons (frz (lc (toSeq (rdB 0)) (tgName 4) g_l_next_c1 (rd 4) [4])) asNil)))
    (seqS (setS 6 (cb maxD (asCons (rdB 5) (asCons (op2 subD (cb lenD (asCons (rdB 0) asNil)) (rdB 5)) asNil))))
    (ifS (andT (toB (op2 ltD (rdB 6) (cb lenD (asCons (rdB 0) asNil)))) (orT (toB (isN false (rdB 2))) (toB (op2 ltD (rdB 6) (op2 ixD (rdB 2) (kst (.int 0))))))) (setS 2 (dispT (asCons (rd 6) (asCons (rd 3) asNil)))) SO.nx)))
def g_l_next : Rho → SO := (seqS (setS 2 (kst .none))
    (seqS (forS (toSeq (rd 1)) (tgName 3) g_l_next_b1)
    (seqS (ifS (toB (isN false (rdB 2))) (retS (kst .none)) SO.nx)
    (retS (op2 ixD (rdB 2) (kst (.int 1)))))))
def f_l_next : List D → RO := runD 7 g_l_next
def g_law_15_c1 : Rho → Res Bool := (toB (op2 ltD (op2 ixD (op2 ixD (rdB 2) (negR (kst (.int 1)))) (kst (.int 0))) (kst (.int 3))))
def g_law_15_e1 : Rho → Res D := (ofB (notT (toTru (callR 2 f_l_meets (asCons (rd 8) (asCons (rd 7) asNil))))))
def g_law_15_e2 : Rho → Res D := (ofB (notT (toTru (callR 2 f_l_meets (asCons (rd 8) (asCons (rd 10) asNil))))))
def g_law_15_c2 : Rho → Res Bool := (toB (op2 eqD (frz (lc (toSeq (rdB 4)) (tgName 8) yes g_law_15_e2 [8])) (rdB 9)))
def g_law_15_e3 : Rho → Res D := (callR 2 f_l_meets (asCons (rd 8) (asCons (rd 10) asNil)))
def g_law_15_e4 : Rho → Res D := (callR 2 f_l_meets (asCons (rd 8) (asCons (rd 14) asNil)))
def g_law_15_c3 : Rho → Res Bool := (toB (op2 eqD (frz (lc (toSeq (rdB 4)) (tgName 8) yes g_law_15_e4 [8])) (rdB 13)))
def g_law_15_c4 : Rho → Res Bool := (toB (op2 eqD (callR 2 f_l_meets (asCons (rd 8) (asCons (rd 14) asNil))) (callR 2 f_l_meets (asCons (rd 8) (asCons (rd 10) asNil)))))
def g_law_15_w1 : Rho → Res Bool := (toB (isN true (rdB 8)))
def g_law_15_b1 : Rho → SO := (seqS (setS 16 (op2 addD (rdB 16) (kst (.int 1))))
    (seqS (setS 15 (frz (lc (toSeq (rdB 15)) (tgName 14) g_law_15_c4 (rd 14) [14])))
    (setS 8 (callR 2 f_l_next (asCons (rd 15) (asCons (rd 5) asNil))))))
def g_law_15_b2 : Rho → SO := (seqS (setS 13 (frz (lc (toSeq (rdB 4)) (tgName 8) yes g_law_15_e3 [8])))
    (seqS (setS 15 (frz (lc (toSeq (rdB 6)) (tgName 14) g_law_15_c3 (rd 14) [14])))
    (seqS (setS 16 (kst (.int 0)))
    (seqS (setS 8 (callR 2 f_l_next (asCons (rd 15) (asCons (rd 5) asNil))))
    (seqS (whileS g_law_15_w1 g_law_15_b1)
    (setS 12 (cb maxD (asCons (rdB 12) (asCons (rdB 16) asNil)))))))))
def g_law_15 : Rho → SO := (seqS (setS 1 (callR 2 f_l_book (asCons (rd 0) (asCons (kst (.int 2)) asNil))))
    (seqS (setS 1 (dispT (asCons (sl3 cutD (op2 ixD (rdB 1) (kst (.int 0))) ptN (ptS (kst (.int 3)))) (asCons (cb toTupD (asCons (frz (lc (toSeq (op2 ixD (rdB 1) (kst (.int 1)))) (tgName 2) g_law_15_c1 (rd 2) [2])) asNil)) asNil))))
    (seqS (setS 3 (callR 2 f_l_strength (asCons (rd 1) (asCons (callR 2 f_l_cell (asCons (rd 0) (asCons (kst (.int 0)) asNil))) asNil))))
    (seqS (setS 4 (callR 4 f_l_drawn (asCons (rd 0) (asCons (kst (.int 5)) (asCons (rd 1) (asCons (kst (.int 3)) asNil))))))
    (seqS (setS 5 (callR 1 f_l_tests (asCons (rd 1) asNil)))
    (seqS (setS 6 (callR 2 f_l_possible (asCons (rd 1) (asCons (rd 3) asNil))))
    (seqS (ifS (toB (op2 eqD (rdB 6) (frz (disp asNil)))) (retS (andV (isN false (callR 4 f_next_test (asCons (rd 1) (asCons (rd 3) (asCons (frz (disp asNil)) (asCons (frz (disp asNil)) asNil)))))) (op2 eqD (callR 3 f_most_looked (asCons (rd 1) (asCons (rd 3) (asCons (frz (disp asNil)) asNil)))) (kst (.int 0))))) SO.nx)
    (seqS (setS 7 (op2 ixD (rdB 6) (op2 modD (callR 2 f_l_cell (asCons (rd 0) (asCons (kst (.int 1)) asNil))) (cb lenD (asCons (rdB 6) asNil)))))
    (seqS (setS 9 (frz (lc (toSeq (rdB 4)) (tgName 8) yes g_law_15_e1 [8])))
    (seqS (setS 11 (frz (lc (toSeq (rdB 6)) (tgName 10) g_law_15_c2 (rd 10) [10])))
    (seqS (ifS (toB (op2 neD (callR 4 f_next_test (asCons (rd 1) (asCons (rd 3) (asCons (rd 4) (asCons (rd 9) asNil))))) (callR 2 f_l_next (asCons (rd 11) (asCons (rd 5) asNil))))) (retS (kst (.bool false))) SO.nx)
    (seqS (setS 12 (kst (.int 0)))
    (seqS (forS (toSeq (rd 6)) (tgName 10) g_law_15_b2)
    (retS (op2 eqD (callR 3 f_most_looked (asCons (rd 1) (asCons (rd 3) (asCons (rd 4) asNil)))) (rdB 12))))))))))))))))
def f_law_15 : List D → RO := runD 17 g_law_15
def g_law_07_c1 : Rho → Res Bool := (toB (op2 (inD true) (rdB 6) (rdB 4)))
def g_law_07_b1 : Rho → SO := (ifS (toB (op2 eqD (callR 2 f_l_left (asCons (rd 5) (asCons (op2 addD (sl3 cutD (rdB 3) ptN (ptS (rdB 7))) (sl3 cutD (rdB 3) (ptS (op2 addD (rdB 7) (kst (.int 1)))) ptN)) asNil))) (frz (disp asNil)))) (retS (kst (.bool false))) SO.nx)
def g_law_07_e1 : Rho → Res D := (op2 ixD (rdB 10) (kst (.int 0)))
def g_law_07_b2 : Rho → SO := (seqS (setS 11 (cb toTupD (asCons (frz (lc (toSeq (rdB 9)) (tgName 10) yes g_law_07_e1 [10])) asNil)))
    (dputS 8 (rd 11) (op2 addD (dgetR 8 (rd 11) (kst (.int 0))) (kst (.int 1)))))
def g_law_07_e2 : Rho → Res D := (dgetIR 8 (rd 11))
def g_law_07 : Rho → SO := (seqS (setS 1 (callR 2 f_l_book (asCons (rd 0) (asCons (kst (.int 1)) asNil))))
    (seqS (setS 2 (callR 2 f_l_strength (asCons (rd 1) (asCons (callR 2 f_l_cell (asCons (rd 0) (asCons (kst (.int 0)) asNil))) asNil))))
    (seqS (setS 3 (callR 2 f_built (asCons (rd 1) (asCons (rd 2) asNil))))
    (seqS (setS 4 (callR 1 f_l_tests (asCons (rd 1) asNil)))
    (seqS (setS 5 (callR 2 f_l_possible (asCons (rd 1) (asCons (rd 2) asNil))))
    (seqS (ifS (orT (notT (toTru (isiR "list" (rdB 3)))) (orT (toTru (frz (lc (toSeq (rdB 3)) (tgName 6) g_law_07_c1 (rd 6) [6]))) (toB (op2 neD (callR 2 f_l_left (asCons (rd 5) (asCons (rd 3) asNil))) (frz (disp asNil)))))) (retS (kst (.bool false))) SO.nx)
    (seqS (forS (cb rng1 (asCons (cb lenD (asCons (rdB 3) asNil)) asNil)) (tgName 7) g_law_07_b1)
    (seqS (dnewS 8)
    (seqS (forS (toSeq (rd 5)) (tgName 9) g_law_07_b2)
    (retS (andV (op2 geD (cb lenD (asCons (rdB 3) asNil)) (maxDefR (frz (lc (keysR 8) (tgName 11) yes g_law_07_e2 [11])) (kst (.int 0)))) (op2 eqD (op2 eqD (rdB 3) (frz (disp asNil))) (op2 eqD (rdB 5) (frz (disp asNil)))))))))))))))
def f_law_07 : List D → RO := runD 12 g_law_07
def g_blurred_b1 : Rho → SO := (seqS (setS 5 (cb toTupD (asCons (callR 2 f_results_by (asCons (rd 4) (asCons (rd 2) asNil))) asNil)))
    (dputS 3 (rd 5) (op2 addD (dgetR 3 (rd 5) (frz (disp asNil))) (frz (disp (asCons (rd 4) asNil))))))
def g_blurred_c1 : Rho → Res Bool := (toB (op2 gtD (cb lenD (asCons (dgetIR 3 (rd 5)) asNil)) (kst (.int 1))))
def g_blurred_e1 : Rho → Res D := (dgetIR 3 (rd 5))
def g_blurred : Rho → SO := (seqS (dropS (callR 2 f_look_strength (asCons (rd 0) (asCons (rd 1) asNil))))
    (seqS (dropS (callR 2 f_look_tests (asCons (rd 0) (asCons (rd 2) asNil))))
    (seqS (dnewS 3)
    (seqS (forS (toSeq (callR 2 f_possible_of (asCons (rd 0) (asCons (rd 1) asNil)))) (tgName 4) g_blurred_b1)
    (retO (cb sortedD (asCons (frz (lc (keysR 3) (tgName 5) g_blurred_c1 g_blurred_e1 [5])) asNil)))))))
def f_blurred : List D → RO := runD 6 g_blurred
def g_l_told : Rho → SO := (tryS 6 5 (seqS (ifS (toB (op2 eqD (rdB 0) (kst (.int 0)))) (retO (callO 4 f_suspects (asCons (rd 1) (asCons (rd 2) (asCons (rd 3) (asCons (rd 4) asNil)))))) SO.nx)
    (retS (callR 4 f_next_test (asCons (rd 1) (asCons (rd 2) (asCons (rd 3) (asCons (rd 4) asNil)))))))
    (handK "TestError" fun c => (retO (disp (asCons (xIs 5 "BadResults" c) (asCons (xVe 5) (asCons (kst (.str (Str.ofString "refused"))) asNil)))))))
def f_l_told : List D → RO := runD 6 g_l_told
def g_law_14_e1 : Rho → Res D := (op2 eqD (callR 3 f_l_mix (asCons (op2 addD (callR 2 f_l_cell (asCons (rd 0) (asCons (kst (.int 1)) asNil))) (op2 mulD (kst (.int 13)) (rdB 5))) (asCons (kst (.int 9859)) (asCons (kst (.int 2)) asNil)))) (kst (.int 1)))
def g_law_14_e2 : Rho → Res D := (ofB (notT (toTru (callR 2 f_l_meets (asCons (rd 8) (asCons (rd 7) asNil))))))
def g_law_14_c1 : Rho → Res Bool := (toB (op2 neD (callR 5 f_l_told (asCons (rd 11) (asCons (rd 1) (asCons (rd 2) (asCons (rd 3) (asCons (rd 10) asNil)))))) (frz (disp (asCons (kst (.bool true)) (asCons (kst (.bool true)) (asCons (kst (.str (Str.ofString "refused"))) asNil)))))))
def g_law_14_e3 : Rho → Res D := (ofB (notT (toTru (callR 2 f_l_meets (asCons (rd 8) (asCons (rd 15) asNil))))))
def g_law_14_b1 : Rho → SO := (seqS (setS 16 (frz (lc (toSeq (rdB 3)) (tgName 8) yes g_law_14_e3 [8])))
    (seqS (ifS (toB (op2 eqD (rdB 16) (rdB 6))) (appS 13 (rd 15)) SO.nx)
    (dputS 14 (cb toTupD (asCons (rdB 16) asNil)) (op2 addD (dgetR 14 (cb toTupD (asCons (rdB 16) asNil)) (frz (disp asNil))) (frz (disp (asCons (rd 15) asNil)))))))
def g_law_14_c2 : Rho → Res Bool := (toB (op2 gtD (cb lenD (asCons (dgetIR 14 (rd 16)) asNil)) (kst (.int 1))))
def g_law_14_e4 : Rho → Res D := (dgetIR 14 (rd 16))
def g_law_14 : Rho → SO := (seqS (setS 1 (callR 2 f_l_book (asCons (rd 0) (asCons (kst (.int 2)) asNil))))
    (seqS (setS 2 (callR 2 f_l_strength (asCons (rd 1) (asCons (callR 2 f_l_cell (asCons (rd 0) (asCons (kst (.int 0)) asNil))) asNil))))
    (seqS (setS 3 (callR 4 f_l_drawn (asCons (rd 0) (asCons (kst (.int 5)) (asCons (rd 1) (asCons (kst (.int 6)) asNil))))))
    (seqS (setS 4 (callR 2 f_l_possible (asCons (rd 1) (asCons (rd 2) asNil))))
    (seqS (setS 6 (frz (lc (cb rng1 (asCons (cb lenD (asCons (rdB 3) asNil)) asNil)) (tgName 5) yes g_law_14_e1 [5])))
    (seqS (ifS (andT (toB (op2 neD (rdB 4) (frz (disp asNil)))) (toB (op2 gtD (op2 modD (callR 2 f_l_cell (asCons (rd 0) (asCons (kst (.int 1)) asNil))) (kst (.int 4))) (kst (.int 0))))) (seqS (setS 7 (op2 ixD (rdB 4) (op2 modD (callR 2 f_l_cell (asCons (rd 0) (asCons (kst (.int 1)) asNil))) (cb lenD (asCons (rdB 4) asNil)))))
    (setS 6 (frz (lc (toSeq (rdB 3)) (tgName 8) yes g_law_14_e2 [8])))) SO.nx)
    (seqS (ifS (toB (op2 eqD (op2 modD (callR 2 f_l_cell (asCons (rd 0) (asCons (kst (.int 0)) asNil))) (kst (.int 6))) (kst (.int 5)))) (seqS (setS 9 (frz (disp (asCons (kst .none) (asCons (cb toTupD (asCons (rdB 6) asNil)) (asCons (op2 addD (rdB 6) (frz (disp (asCons (kst (.bool true)) asNil)))) (asCons (op2 mulA (frz (disp (asCons (kst (.int 1)) asNil))) (op2 addD (cb lenD (asCons (rdB 3) asNil)) (kst (.int 1)))) (asCons (op2 addD (sl3 cutD (rdB 6) ptN (ptS (negR (kst (.int 1))))) (frz (disp (asCons (kst .none) asNil)))) (asCons (frz (disp (asCons (rd 6) asNil))) asNil)))))))))
    (seqS (setS 10 (op2 ixD (rdB 9) (op2 modD (callR 2 f_l_cell (asCons (rd 0) (asCons (kst (.int 1)) asNil))) (op2 addD (kst (.int 4)) (cb intD1 (asCons (op2 neD (rdB 3) (frz (disp asNil))) asNil))))))
    (retS (op2 eqD (frz (lc (cb rng1 (asCons (kst (.int 2)) asNil)) (tgName 11) g_law_14_c1 (rd 11) [11])) (frz (disp asNil)))))) SO.nx)
    (seqS (setS 12 (dispT (asCons (frz (cb toListD (asCons (rdB 3) asNil))) (asCons (frz (cb toListD (asCons (rdB 6) asNil))) asNil))))
    (seqS (setO 13 (disp asNil))
    (seqS (dnewS 14)
    (seqS (forS (toSeq (rd 4)) (tgName 15) g_law_14_b1)
    (seqS (ifS (orT (toB (op2 neD (callR 5 f_l_told (asCons (kst (.int 0)) (asCons (rd 1) (asCons (rd 2) (asCons (rd 3) (asCons (rd 6) asNil)))))) (rdB 13))) (toB (op2 neD (dispT (asCons (rd 3) (asCons (rd 6) asNil))) (rdB 12)))) (retS (kst (.bool false))) SO.nx)
    (seqS (setS 17 (frz (cb sortedD (asCons (frz (lc (keysR 14) (tgName 16) g_law_14_c2 g_law_14_e4 [16])) asNil))))
    (seqS (setS 18 (callR 3 f_blurred (asCons (rd 1) (asCons (rd 2) (asCons (rd 3) asNil)))))
    (retS (andV (isiR "list" (rdB 18)) (op2 eqD (rdB 18) (rdB 17))))))))))))))))))
def f_law_14 : List D → RO := runD 19 g_law_14
def g_looked : Rho → SO := (seqS (ifS (notT (toTru (callR 1 f_is_book (asCons (rd 0) asNil)))) (raiseS "TooBig") SO.nx)
    (retS (rd 0)))
def f_looked : List D → RO := runD 1 g_looked
def g_with_setting : Rho → SO := (seqS (dropS (callR 1 f_checked (asCons (rd 0) asNil)))
    (seqS (ifS (notT (toTru (callR 3 f_is_within (asCons (rd 1) (asCons (kst (.int 0)) (asCons (op2 subD (cb lenD (asCons (op2 ixD (rdB 0) (kst (.int 0))) asNil)) (kst (.int 1))) asNil)))))) (raiseS "BadNumber") SO.nx)
    (seqS (setS 2 (op2 ixD (rdB 0) (kst (.int 0))))
    (retS (callR 1 f_looked (asCons (dispT (asCons (op2 addD (op2 addD (sl3 cutD (rdB 2) ptN (ptS (rdB 1))) (dispT (asCons (op2 addD (op2 ixD (rdB 2) (rdB 1)) (kst (.int 1))) asNil))) (sl3 cutD (rdB 2) (ptS (op2 addD (rdB 1) (kst (.int 1)))) ptN)) (asCons (op2 ixD (rdB 0) (kst (.int 1))) asNil))) asNil))))))
def f_with_setting : List D → RO := runD 3 g_with_setting
def g_with_thing : Rho → SO := (seqS (dropS (callR 1 f_checked (asCons (rd 0) asNil)))
    (seqS (ifS (notT (toTru (callR 3 f_is_within (asCons (rd 1) (asCons (kst (.int 1)) (asCons (kst (.int 4)) asNil)))))) (raiseS "BadNumber") SO.nx)
    (retS (callR 1 f_looked (asCons (dispT (asCons (op2 addD (op2 ixD (rdB 0) (kst (.int 0))) (dispT (asCons (rd 1) asNil))) (asCons (op2 ixD (rdB 0) (kst (.int 1))) asNil))) asNil)))))
def f_with_thing : List D → RO := runD 2 g_with_thing
def g_with_ban : Rho → SO := (seqS (dropS (callR 1 f_checked (asCons (rd 0) asNil)))
    (seqS (ifS (toB (op2 eqD (cb lenD (asCons (op2 ixD (rdB 0) (kst (.int 1))) asNil)) (kst (.int 12)))) (raiseS "TooBig") SO.nx)
    (seqS (setS 2 (dispT (asCons (op2 ixD (rdB 0) (kst (.int 0))) (asCons (op2 addD (op2 ixD (rdB 0) (kst (.int 1))) (dispT (asCons (rd 1) asNil))) asNil))))
    (seqS (ifS (notT (toTru (callR 1 f_is_book (asCons (rd 2) asNil)))) (raiseS "BadBook") SO.nx)
    (retS (rd 2))))))
def f_with_ban : List D → RO := runD 3 g_with_ban
def g_l_told_13 : Rho → SO := (tryS 4 3 (seqS (ifS (toB (op2 eqD (rdB 0) (kst (.int 0)))) (retS (callR 2 f_with_setting (asCons (rd 1) (asCons (rd 2) asNil)))) SO.nx)
    (seqS (ifS (toB (op2 eqD (rdB 0) (kst (.int 1)))) (retS (callR 2 f_with_thing (asCons (rd 1) (asCons (rd 2) asNil)))) SO.nx)
    (retS (callR 2 f_with_ban (asCons (rd 1) (asCons (rd 2) asNil))))))
    (handK "TestError" fun c => (retO (disp (asCons (xIs 3 "TooBig" c) (asCons (xIs 3 "BadNumber" c) (asCons (xIs 3 "BadBook" c) asNil)))))))
def f_l_told_13 : List D → RO := runD 4 g_l_told_13
def g_law_13 : Rho → SO := (seqS (tgtS (tgPair 1 2) (callR 2 f_l_book (asCons (rd 0) (asCons (kst (.int 2)) asNil))))
    (seqS (setS 3 (dispT (asCons (rd 1) (asCons (rd 2) asNil))))
    (seqS (setS 4 (op2 modD (callR 2 f_l_cell (asCons (rd 0) (asCons (kst (.int 0)) asNil))) (cb lenD (asCons (rdB 1) asNil))))
    (seqS (setS 5 (dispT (asCons (op2 addD (op2 addD (sl3 cutD (rdB 1) ptN (ptS (rdB 4))) (dispT (asCons (op2 addD (op2 ixD (rdB 1) (rdB 4)) (kst (.int 1))) asNil))) (sl3 cutD (rdB 1) (ptS (op2 addD (rdB 4) (kst (.int 1)))) ptN)) (asCons (rd 2) asNil))))
    (seqS (ifS (toB (op2 neD (callR 3 f_l_told_13 (asCons (kst (.int 0)) (asCons (rd 3) (asCons (rd 4) asNil)))) (rdB 5))) (retS (kst (.bool false))) SO.nx)
    (seqS (setS 6 (op2 addD (kst (.int 1)) (op2 modD (op2 divD (callR 2 f_l_cell (asCons (rd 0) (asCons (kst (.int 0)) asNil))) (kst (.int 4))) (kst (.int 4)))))
    (seqS (ifS (toB (op2 neD (callR 3 f_l_told_13 (asCons (kst (.int 1)) (asCons (rd 3) (asCons (rd 6) asNil)))) (dispT (asCons (op2 addD (rdB 1) (dispT (asCons (rd 6) asNil))) (asCons (rd 2) asNil))))) (retS (kst (.bool false))) SO.nx)
    (seqS (setS 7 (dispT (asCons (dispT (asCons (rd 4) (asCons (op2 modD (callR 2 f_l_cell (asCons (rd 0) (asCons (kst (.int 1)) asNil))) (op2 ixD (rdB 1) (rdB 4))) asNil))) asNil)))
    (seqS (ifS (toB (op2 neD (callR 3 f_l_told_13 (asCons (kst (.int 2)) (asCons (rd 3) (asCons (rd 7) asNil)))) (dispT (asCons (rd 1) (asCons (op2 addD (rdB 2) (dispT (asCons (rd 7) asNil))) asNil))))) (retS (kst (.bool false))) SO.nx)
    (seqS (setS 8 (op2 ixD (frz (disp (asCons (kst .none) (asCons (negR (kst (.int 1))) (asCons (kst (.int 6)) (asCons (kst (.bool true)) (asCons (kst (.str (Str.ofString "1"))) (asCons (frz (disp (asCons (kst (.int 1)) asNil))) (asCons (dispT (asCons (kst (.int 0)) asNil)) asNil))))))))) (op2 modD (callR 2 f_l_cell (asCons (rd 0) (asCons (kst (.int 1)) asNil))) (kst (.int 7)))))
    (seqS (ifS (orT (toB (op2 neD (callR 3 f_l_told_13 (asCons (kst (.int 0)) (asCons (rd 3) (asCons (rd 8) asNil)))) (frz (disp (asCons (kst (.bool false)) (asCons (kst (.bool true)) (asCons (kst (.bool false)) asNil))))))) (toB (op2 neD (callR 3 f_l_told_13 (asCons (kst (.int 1)) (asCons (rd 3) (asCons (rd 8) asNil)))) (frz (disp (asCons (kst (.bool false)) (asCons (kst (.bool true)) (asCons (kst (.bool false)) asNil)))))))) (retS (kst (.bool false))) SO.nx)
    (seqS (setS 9 (frz (disp (asCons (kst .none) (asCons (dispT asNil) (asCons (frz (disp (asCons (dispT (asCons (kst (.int 0)) (asCons (kst (.int 0)) asNil))) asNil))) (asCons (dispT (asCons (dispT (asCons (rd 4) (asCons (op2 ixD (rdB 1) (rdB 4)) asNil))) asNil)) (asCons (dispT (asCons (dispT (asCons (cb lenD (asCons (rdB 1) asNil)) (asCons (kst (.int 0)) asNil))) asNil)) (asCons (dispT (asCons (dispT (asCons (kst (.int 0)) (asCons (kst (.int 0)) asNil))) (asCons (dispT (asCons (kst (.int 0)) (asCons (kst (.int 0)) asNil))) asNil))) (asCons (kst (.int 7)) asNil))))))))))
    (seqS (setS 8 (op2 ixD (rdB 9) (op2 modD (callR 2 f_l_cell (asCons (rd 0) (asCons (kst (.int 0)) asNil))) (kst (.int 7)))))
    (seqS (ifS (toB (op2 neD (callR 3 f_l_told_13 (asCons (kst (.int 2)) (asCons (rd 3) (asCons (rd 8) asNil)))) (frz (disp (asCons (kst (.bool false)) (asCons (kst (.bool false)) (asCons (kst (.bool true)) asNil))))))) (retS (kst (.bool false))) SO.nx)
    (seqS (setS 10 (dispT (asCons (rd 1) (asCons (op2 mulA (dispT (asCons (rd 7) asNil)) (kst (.int 12))) asNil))))
    (seqS (ifS (orT (toB (op2 neD (callR 3 f_l_told_13 (asCons (kst (.int 2)) (asCons (rd 10) (asCons (rd 7) asNil)))) (frz (disp (asCons (kst (.bool true)) (asCons (kst (.bool false)) (asCons (kst (.bool false)) asNil))))))) (toB (op2 neD (callR 3 f_l_told_13 (asCons (kst (.int 2)) (asCons (rd 10) (asCons (kst .none) asNil)))) (frz (disp (asCons (kst (.bool true)) (asCons (kst (.bool false)) (asCons (kst (.bool false)) asNil)))))))) (retS (kst (.bool false))) SO.nx)
    (seqS (setS 11 (op2 ixD (frz (disp (asCons (dispT (asCons (dispT (asCons (kst (.int 4)) (asCons (kst (.int 4)) (asCons (kst (.int 4)) (asCons (kst (.int 4)) asNil))))) (asCons (dispT asNil) asNil))) (asCons (dispT (asCons (dispT (asCons (kst (.int 4)) asNil)) (asCons (dispT asNil) asNil))) (asCons (dispT (asCons (dispT (asCons (op2 subD (kst (.int 5)) (kst (.int 1))) (asCons (kst (.int 1)) asNil))) (asCons (sl3 cutD (rdB 2) ptN (ptS (kst (.int 0)))) asNil))) asNil))))) (op2 modD (callR 2 f_l_cell (asCons (rd 0) (asCons (kst (.int 0)) asNil))) (kst (.int 3)))))
    (seqS (ifS (toB (op2 neD (callR 3 f_l_told_13 (asCons (kst (.int 0)) (asCons (rd 11) (asCons (kst (.int 0)) asNil)))) (frz (disp (asCons (kst (.bool true)) (asCons (kst (.bool false)) (asCons (kst (.bool false)) asNil))))))) (retS (kst (.bool false))) SO.nx)
    (seqS (setS 5 (frz (disp (asCons (kst (.bool true)) (asCons (kst (.bool false)) (asCons (kst (.bool false)) asNil))))))
    (retS (andV (op2 eqD (callR 3 f_l_told_13 (asCons (kst (.int 1)) (asCons (dispT (asCons (op2 mulA (dispT (asCons (kst (.int 1)) asNil)) (kst (.int 6))) (asCons (dispT asNil) asNil))) (asCons (kst (.int 1)) asNil)))) (rdB 5)) (op2 eqD (callR 3 f_l_told_13 (asCons (kst (.int 1)) (asCons (dispT (asCons (dispT (asCons (kst (.int 4)) (asCons (kst (.int 4)) (asCons (kst (.int 4)) (asCons (kst (.int 4)) asNil))))) (asCons (dispT asNil) asNil))) (asCons (kst (.int 2)) asNil)))) (rdB 5)))))))))))))))))))))))
def f_law_13 : List D → RO := runD 12 g_law_13
def g_law_16_c1 : Rho → Res Bool := (toB (op2 ltD (op2 ixD (op2 ixD (rdB 2) (negR (kst (.int 1)))) (kst (.int 0))) (kst (.int 3))))
def g_law_16_e1 : Rho → Res D := (ofB (notT (toTru (callR 2 f_l_meets (asCons (rd 7) (asCons (rd 6) asNil))))))
def g_law_16_w1 : Rho → Res Bool := (andT (toB (isN true (rdB 7))) (toB (op2 leD (rdB 11) (rdB 9))))
def g_law_16_b1 : Rho → SO := (seqS (ifS (toB (op2 (inD true) (rdB 6) (rdB 10))) (retS (kst (.bool false))) SO.nx)
    (seqS (setS 11 (op2 addD (rdB 11) (kst (.int 1))))
    (seqS (appS 5 (rd 7))
    (seqS (appS 8 (ofB (notT (toTru (callR 2 f_l_meets (asCons (rd 7) (asCons (rd 6) asNil)))))))
    (seqS (setS 12 (frz (lendO 8 (lendO 5 (callO 4 f_suspects (asCons (rd 1) (asCons (rd 3) (asCons (rd 5) (asCons (rd 8) asNil)))))))))
    (seqS (ifS (toB (op2 geD (cb lenD (asCons (rdB 12) asNil)) (cb lenD (asCons (rdB 10) asNil)))) (retS (kst (.bool false))) SO.nx)
    (seqS (setS 10 (rd 12))
    (setS 7 (lendD 8 (lendD 5 (callR 4 f_next_test (asCons (rd 1) (asCons (rd 3) (asCons (rd 5) (asCons (rd 8) asNil)))))))))))))))
def g_law_16 : Rho → SO := (seqS (setS 1 (callR 2 f_l_book (asCons (rd 0) (asCons (kst (.int 2)) asNil))))
    (seqS (setS 1 (dispT (asCons (sl3 cutD (op2 ixD (rdB 1) (kst (.int 0))) ptN (ptS (kst (.int 3)))) (asCons (cb toTupD (asCons (frz (lc (toSeq (op2 ixD (rdB 1) (kst (.int 1)))) (tgName 2) g_law_16_c1 (rd 2) [2])) asNil)) asNil))))
    (seqS (setS 3 (callR 2 f_l_strength (asCons (rd 1) (asCons (callR 2 f_l_cell (asCons (rd 0) (asCons (kst (.int 0)) asNil))) asNil))))
    (seqS (setS 4 (callR 2 f_possible (asCons (rd 1) (asCons (rd 3) asNil))))
    (seqS (setO 5 (callO 2 f_built (asCons (rd 1) (asCons (rd 3) asNil))))
    (seqS (ifS (toB (op2 eqD (rdB 4) (frz (disp asNil)))) (retS (op2 eqD (rdB 5) (frz (disp asNil)))) SO.nx)
    (seqS (setS 6 (op2 ixD (rdB 4) (op2 modD (callR 2 f_l_cell (asCons (rd 0) (asCons (kst (.int 1)) asNil))) (cb lenD (asCons (rdB 4) asNil)))))
    (seqS (setO 8 (lc (toSeq (rdB 5)) (tgName 7) yes g_law_16_e1 [7]))
    (seqS (ifS (toB (op2 (inD true) (kst (.bool false)) (rdB 8))) (retS (kst (.bool false))) SO.nx)
    (seqS (setS 9 (lendD 5 (callR 3 f_most_looked (asCons (rd 1) (asCons (rd 3) (asCons (rd 5) asNil))))))
    (seqS (setS 10 (frz (lendO 8 (lendO 5 (callO 4 f_suspects (asCons (rd 1) (asCons (rd 3) (asCons (rd 5) (asCons (rd 8) asNil)))))))))
    (seqS (setS 7 (lendD 8 (lendD 5 (callR 4 f_next_test (asCons (rd 1) (asCons (rd 3) (asCons (rd 5) (asCons (rd 8) asNil))))))))
    (seqS (setS 11 (kst (.int 0)))
    (seqS (whileS g_law_16_w1 g_law_16_b1)
    (seqS (ifS (orT (toB (isN true (rdB 7))) (orT (toB (op2 gtD (rdB 11) (rdB 9))) (toB (op2 (inD true) (rdB 6) (rdB 10))))) (retS (kst (.bool false))) SO.nx)
    (seqS (setS 13 (callR 3 f_blurred (asCons (rd 1) (asCons (rd 3) (asCons (callR 1 f_all_tests (asCons (rd 1) asNil)) asNil)))))
    (retS (orV (op2 (inD false) (rdB 10) (rdB 13)) (op2 eqD (rdB 10) (frz (disp (asCons (rd 6) asNil))))))))))))))))))))))
def f_law_16 : List D → RO := runD 14 g_law_16
def g_look_rows_c1 : Rho → Res Bool := (notT (toTru (callR 3 f_is_within (asCons (rd 3) (asCons (kst (.int 0)) (asCons (kst (.int 99)) asNil))))))
def g_look_rows_b1 : Rho → SO := (ifS (orT (notT (toTru (isiR "tuple" (rdB 2)))) (toTru (frz (lc (toSeq (rdB 2)) (tgName 3) g_look_rows_c1 (rd 3) [3])))) (raiseB (rd 1)) SO.nx)
def g_look_rows : Rho → SO := (seqS (ifS (notT (toTru (isiR "list" (rdB 0)))) (raiseB (kst (.int 0))) SO.nx)
    (forS (toEnum (rd 0)) (tgPair 1 2) g_look_rows_b1))
def f_look_rows : List D → RO := runD 4 g_look_rows
def g_kept_b1 : Rho → SO := (ifS (andT (toTru (callR 2 f_is_row (asCons (op2 ixD (rdB 0) (kst (.int 0))) (asCons (rd 4) asNil)))) (andT (toTru (callR 2 f_is_allowed (asCons (rd 0) (asCons (rd 4) asNil)))) (toB (op2 (inD true) (rdB 4) (rdB 3))))) (appS 3 (rd 4)) SO.nx)
def g_kept_b2 : Rho → SO := (ifS (notT (toTru (callR 2 f_unmet (asCons (rd 5) (asCons (op2 addD (sl3 cutD (rdB 6) ptN (ptS (rdB 7))) (sl3 cutD (rdB 6) (ptS (op2 addD (rdB 7) (kst (.int 1)))) ptN)) asNil))))) (setS 6 (op2 addD (sl3 cutD (rdB 6) ptN (ptS (rdB 7))) (sl3 cutD (rdB 6) (ptS (op2 addD (rdB 7) (kst (.int 1)))) ptN))) SO.nx)
def g_kept : Rho → SO := (seqS (dropS (callR 2 f_look_strength (asCons (rd 0) (asCons (rd 1) asNil))))
    (seqS (dropS (callR 1 f_look_rows (asCons (rd 2) asNil)))
    (seqS (setO 3 (disp asNil))
    (seqS (forS (toSeq (rd 2)) (tgName 4) g_kept_b1)
    (seqS (setS 5 (callR 2 f_possible_of (asCons (rd 0) (asCons (rd 1) asNil))))
    (seqS (setS 6 (frz (lendO 3 (callO 3 f_filled (asCons (rd 0) (asCons (rd 5) (asCons (rd 3) asNil)))))))
    (seqS (forS (cb rng3 (asCons (op2 subD (cb lenD (asCons (rdB 6) asNil)) (kst (.int 1))) (asCons (op2 subD (cb lenD (asCons (rdB 3) asNil)) (kst (.int 1))) (asCons (negR (kst (.int 1))) asNil)))) (tgName 7) g_kept_b2)
    (retS (rd 6)))))))))
def f_kept : List D → RO := runD 8 g_kept
def g_lengthened_e1 : Rho → Res D := (op2 addD (rdB 2) (dispT (asCons (rd 1) asNil)))
def g_lengthened : Rho → SO := (seqS (dropS (callR 1 f_look_rows (asCons (rd 0) asNil)))
    (seqS (ifS (notT (toTru (callR 3 f_is_within (asCons (rd 1) (asCons (kst (.int 0)) (asCons (kst (.int 3)) asNil)))))) (raiseS "BadNumber") SO.nx)
    (retO (lc (toSeq (rdB 0)) (tgName 2) yes g_lengthened_e1 [2]))))
def f_lengthened : List D → RO := runD 3 g_lengthened
def g_l_told_12 : Rho → SO := (tryS 5 4 (seqS (ifS (toB (op2 eqD (rdB 0) (kst (.int 0)))) (retS (callR 3 f_kept (asCons (rd 1) (asCons (rd 2) (asCons (rd 3) asNil))))) SO.nx)
    (retO (callO 2 f_lengthened (asCons (rd 3) (asCons (kst (.int 2)) asNil)))))
    (handK "TestError" fun c => (retO (disp (asCons (xIs 4 "BadTests" c) (asCons (xVe 4) (asCons (kst (.str (Str.ofString "refused"))) (asCons (xAt 4 c) asNil))))))))
def f_l_told_12 : List D → RO := runD 5 g_l_told_12
def g_l_number : Rho → SO := (seqS (tryS 3 2 (dropS (callR 2 f_lengthened (asCons (rd 0) (asCons (rd 1) asNil))))
    (handK "TestError" fun c => (retO (disp (asCons (xIs 2 "BadNumber" c) (asCons (xVe 2) asNil))))))
    (retO (disp asNil)))
def f_l_number : List D → RO := runD 3 g_l_number
def g_l_handed_e1 : Rho → Res D := (op2 addD (rdB 4) (callR 3 f_l_mix (asCons (callR 2 f_l_cell (asCons (rd 0) (asCons (kst (.int 6)) asNil))) (asCons (kst (.int 9883)) (asCons (kst (.int 2)) asNil)))))
def g_l_handed_b1 : Rho → SO := (seqS (setS 5 (cb toTupD (asCons (frz (lc (toSeq (op2 ixD (rdB 1) (kst (.int 0)))) (tgName 4) yes g_l_handed_e1 [4])) asNil)))
    (seqS (setS 6 (callR 1 f_l_rows (asCons (rd 5) asNil)))
    (appS 2 (op2 addD (op2 ixD (rdB 6) (callR 3 f_l_mix (asCons (op2 addD (callR 2 f_l_cell (asCons (rd 0) (asCons (kst (.int 6)) asNil))) (op2 mulD (kst (.int 43)) (rdB 3))) (asCons (kst (.int 9871)) (asCons (cb lenD (asCons (rdB 6) asNil)) asNil))))) (op2 mulA (dispT (asCons (kst (.int 0)) asNil)) (op2 divD (rdB 3) (kst (.int 2))))))))
def g_l_handed : Rho → SO := (seqS (setO 2 (callO 4 f_l_drawn (asCons (rd 0) (asCons (kst (.int 5)) (asCons (rd 1) (asCons (kst (.int 4)) asNil))))))
    (seqS (forS (cb rng1 (asCons (op2 modD (callR 2 f_l_cell (asCons (rd 0) (asCons (kst (.int 1)) asNil))) (kst (.int 4))) asNil)) (tgName 3) g_l_handed_b1)
    (retV 2)))
def f_l_handed : List D → RO := runD 7 g_l_handed
def g_law_12_c1 : Rho → Res Bool := (toB (op2 neD (callR 4 f_l_told_12 (asCons (rd 8) (asCons (rd 1) (asCons (rd 2) (asCons (rd 6) asNil))))) (rdB 7)))
def g_law_12_b1 : Rho → SO := (ifS (andT (toB (op2 (inD false) (rdB 12) (rdB 10))) (toB (op2 (inD true) (rdB 12) (rdB 11)))) (appS 11 (rd 12)) SO.nx)
def g_law_12_c2 : Rho → Res Bool := (toB (op2 (inD true) (rdB 14) (rdB 10)))
def g_law_12_b2 : Rho → SO := (ifS (toB (op2 eqD (callR 2 f_l_left (asCons (rd 15) (asCons (op2 addD (sl3 cutD (rdB 13) ptN (ptS (rdB 4))) (sl3 cutD (rdB 13) (ptS (op2 addD (rdB 4) (kst (.int 1)))) ptN)) asNil))) (frz (disp asNil)))) (retS (kst (.bool false))) SO.nx)
def g_law_12_e1 : Rho → Res D := (op2 addD (rdB 12) (dispT (asCons (kst (.int 2)) asNil)))
def g_law_12 : Rho → SO := (seqS (setS 1 (callR 2 f_l_book (asCons (rd 0) (asCons (kst (.int 2)) asNil))))
    (seqS (setS 2 (callR 2 f_l_strength (asCons (rd 1) (asCons (callR 2 f_l_cell (asCons (rd 0) (asCons (kst (.int 0)) asNil))) asNil))))
    (seqS (setS 3 (callR 2 f_l_handed (asCons (rd 0) (asCons (rd 1) asNil))))
    (seqS (ifS (toB (op2 eqD (op2 modD (op2 divD (callR 2 f_l_cell (asCons (rd 0) (asCons (kst (.int 0)) asNil))) (kst (.int 4))) (kst (.int 5))) (kst (.int 4)))) (seqS (setS 4 (op2 modD (callR 2 f_l_cell (asCons (rd 0) (asCons (kst (.int 1)) asNil))) (op2 addD (cb lenD (asCons (rdB 3) asNil)) (kst (.int 1)))))
    (seqS (setS 5 (op2 ixD (frz (disp (asCons (kst .none) (asCons (frz (disp (asCons (kst (.int 0)) asNil))) (asCons (kst (.int 0)) (asCons (dispT (asCons (negR (kst (.int 1))) asNil)) (asCons (dispT (asCons (kst (.int 100)) asNil)) (asCons (dispT (asCons (kst (.bool true)) asNil)) (asCons (dispT (asCons (kst (.str (Str.ofString "0"))) asNil)) asNil))))))))) (op2 modD (op2 divD (callR 2 f_l_cell (asCons (rd 0) (asCons (kst (.int 0)) asNil))) (kst (.int 20))) (kst (.int 7)))))
    (seqS (setS 6 (op2 addD (op2 addD (sl3 cutD (rdB 3) ptN (ptS (rdB 4))) (frz (disp (asCons (rd 5) asNil)))) (sl3 cutD (rdB 3) (ptS (rdB 4)) ptN)))
    (seqS (ifS (toB (op2 eqD (op2 modD (callR 2 f_l_cell (asCons (rd 0) (asCons (kst (.int 1)) asNil))) (kst (.int 5))) (kst (.int 4)))) (seqS (setS 6 (cb toTupD (asCons (rdB 3) asNil)))
    (setS 4 (kst (.int 0)))) SO.nx)
    (seqS (setS 7 (frz (disp (asCons (kst (.bool true)) (asCons (kst (.bool true)) (asCons (kst (.str (Str.ofString "refused"))) (asCons (rd 4) asNil)))))))
    (retS (op2 eqD (frz (lc (cb rng1 (asCons (kst (.int 2)) asNil)) (tgName 8) g_law_12_c1 (rd 8) [8])) (frz (disp asNil))))))))) SO.nx)
    (seqS (setS 9 (frz (cb toListD (asCons (rdB 3) asNil))))
    (seqS (setS 10 (callR 1 f_l_tests (asCons (rd 1) asNil)))
    (seqS (setO 11 (disp asNil))
    (seqS (forS (toSeq (rd 3)) (tgName 12) g_law_12_b1)
    (seqS (setS 13 (callR 4 f_l_told_12 (asCons (kst (.int 0)) (asCons (rd 1) (asCons (rd 2) (asCons (rd 3) asNil))))))
    (seqS (ifS (orT (toB (op2 neD (rdB 3) (rdB 9))) (orT (toB (op2 neD (sl3 cutD (rdB 13) ptN (ptS (cb lenD (asCons (rdB 11) asNil)))) (rdB 11))) (toTru (frz (lc (toSeq (rdB 13)) (tgName 14) g_law_12_c2 (rd 14) [14]))))) (retS (kst (.bool false))) SO.nx)
    (seqS (setS 15 (callR 2 f_l_possible (asCons (rd 1) (asCons (rd 2) asNil))))
    (seqS (ifS (toB (op2 neD (callR 2 f_l_left (asCons (rd 15) (asCons (rd 13) asNil))) (frz (disp asNil)))) (retS (kst (.bool false))) SO.nx)
    (seqS (forS (cb rng2 (asCons (cb lenD (asCons (rdB 11) asNil)) (asCons (cb lenD (asCons (rdB 13) asNil)) asNil))) (tgName 4) g_law_12_b2)
    (seqS (setS 5 (op2 ixD (frz (disp (asCons (kst .none) (asCons (negR (kst (.int 1))) (asCons (kst (.int 4)) (asCons (kst (.bool true)) (asCons (kst (.str (Str.ofString "1"))) asNil))))))) (op2 modD (callR 2 f_l_cell (asCons (rd 0) (asCons (kst (.int 1)) asNil))) (kst (.int 5)))))
    (seqS (ifS (toB (op2 neD (callR 2 f_l_number (asCons (rd 3) (asCons (rd 5) asNil))) (frz (disp (asCons (kst (.bool true)) (asCons (kst (.bool true)) asNil)))))) (retS (kst (.bool false))) SO.nx)
    (seqS (setS 16 (frz (lc (toSeq (rdB 3)) (tgName 12) yes g_law_12_e1 [12])))
    (retS (andV (op2 eqD (callR 4 f_l_told_12 (asCons (kst (.int 1)) (asCons (rd 1) (asCons (rd 2) (asCons (rd 3) asNil))))) (rdB 16)) (op2 eqD (rdB 3) (rdB 9))))))))))))))))))))
def f_law_12 : List D → RO := runD 17 g_law_12
def g__wall_w1 : Rho → Res Bool := (toTru (kst (.bool true)))
def g__wall_b1 : Rho → SO := SO.nx
def g__wall : Rho → SO := (whileS g__wall_w1 g__wall_b1)
def f__wall : List D → RO := runD 1 g__wall
def g_look_small : Rho → SO := (seqS (dropS (callR 2 f_look_strength (asCons (rd 0) (asCons (rd 1) asNil))))
    (ifS (toB (op2 gtD (cb lenD (asCons (callR 1 f_tests_of (asCons (rd 0) asNil)) asNil)) (kst (.int 24)))) (raiseS "TooBig") SO.nx))
def f_look_small : List D → RO := runD 2 g_look_small
def g_fewest_w1 : Rho → Res Bool := (toTru (kst (.bool true)))
def g_fewest_b1 : Rho → SO := (seqS never
    (seqS (ifS (toB (isN true (rdB 4))) (retS (rd 4)) SO.nx)
    (augS 3 (kst (.int 1)))))
def g_fewest : Rho → SO := (seqS (dropS (callR 2 f_look_small (asCons (rd 0) (asCons (rd 1) asNil))))
    (seqS never
    (seqS (setS 3 (kst (.int 0)))
    (whileS g_fewest_w1 g_fewest_b1))))
def f_fewest : List D → RO := runD 5 g_fewest
def g_figure_in : Rho → SO := (seqS (ifS (orT (toB (op2 neD (cb lenD (asCons (rdB 0) asNil)) (kst (.int 1)))) (toB (op2 (inS true) (rdB 0) (kst (.str (Str.ofString "0123456789")))))) (raiseS "BadText") SO.nx)
    (retS (idxSR (kst (.str (Str.ofString "0123456789"))) (rdB 0))))
def f_figure_in : List D → RO := runD 1 g_figure_in
def g_pair_in : Rho → SO := (seqS (setS 1 (splitR (rdB 0) (kst (.str (Str.ofString ":")))))
    (seqS (ifS (toB (op2 neD (cb lenD (asCons (rdB 1) asNil)) (kst (.int 2)))) (raiseS "BadText") SO.nx)
    (retS (dispT (asCons (callR 1 f_figure_in (asCons (op2 ixD (rdB 1) (kst (.int 0))) asNil)) (asCons (callR 1 f_figure_in (asCons (op2 ixD (rdB 1) (kst (.int 1))) asNil)) asNil))))))
def f_pair_in : List D → RO := runD 2 g_pair_in
def g_read_e1 : Rho → Res D := (splitR (rdB 1) (kst (.str (Str.ofString " "))))
def g_read_e2 : Rho → Res D := (callR 1 f_pair_in (asCons (rd 4) asNil))
def g_read_b1 : Rho → SO := (seqS (ifS (toB (op2 neD (op2 ixD (rdB 1) (kst (.int 0))) (kst (.str (Str.ofString "ban"))))) (raiseS "BadText") SO.nx)
    (appS 3 (cb toTupD (asCons (frz (lcX (toSeq (sl3 cutD (rdB 1) (ptS (kst (.int 1))) ptN)) (tgName 4) yes g_read_e2 [4])) asNil))))
def g_read_e3 : Rho → Res D := (callR 1 f_figure_in (asCons (rd 4) asNil))
def g_read : Rho → SO := (seqS (ifS (notT (toTru (isiR "str" (rdB 0)))) (raiseS "BadText") SO.nx)
    (seqS (setS 2 (frz (lc (toSeq (splitR (rdB 0) (kst (.str (Str.ofString "\n"))))) (tgName 1) yes g_read_e1 [1])))
    (seqS (ifS (orT (toB (op2 ltD (cb lenD (asCons (rdB 2) asNil)) (kst (.int 2)))) (orT (toB (op2 neD (op2 ixD (rdB 2) (negR (kst (.int 1)))) (frz (disp (asCons (kst (.str (Str.ofString ""))) asNil))))) (toB (op2 neD (op2 ixD (op2 ixD (rdB 2) (kst (.int 0))) (kst (.int 0))) (kst (.str (Str.ofString "settings"))))))) (raiseS "BadText") SO.nx)
    (seqS (setO 3 (disp asNil))
    (seqS (forS (toSeq (sl3 cutD (rdB 2) (ptS (kst (.int 1))) (ptS (negR (kst (.int 1)))))) (tgName 1) g_read_b1)
    (seqS (setS 5 (dispT (asCons (cb toTupD (asCons (frz (lcX (toSeq (sl3 cutD (op2 ixD (rdB 2) (kst (.int 0))) (ptS (kst (.int 1))) ptN)) (tgName 4) yes g_read_e3 [4])) asNil)) (asCons (cb toTupD (asCons (rdB 3) asNil)) asNil))))
    (seqS (ifS (notT (toTru (callR 1 f_is_book (asCons (rd 5) asNil)))) (raiseS "BadText") SO.nx)
    (retS (rd 5)))))))))
def f_read : List D → RO := runD 6 g_read
def g_l_deed : Rho → SO := (seqS (setS 1 (dispT (asCons (dispT (asCons (kst (.int 2)) (asCons (kst (.int 2)) asNil))) (asCons (dispT asNil) asNil))))
    (seqS (ifS (toB (op2 eqD (rdB 0) (kst (.int 0)))) (retS (callR 1 f_checked (asCons (dispT asNil) asNil))) SO.nx)
    (seqS (ifS (toB (op2 eqD (rdB 0) (kst (.int 1)))) (retO (callO 2 f_possible (asCons (rd 1) (asCons (kst (.int 3)) asNil)))) SO.nx)
    (seqS (ifS (toB (op2 eqD (rdB 0) (kst (.int 2)))) (retO (callO 3 f_missing (asCons (rd 1) (asCons (kst (.int 1)) (asCons (frz (disp (asCons (dispT (asCons (kst (.int 2)) (asCons (kst (.int 0)) asNil))) asNil))) asNil))))) SO.nx)
    (seqS (ifS (toB (op2 eqD (rdB 0) (kst (.int 3)))) (retS (callR 2 f_with_setting (asCons (rd 1) (asCons (kst (.int 2)) asNil)))) SO.nx)
    (seqS (ifS (toB (op2 eqD (rdB 0) (kst (.int 4)))) (retO (callO 4 f_suspects (asCons (rd 1) (asCons (kst (.int 1)) (asCons (frz (disp (asCons (dispT (asCons (kst (.int 0)) (asCons (kst (.int 0)) asNil))) asNil))) (asCons (frz (disp asNil)) asNil)))))) SO.nx)
    (seqS (ifS (toB (op2 eqD (rdB 0) (kst (.int 5)))) (retS (callR 2 f_fewest (asCons (dispT (asCons (dispT (asCons (kst (.int 3)) (asCons (kst (.int 3)) (asCons (kst (.int 3)) asNil)))) (asCons (dispT asNil) asNil))) (asCons (kst (.int 1)) asNil)))) SO.nx)
    (retS (callR 1 f_read (asCons (kst (.str (Str.ofString ""))) asNil))))))))))
def f_l_deed : List D → RO := runD 2 g_l_deed
def g_l_kinds_of : Rho → SO := (seqS (setS 1 (frz (disp asNil)))
    (seqS (tryS 3 2 (dropS (callR 1 f_l_deed (asCons (rd 0) asNil)))
    (handK "TestError" fun c => (seqS (setS 1 (frz (disp (asCons (xIs 2 "BadBook" c) (asCons (xIs 2 "BadStrength" c) (asCons (xIs 2 "BadTests" c) asNil))))))
    (seqS (setS 1 (op2 addD (rdB 1) (frz (disp (asCons (xIs 2 "BadNumber" c) asNil)))))
    (setS 1 (op2 addD (rdB 1) (frz (disp (asCons (xIs 2 "BadResults" c) (asCons (xIs 2 "TooBig" c) (asCons (xIs 2 "BadText" c) asNil)))))))))))
    (retS (rd 1))))
def f_l_kinds_of : List D → RO := runD 3 g_l_kinds_of
def g_law_20_e1 : Rho → Res D := (op2 eqD (rdB 2) (rdB 1))
def g_law_20 : Rho → SO := (seqS (setS 1 (op2 modD (callR 2 f_l_cell (asCons (rd 0) (asCons (kst (.int 0)) asNil))) (kst (.int 7))))
    (retS (op2 eqD (callR 1 f_l_kinds_of (asCons (rd 1) asNil)) (frz (lc (cb rng1 (asCons (kst (.int 7)) asNil)) (tgName 2) yes g_law_20_e1 [2])))))
def f_law_20 : List D → RO := runD 3 g_law_20
def g_apart : Rho → SO := (seqS (dropS (callR 2 f_look_small (asCons (rd 0) (asCons (rd 1) asNil))))
    never)
def f_apart : List D → RO := runD 2 g_apart
def g_look_many : Rho → SO := (ifS (notT (toTru (callR 3 f_is_within (asCons (rd 0) (asCons (kst (.int 0)) (asCons (kst (.int 30)) asNil)))))) (raiseS "BadNumber") SO.nx)
def f_look_many : List D → RO := runD 1 g_look_many
def g_tree : Rho → SO := (seqS never
    (seqS (ifS (toB (op2 eqD (rdB 2) (kst (.int 0)))) (retS (dispT (asCons (rd 4) (asCons (dispT asNil) asNil)))) SO.nx)
    (seqS (setO 5 (disp asNil))
    (seqS never
    (retS (dispT (asCons (rd 4) (asCons (cb toTupD (asCons (rdB 5) asNil)) asNil))))))))
def f_tree : List D → RO := runD 7 g_tree
def g_paper : Rho → SO := (seqS (dropS (callR 2 f_look_small (asCons (rd 0) (asCons (rd 1) asNil))))
    (seqS (dropS (callR 1 f_look_many (asCons (rd 2) asNil)))
    (seqS never
    (seqS never
    (seqS (ifS (toB (op2 gtD (cb lenD (asCons (rdB 4) asNil)) (rdB 2))) (retS (dispT (asCons (kst (.str (Str.ofString "apart"))) (asCons (sl3 cutD (rdB 4) ptN (ptS (op2 addD (rdB 2) (kst (.int 1))))) asNil)))) SO.nx)
    (seqS never
    never))))))
def f_paper : List D → RO := runD 5 g_paper
def g_holds_apart_c1 : Rho → Res Bool := (notT (toTru (callR 4 f_is_meeting (asCons (op2 ixD (rdB 0) (kst (.int 0))) (asCons (rd 4) (asCons (rd 1) (asCons (rd 1) asNil)))))))
def g_holds_apart_c2 : Rho → Res Bool := (toTru (callR 2 f_meets (asCons (rd 7) (asCons (rd 4) asNil))))
def g_holds_apart_c3 : Rho → Res Bool := (toTru (callR 2 f_meets (asCons (rd 7) (asCons (rd 9) asNil))))
def g_holds_apart_b1 : Rho → SO := (ifS (toTru (frz (lc (toSeq (rdB 8)) (tgName 7) g_holds_apart_c3 (rd 7) [7]))) (retS (kst (.bool false))) SO.nx)
def g_holds_apart_b2 : Rho → SO := (seqS (setS 8 (frz (lc (toSeq (rdB 5)) (tgName 7) g_holds_apart_c2 (rd 7) [7])))
    (seqS (forS (toSeq (sl3 cutD (rdB 3) ptN (ptS (rdB 6)))) (tgName 9) g_holds_apart_b1)
    (ifS (notT (toTru (rdB 8))) (retS (kst (.bool false))) SO.nx)))
def g_holds_apart : Rho → SO := (seqS (ifS (orT (notT (toTru (isiR "list" (rdB 3)))) (toB (op2 leD (cb lenD (asCons (rdB 3) asNil)) (rdB 2)))) (retS (kst (.bool false))) SO.nx)
    (seqS (ifS (toTru (frz (lc (toSeq (rdB 3)) (tgName 4) g_holds_apart_c1 (rd 4) [4]))) (retS (kst (.bool false))) SO.nx)
    (seqS (setS 5 (callR 1 f_tests_of (asCons (rd 0) asNil)))
    (seqS (forS (toEnum (rd 3)) (tgPair 6 4) g_holds_apart_b2)
    (retS (kst (.bool true)))))))
def f_holds_apart : List D → RO := runD 10 g_holds_apart
def g_holds_tree_c1 : Rho → Res Bool := (toTru (callR 2 f_meets (asCons (rd 5) (asCons (op2 ixD (rdB 4) (kst (.int 0))) asNil))))
def g_holds_tree : Rho → SO := (seqS (ifS (orT (notT (toTru (isiR "tuple" (rdB 4)))) (orT (toB (op2 neD (cb lenD (asCons (rdB 4) asNil)) (kst (.int 2)))) (notT (toTru (callR 4 f_is_meeting (asCons (op2 ixD (rdB 0) (kst (.int 0))) (asCons (op2 ixD (rdB 4) (kst (.int 0))) (asCons (rd 1) (asCons (rd 1) asNil))))))))) (retS (kst (.bool false))) SO.nx)
    (seqS (setS 6 (frz (lc (toSeq (callR 1 f_tests_of (asCons (rd 0) asNil))) (tgName 5) g_holds_tree_c1 (rd 5) [5])))
    (seqS (ifS (orT (notT (toTru (rdB 6))) (orT (notT (toTru (isiR "tuple" (op2 ixD (rdB 4) (kst (.int 1)))))) (notT (toTru (callR 2 f_unmet (asCons (frz (disp (asCons (op2 ixD (rdB 4) (kst (.int 0))) asNil))) (asCons (rd 2) asNil))))))) (retS (kst (.bool false))) SO.nx)
    (seqS (ifS (toB (op2 eqD (rdB 3) (kst (.int 0)))) (retS (op2 eqD (op2 ixD (rdB 4) (kst (.int 1))) (dispT asNil))) SO.nx)
    (seqS (ifS (toB (op2 neD (cb lenD (asCons (op2 ixD (rdB 4) (kst (.int 1))) asNil)) (cb lenD (asCons (rdB 6) asNil)))) (retS (kst (.bool false))) SO.nx)
    (seqS never
    (retS (kst (.bool true)))))))))
def f_holds_tree : List D → RO := runD 8 g_holds_tree
def g_is_paper : Rho → SO := (seqS (dropS (callR 2 f_look_strength (asCons (rd 0) (asCons (rd 1) asNil))))
    (seqS (dropS (callR 1 f_look_many (asCons (rd 2) asNil)))
    (seqS (ifS (orT (notT (toTru (isiR "tuple" (rdB 3)))) (orT (toB (op2 neD (cb lenD (asCons (rdB 3) asNil)) (kst (.int 2)))) (notT (toTru (isiR "str" (op2 ixD (rdB 3) (kst (.int 0)))))))) (retS (kst (.bool false))) SO.nx)
    (seqS (ifS (toB (op2 eqD (op2 ixD (rdB 3) (kst (.int 0))) (kst (.str (Str.ofString "apart"))))) (retS (callR 4 f_holds_apart (asCons (rd 0) (asCons (rd 1) (asCons (rd 2) (asCons (op2 ixD (rdB 3) (kst (.int 1))) asNil)))))) SO.nx)
    (retS (andV (op2 eqD (op2 ixD (rdB 3) (kst (.int 0))) (kst (.str (Str.ofString "tree")))) (callR 5 f_holds_tree (asCons (rd 0) (asCons (rd 1) (asCons (frz (disp asNil)) (asCons (rd 2) (asCons (op2 ixD (rdB 3) (kst (.int 1))) asNil))))))))))))
def f_is_paper : List D → RO := runD 4 g_is_paper
def g_shown_e1 : Rho → Res D := (cb strD1 (asCons (rdB 1) asNil))
def g_shown_e2 : Rho → Res D := (op2 addD (op2 addD (cb strD1 (asCons (op2 ixD (rdB 4) (kst (.int 0))) asNil)) (kst (.str (Str.ofString ":")))) (cb strD1 (asCons (op2 ixD (rdB 4) (kst (.int 1))) asNil)))
def g_shown_b1 : Rho → SO := (setS 2 (op2 addD (op2 addD (rdB 2) (joinR (kst (.str (Str.ofString " "))) (op2 addD (frz (disp (asCons (kst (.str (Str.ofString "ban"))) asNil))) (frz (lc (toSeq (rdB 3)) (tgName 4) yes g_shown_e2 [4]))))) (kst (.str (Str.ofString "\n")))))
def g_shown : Rho → SO := (seqS (dropS (callR 1 f_checked (asCons (rd 0) asNil)))
    (seqS (setS 2 (op2 addD (joinR (kst (.str (Str.ofString " "))) (op2 addD (frz (disp (asCons (kst (.str (Str.ofString "settings"))) asNil))) (frz (lc (toSeq (op2 ixD (rdB 0) (kst (.int 0)))) (tgName 1) yes g_shown_e1 [1])))) (kst (.str (Str.ofString "\n")))))
    (seqS (forS (toSeq (op2 ixD (rdB 0) (kst (.int 1)))) (tgName 3) g_shown_b1)
    (retS (rd 2)))))
def f_shown : List D → RO := runD 5 g_shown
def g_l_spoilt_b1 : Rho → SO := (appS 5 (dispT (asCons (rd 2) (asCons (op2 addD (rdB 3) (dispT (asCons (rd 7) asNil))) asNil))))
def g_l_spoilt : Rho → SO := (seqS (tgtS (tgPair 2 3) (rd 0))
    (seqS (setS 4 (dispT (asCons (dispT (asCons (kst (.int 0)) (asCons (kst (.int 0)) asNil))) asNil)))
    (seqS (setO 5 (disp (asCons (frz (cb toListD (asCons (rdB 0) asNil))) (asCons (kst .none) (asCons (sl3 cutD (rdB 0) ptN (ptS (kst (.int 1)))) (asCons (op2 addD (rdB 0) (dispT (asCons (kst (.int 0)) asNil))) (asCons (dispT (asCons (dispT asNil) (asCons (rd 3) asNil))) (asCons (dispT (asCons (frz (cb toListD (asCons (rdB 2) asNil))) (asCons (rd 3) asNil))) (asCons (dispT (asCons (op2 addD (sl3 cutD (rdB 2) ptN (ptS (negR (kst (.int 1))))) (dispT (asCons (kst (.int 0)) asNil))) (asCons (dispT asNil) asNil))) asNil)))))))))
    (seqS (setO 5 (op2 catD (rdB 5) (frz (disp (asCons (dispT (asCons (op2 addD (sl3 cutD (rdB 2) ptN (ptS (negR (kst (.int 1))))) (dispT (asCons (kst (.int 5)) asNil))) (asCons (dispT asNil) asNil))) (asCons (dispT (asCons (dispT (asCons (kst (.bool true)) asNil)) (asCons (dispT asNil) asNil))) (asCons (dispT (asCons (op2 mulA (dispT (asCons (kst (.int 4)) asNil)) (kst (.int 5))) (asCons (dispT asNil) asNil))) (asCons (dispT (asCons (op2 mulA (dispT (asCons (kst (.int 1)) asNil)) (kst (.int 7))) (asCons (dispT asNil) asNil))) asNil))))))))
    (seqS (setO 5 (op2 catD (rdB 5) (frz (disp (asCons (dispT (asCons (rd 2) (asCons (frz (cb toListD (asCons (rdB 3) asNil))) asNil))) (asCons (dispT (asCons (rd 2) (asCons (op2 mulA (dispT (asCons (rd 4) asNil)) (kst (.int 13))) asNil))) asNil))))))
    (seqS (setS 6 (frz (disp (asCons (dispT asNil) (asCons (frz (disp (asCons (dispT (asCons (kst (.int 0)) (asCons (kst (.int 0)) asNil))) asNil))) (asCons (dispT (asCons (dispT (asCons (kst (.int 0)) asNil)) asNil)) (asCons (dispT (asCons (dispT (asCons (kst (.int 0)) (asCons (op2 ixD (rdB 2) (kst (.int 0))) asNil))) asNil)) (asCons (dispT (asCons (dispT (asCons (cb lenD (asCons (rdB 2) asNil)) (asCons (kst (.int 0)) asNil))) asNil)) (asCons (dispT (asCons (dispT (asCons (kst (.int 0)) (asCons (kst (.int 0)) asNil))) (asCons (dispT (asCons (kst (.int 0)) (asCons (kst (.int 0)) asNil))) asNil))) (asCons (dispT (asCons (dispT (asCons (kst (.int 0)) (asCons (kst (.bool true)) asNil))) asNil)) asNil))))))))))
    (seqS (forS (toSeq (rd 6)) (tgName 7) g_l_spoilt_b1)
    (retS (op2 ixD (rdB 5) (op2 modD (rdB 1) (kst (.int 20))))))))))))
def f_l_spoilt : List D → RO := runD 8 g_l_spoilt
def g_l_deed_01 : Rho → SO := (seqS (ifS (toB (op2 eqD (rdB 0) (kst (.int 0)))) (retS (callR 1 f_checked (asCons (rd 1) asNil))) SO.nx)
    (seqS (ifS (toB (op2 eqD (rdB 0) (kst (.int 1)))) (retO (callO 1 f_all_tests (asCons (rd 1) asNil))) SO.nx)
    (seqS (ifS (toB (op2 eqD (rdB 0) (kst (.int 2)))) (retO (callO 2 f_all_meetings (asCons (rd 1) (asCons (kst .none) asNil)))) SO.nx)
    (seqS (ifS (toB (op2 eqD (rdB 0) (kst (.int 3)))) (retO (callO 2 f_possible (asCons (rd 1) (asCons (kst .none) asNil)))) SO.nx)
    (seqS (ifS (toB (op2 eqD (rdB 0) (kst (.int 4)))) (retO (callO 2 f_impossible (asCons (rd 1) (asCons (kst .none) asNil)))) SO.nx)
    (seqS (ifS (toB (op2 eqD (rdB 0) (kst (.int 5)))) (retO (callO 1 f_whole_bans (asCons (rd 1) asNil))) SO.nx)
    (seqS (ifS (toB (op2 eqD (rdB 0) (kst (.int 6)))) (retO (callO 3 f_missing (asCons (rd 1) (asCons (kst .none) (asCons (kst .none) asNil))))) SO.nx)
    (seqS (ifS (toB (op2 eqD (rdB 0) (kst (.int 7)))) (retO (callO 3 f_needless (asCons (rd 1) (asCons (kst .none) (asCons (kst .none) asNil))))) SO.nx)
    (seqS (ifS (toB (op2 eqD (rdB 0) (kst (.int 8)))) (retO (callO 3 f_trimmed (asCons (rd 1) (asCons (kst .none) (asCons (kst .none) asNil))))) SO.nx)
    (retO (callO 3 f_in_order (asCons (rd 1) (asCons (kst .none) (asCons (kst .none) asNil))))))))))))))
def f_l_deed_01 : List D → RO := runD 2 g_l_deed_01
def g_l_more : Rho → SO := (seqS (ifS (toB (op2 eqD (rdB 0) (kst (.int 0)))) (retO (callO 2 f_built (asCons (rd 1) (asCons (kst .none) asNil)))) SO.nx)
    (seqS (ifS (toB (op2 eqD (rdB 0) (kst (.int 1)))) (retS (callR 2 f_fewest (asCons (rd 1) (asCons (kst .none) asNil)))) SO.nx)
    (seqS (ifS (toB (op2 eqD (rdB 0) (kst (.int 2)))) (retS (callR 2 f_apart (asCons (rd 1) (asCons (kst .none) asNil)))) SO.nx)
    (seqS (ifS (toB (op2 eqD (rdB 0) (kst (.int 3)))) (retS (callR 3 f_paper (asCons (rd 1) (asCons (kst .none) (asCons (kst .none) asNil))))) SO.nx)
    (seqS (ifS (toB (op2 eqD (rdB 0) (kst (.int 4)))) (retS (callR 4 f_is_paper (asCons (rd 1) (asCons (kst .none) (asCons (kst .none) (asCons (kst .none) asNil)))))) SO.nx)
    (seqS (ifS (toB (op2 eqD (rdB 0) (kst (.int 5)))) (retS (callR 2 f_with_setting (asCons (rd 1) (asCons (kst .none) asNil)))) SO.nx)
    (seqS (ifS (toB (op2 eqD (rdB 0) (kst (.int 6)))) (retS (callR 2 f_with_ban (asCons (rd 1) (asCons (kst .none) asNil)))) SO.nx)
    (seqS (ifS (toB (op2 eqD (rdB 0) (kst (.int 7)))) (retS (callR 3 f_kept (asCons (rd 1) (asCons (kst .none) (asCons (kst .none) asNil))))) SO.nx)
    (seqS (ifS (toB (op2 eqD (rdB 0) (kst (.int 8)))) (retO (callO 4 f_suspects (asCons (rd 1) (asCons (kst .none) (asCons (kst .none) (asCons (kst .none) asNil)))))) SO.nx)
    (seqS (ifS (toB (op2 eqD (rdB 0) (kst (.int 9)))) (retO (callO 3 f_blurred (asCons (rd 1) (asCons (kst .none) (asCons (kst .none) asNil))))) SO.nx)
    (retS (callR 1 f_shown (asCons (rd 1) asNil)))))))))))))
def f_l_more : List D → RO := runD 2 g_l_more
def g_l_told_01 : Rho → SO := (seqS (tryS 3 2 (ifS (toB (op2 ltD (rdB 0) (kst (.int 10)))) (dropS (callR 2 f_l_deed_01 (asCons (rd 0) (asCons (rd 1) asNil)))) (dropS (callR 2 f_l_more (asCons (op2 subD (rdB 0) (kst (.int 10))) (asCons (rd 1) asNil)))))
    (handK "TestError" fun c => (retO (disp (asCons (xIs 2 "BadBook" c) (asCons (xVe 2) asNil))))))
    (retO (disp asNil)))
def f_l_told_01 : List D → RO := runD 3 g_l_told_01
def g_law_01_c1 : Rho → Res Bool := (toB (op2 neD (callR 2 f_l_told_01 (asCons (rd 3) (asCons (rd 2) asNil))) (frz (disp (asCons (kst (.bool true)) (asCons (kst (.bool true)) asNil))))))
def g_law_01 : Rho → SO := (seqS (setS 1 (callR 2 f_l_book (asCons (rd 0) (asCons (kst (.int 2)) asNil))))
    (seqS (ifS (toB (op2 eqD (op2 modD (callR 2 f_l_cell (asCons (rd 0) (asCons (kst (.int 0)) asNil))) (kst (.int 3))) (kst (.int 0)))) (retS (op2 eqD (callR 1 f_checked (asCons (rd 1) asNil)) (rdB 1))) SO.nx)
    (seqS (setS 2 (callR 2 f_l_spoilt (asCons (rd 1) (asCons (callR 2 f_l_cell (asCons (rd 0) (asCons (kst (.int 1)) asNil))) asNil))))
    (retS (op2 eqD (frz (lc (cb rng1 (asCons (kst (.int 21)) asNil)) (tgName 3) g_law_01_c1 (rd 3) [3])) (frz (disp asNil)))))))
def f_law_01 : List D → RO := runD 4 g_law_01
def g_l_by_strength : Rho → SO := (seqS (ifS (toB (op2 eqD (rdB 0) (kst (.int 0)))) (retO (callO 2 f_all_meetings (asCons (rd 1) (asCons (rd 2) asNil)))) SO.nx)
    (seqS (ifS (toB (op2 eqD (rdB 0) (kst (.int 1)))) (retO (callO 2 f_possible (asCons (rd 1) (asCons (rd 2) asNil)))) SO.nx)
    (seqS (ifS (toB (op2 eqD (rdB 0) (kst (.int 2)))) (retO (callO 2 f_impossible (asCons (rd 1) (asCons (rd 2) asNil)))) SO.nx)
    (seqS (ifS (toB (op2 eqD (rdB 0) (kst (.int 3)))) (retO (callO 3 f_missing (asCons (rd 1) (asCons (rd 2) (asCons (kst .none) asNil))))) SO.nx)
    (seqS (ifS (toB (op2 eqD (rdB 0) (kst (.int 4)))) (retO (callO 3 f_needless (asCons (rd 1) (asCons (rd 2) (asCons (kst .none) asNil))))) SO.nx)
    (seqS (ifS (toB (op2 eqD (rdB 0) (kst (.int 5)))) (retO (callO 3 f_trimmed (asCons (rd 1) (asCons (rd 2) (asCons (kst .none) asNil))))) SO.nx)
    (seqS (ifS (toB (op2 eqD (rdB 0) (kst (.int 6)))) (retO (callO 3 f_in_order (asCons (rd 1) (asCons (rd 2) (asCons (kst .none) asNil))))) SO.nx)
    (retO (callO 2 f_built (asCons (rd 1) (asCons (rd 2) asNil)))))))))))
def f_l_by_strength : List D → RO := runD 3 g_l_by_strength
def g_l_more_02 : Rho → SO := (seqS (ifS (toB (op2 eqD (rdB 0) (kst (.int 0)))) (retS (callR 2 f_fewest (asCons (rd 1) (asCons (rd 2) asNil)))) SO.nx)
    (seqS (ifS (toB (op2 eqD (rdB 0) (kst (.int 1)))) (retS (callR 2 f_apart (asCons (rd 1) (asCons (rd 2) asNil)))) SO.nx)
    (seqS (ifS (toB (op2 eqD (rdB 0) (kst (.int 2)))) (retS (callR 3 f_paper (asCons (rd 1) (asCons (rd 2) (asCons (kst .none) asNil))))) SO.nx)
    (seqS (ifS (toB (op2 eqD (rdB 0) (kst (.int 3)))) (retS (callR 4 f_is_paper (asCons (rd 1) (asCons (rd 2) (asCons (kst .none) (asCons (kst .none) asNil)))))) SO.nx)
    (seqS (ifS (toB (op2 eqD (rdB 0) (kst (.int 4)))) (retS (callR 3 f_kept (asCons (rd 1) (asCons (rd 2) (asCons (kst .none) asNil))))) SO.nx)
    (seqS (ifS (toB (op2 eqD (rdB 0) (kst (.int 5)))) (retO (callO 4 f_suspects (asCons (rd 1) (asCons (rd 2) (asCons (kst .none) (asCons (kst .none) asNil)))))) SO.nx)
    (retO (callO 3 f_blurred (asCons (rd 1) (asCons (rd 2) (asCons (kst .none) asNil)))))))))))
def f_l_more_02 : List D → RO := runD 3 g_l_more_02
def g_l_by_tests : Rho → SO := (seqS (ifS (toB (op2 eqD (rdB 0) (kst (.int 0)))) (retO (callO 3 f_missing (asCons (rd 1) (asCons (kst (.int 1)) (asCons (rd 2) asNil))))) SO.nx)
    (seqS (ifS (toB (op2 eqD (rdB 0) (kst (.int 1)))) (retS (callR 3 f_is_cover (asCons (rd 1) (asCons (kst (.int 1)) (asCons (rd 2) asNil))))) SO.nx)
    (seqS (ifS (toB (op2 eqD (rdB 0) (kst (.int 2)))) (retO (callO 3 f_needless (asCons (rd 1) (asCons (kst (.int 1)) (asCons (rd 2) asNil))))) SO.nx)
    (seqS (ifS (toB (op2 eqD (rdB 0) (kst (.int 3)))) (retO (callO 3 f_trimmed (asCons (rd 1) (asCons (kst (.int 1)) (asCons (rd 2) asNil))))) SO.nx)
    (seqS (ifS (toB (op2 eqD (rdB 0) (kst (.int 4)))) (retO (callO 3 f_in_order (asCons (rd 1) (asCons (kst (.int 1)) (asCons (rd 2) asNil))))) SO.nx)
    (seqS (ifS (toB (op2 eqD (rdB 0) (kst (.int 5)))) (retO (callO 4 f_suspects (asCons (rd 1) (asCons (kst (.int 1)) (asCons (rd 2) (asCons (kst .none) asNil)))))) SO.nx)
    (seqS (ifS (toB (op2 eqD (rdB 0) (kst (.int 6)))) (retO (callO 3 f_blurred (asCons (rd 1) (asCons (kst (.int 1)) (asCons (rd 2) asNil))))) SO.nx)
    (retS (callR 3 f_most_looked (asCons (rd 1) (asCons (kst (.int 1)) (asCons (rd 2) asNil))))))))))))
def f_l_by_tests : List D → RO := runD 3 g_l_by_tests
def g_l_told_02 : Rho → SO := (seqS (tryS 5 4 (ifS (toB (op2 eqD (rdB 0) (kst (.int 0)))) (dropS (callR 3 f_l_by_strength (asCons (rd 1) (asCons (rd 2) (asCons (rd 3) asNil))))) (ifS (toB (op2 eqD (rdB 0) (kst (.int 1)))) (dropS (callR 3 f_l_more_02 (asCons (rd 1) (asCons (rd 2) (asCons (rd 3) asNil))))) (dropS (callR 3 f_l_by_tests (asCons (rd 1) (asCons (rd 2) (asCons (rd 3) asNil)))))))
    (handK "TestError" fun c => (seqS (ifS (toTru (xIs 4 "BadTests" c)) (retO (disp (asCons (ofB (notT (toTru (xIs 4 "BadStrength" c)))) (asCons (xVe 4) (asCons (xAt 4 c) asNil))))) SO.nx)
    (retO (disp (asCons (xIs 4 "BadStrength" c) (asCons (xVe 4) asNil)))))))
    (retO (disp asNil)))
def f_l_told_02 : List D → RO := runD 5 g_l_told_02
def g_law_02_c1 : Rho → Res Bool := (toB (op2 neD (callR 4 f_l_told_02 (asCons (rd 3) (asCons (rd 5) (asCons (rd 1) (asCons (rd 2) asNil))))) (frz (disp (asCons (kst (.bool true)) (asCons (kst (.bool true)) asNil))))))
def g_law_02_b1 : Rho → SO := (ifS (toTru (frz (lc (cb rng1 (asCons (rdB 4) asNil)) (tgName 5) g_law_02_c1 (rd 5) [5]))) (retS (kst (.bool false))) SO.nx)
def g_law_02_c2 : Rho → Res Bool := (toB (op2 (inD true) (rdB 9) (callR 1 f_l_tests (asCons (rd 1) asNil))))
def g_law_02_c3 : Rho → Res Bool := (toB (op2 neD (callR 4 f_l_told_02 (asCons (kst (.int 2)) (asCons (rd 5) (asCons (rd 1) (asCons (rd 10) asNil))))) (frz (disp (asCons (kst (.bool true)) (asCons (kst (.bool true)) (asCons (rd 11) asNil)))))))
def g_law_02 : Rho → SO := (seqS (setS 1 (callR 2 f_l_book (asCons (rd 0) (asCons (kst (.int 3)) asNil))))
    (seqS (setS 2 (op2 ixD (frz (disp (asCons (kst .none) (asCons (kst (.int 0)) (asCons (kst (.int 4)) (asCons (kst (.bool true)) (asCons (kst (.str (Str.ofString "1"))) (asCons (frz (disp (asCons (kst (.int 1)) asNil))) (asCons (negR (kst (.int 1))) (asCons (op2 addD (op2 addD (cb lenD (asCons (op2 ixD (rdB 1) (kst (.int 0))) asNil)) (kst (.int 1))) (op2 mulD (kst (.int 3)) (cb intD1 (asCons (op2 gtD (cb lenD (asCons (op2 ixD (rdB 1) (kst (.int 0))) asNil)) (kst (.int 2))) asNil)))) (asCons (dispT (asCons (kst (.int 1)) asNil)) asNil))))))))))) (op2 modD (callR 2 f_l_cell (asCons (rd 0) (asCons (kst (.int 0)) asNil))) (kst (.int 9)))))
    (seqS (forS (toSeq (frz (disp (asCons (dispT (asCons (kst (.int 0)) (asCons (kst (.int 8)) asNil))) (asCons (dispT (asCons (kst (.int 1)) (asCons (kst (.int 7)) asNil))) asNil))))) (tgPair 3 4) g_law_02_b1)
    (seqS (setS 6 (callR 4 f_l_drawn (asCons (rd 0) (asCons (kst (.int 6)) (asCons (rd 1) (asCons (kst (.int 5)) asNil))))))
    (seqS (setS 7 (op2 modD (callR 2 f_l_cell (asCons (rd 0) (asCons (kst (.int 1)) asNil))) (op2 addD (cb lenD (asCons (rdB 6) asNil)) (kst (.int 1)))))
    (seqS (setS 8 (frz (disp (asCons (kst .none) (asCons (kst (.int 7)) (asCons (op2 mulA (dispT (asCons (kst (.int 0)) asNil)) (op2 addD (cb lenD (asCons (op2 ixD (rdB 1) (kst (.int 0))) asNil)) (kst (.int 1)))) (asCons (op2 mulA (frz (disp (asCons (kst (.int 0)) asNil))) (cb lenD (asCons (op2 ixD (rdB 1) (kst (.int 0))) asNil))) (asCons (op2 ixD (rdB 1) (kst (.int 0))) asNil))))))))
    (seqS (setS 8 (op2 addD (rdB 8) (frz (disp (asCons (op2 addD (dispT (asCons (negR (kst (.int 1))) asNil)) (sl3 cutD (op2 ixD (rdB 1) (kst (.int 0))) (ptS (kst (.int 1))) ptN)) (asCons (op2 mulA (dispT (asCons (kst (.bool true)) asNil)) (cb lenD (asCons (op2 ixD (rdB 1) (kst (.int 0))) asNil))) asNil))))))
    (seqS (setS 8 (op2 addD (op2 addD (rdB 8) (frz (disp (asCons (op2 mulA (dispT (asCons (kst (.str (Str.ofString "0"))) asNil)) (cb lenD (asCons (op2 ixD (rdB 1) (kst (.int 0))) asNil))) (asCons (dispT asNil) asNil))))) (frz (lc (toSeq (callR 1 f_l_rows (asCons (op2 ixD (rdB 1) (kst (.int 0))) asNil))) (tgName 9) g_law_02_c2 (rd 9) [9]))))
    (seqS (setS 10 (op2 addD (op2 addD (sl3 cutD (rdB 6) ptN (ptS (rdB 7))) (frz (disp (asCons (op2 ixD (rdB 8) (op2 modD (callR 2 f_l_cell (asCons (rd 0) (asCons (kst (.int 2)) asNil))) (cb lenD (asCons (rdB 8) asNil)))) asNil)))) (sl3 cutD (rdB 6) (ptS (rdB 7)) ptN)))
    (seqS (setS 11 (rd 7))
    (seqS (ifS (toB (op2 eqD (op2 modD (callR 2 f_l_cell (asCons (rd 0) (asCons (kst (.int 1)) asNil))) (kst (.int 7))) (kst (.int 6)))) (seqS (setS 10 (op2 ixD (frz (disp (asCons (kst .none) (asCons (cb toTupD (asCons (rdB 6) asNil)) (asCons (kst (.int 7)) asNil))))) (op2 modD (callR 2 f_l_cell (asCons (rd 0) (asCons (kst (.int 0)) asNil))) (kst (.int 3)))))
    (setS 11 (kst (.int 0)))) SO.nx)
    (retS (op2 eqD (frz (lc (cb rng1 (asCons (kst (.int 8)) asNil)) (tgName 5) g_law_02_c3 (rd 5) [5])) (frz (disp asNil)))))))))))))))
def f_law_02 : List D → RO := runD 12 g_law_02
def g_l_refused : Rho → SO := (seqS (tryN 1 (dropS (callR 1 f_read (asCons (rd 0) asNil)))
    (handK "BadText" fun c => (retS (kst (.bool true)))))
    (retS (kst (.bool false))))
def f_l_refused : List D → RO := runD 1 g_l_refused
def g_l_by_base : Rho → SO := (seqS (tryS 2 1 (dropS (callR 1 f_read (asCons (rd 0) asNil)))
    (handK "TestError" fun c => (retS (xVe 1))))
    (retS (kst (.bool false))))
def f_l_by_base : List D → RO := runD 2 g_l_by_base
def g_l_bad : Rho → SO := (seqS (setS 2 (op2 modD (callR 2 f_l_cell (asCons (rd 0) (asCons (kst (.int 1)) asNil))) (cb lenD (asCons (rdB 1) asNil))))
    (seqS (setS 3 (op2 modD (op2 divD (callR 2 f_l_cell (asCons (rd 0) (asCons (kst (.int 0)) asNil))) (kst (.int 3))) (kst (.int 4))))
    (seqS (ifS (toB (op2 eqD (rdB 3) (kst (.int 0)))) (retS (op2 addD (sl3 cutD (rdB 1) ptN (ptS (rdB 2))) (sl3 cutD (rdB 1) (ptS (op2 addD (rdB 2) (kst (.int 1)))) ptN))) SO.nx)
    (seqS (ifS (toB (op2 eqD (rdB 3) (kst (.int 1)))) (retS (op2 addD (sl3 cutD (rdB 1) ptN (ptS (op2 addD (rdB 2) (kst (.int 1))))) (sl3 cutD (rdB 1) (ptS (rdB 2)) ptN))) SO.nx)
    (seqS (ifS (toB (op2 eqD (rdB 3) (kst (.int 2)))) (retS (op2 addD (op2 addD (sl3 cutD (rdB 1) ptN (ptS (rdB 2))) (op2 ixS (kst (.str (Str.ofString "0135 :\nbx"))) (op2 modD (callR 2 f_l_cell (asCons (rd 0) (asCons (kst (.int 2)) asNil))) (kst (.int 9))))) (sl3 cutD (rdB 1) (ptS (op2 addD (rdB 2) (kst (.int 1)))) ptN))) SO.nx)
    (seqS (setS 4 (frz (disp (asCons (kst (.str (Str.ofString ""))) (asCons (kst (.str (Str.ofString "settings 2 2"))) (asCons (kst (.str (Str.ofString "settings\n"))) (asCons (kst (.str (Str.ofString "settings 02\n"))) (asCons (kst (.str (Str.ofString "settings 2 \n"))) asNil))))))))
    (seqS (setS 4 (op2 addD (rdB 4) (frz (disp (asCons (kst (.str (Str.ofString "settings 2\nban\n"))) (asCons (kst (.str (Str.ofString "settings 2\nban 0:2\n"))) asNil))))))
    (seqS (setS 4 (op2 addD (rdB 4) (frz (disp (asCons (kst (.str (Str.ofString "settings 2\nban 0 0\n"))) (asCons (kst (.str (Str.ofString "ban 0:0\nsettings 2\n"))) (asCons (kst .none) (asCons (kst (.int 7)) (asCons (kst (.str (Str.ofString "settings 5\n"))) asNil)))))))))
    (retS (op2 ixD (rdB 4) (op2 modD (callR 2 f_l_cell (asCons (rd 0) (asCons (kst (.int 1)) asNil))) (kst (.int 12)))))))))))))
def f_l_bad : List D → RO := runD 5 g_l_bad
def g_law_18_e1 : Rho → Res D := (cb strD1 (asCons (rdB 3) asNil))
def g_law_18_e2 : Rho → Res D := (op2 addD (op2 addD (cb strD1 (asCons (rdB 6) asNil)) (kst (.str (Str.ofString ":")))) (cb strD1 (asCons (rdB 7) asNil)))
def g_law_18_b1 : Rho → SO := (setS 4 (op2 addD (op2 addD (op2 addD (rdB 4) (kst (.str (Str.ofString "ban ")))) (joinR (kst (.str (Str.ofString " "))) (frz (lc (toSeq (rdB 5)) (tgPair 6 7) yes g_law_18_e2 [6, 7])))) (kst (.str (Str.ofString "\n")))))
def g_law_18 : Rho → SO := (seqS (setS 1 (callR 2 f_l_book (asCons (rd 0) (asCons (kst (.int 3)) asNil))))
    (seqS (setS 2 (callR 1 f_shown (asCons (rd 1) asNil)))
    (seqS (setS 4 (op2 addD (op2 addD (kst (.str (Str.ofString "settings "))) (joinR (kst (.str (Str.ofString " "))) (frz (lc (toSeq (op2 ixD (rdB 1) (kst (.int 0)))) (tgName 3) yes g_law_18_e1 [3])))) (kst (.str (Str.ofString "\n")))))
    (seqS (forS (toSeq (op2 ixD (rdB 1) (kst (.int 1)))) (tgName 5) g_law_18_b1)
    (seqS (ifS (orT (notT (toTru (isiR "str" (rdB 2)))) (orT (toB (op2 neD (rdB 2) (rdB 4))) (toB (op2 neD (callR 1 f_read (asCons (rd 2) asNil)) (rdB 1))))) (retS (kst (.bool false))) SO.nx)
    (seqS (ifS (toB (op2 eqD (op2 modD (callR 2 f_l_cell (asCons (rd 0) (asCons (kst (.int 0)) asNil))) (kst (.int 3))) (kst (.int 0)))) (retS (op2 eqD (callR 1 f_checked (asCons (callR 1 f_read (asCons (rd 4) asNil)) asNil)) (rdB 1))) SO.nx)
    (seqS (setS 8 (callR 2 f_l_bad (asCons (rd 0) (asCons (rd 2) asNil))))
    (seqS (ifS (toTru (callR 1 f_l_refused (asCons (rd 8) asNil))) (retS (callR 1 f_l_by_base (asCons (rd 8) asNil))) SO.nx)
    (seqS (setS 9 (callR 1 f_read (asCons (rd 8) asNil)))
    (retS (andV (op2 ltD (op2 modD (op2 divD (callR 2 f_l_cell (asCons (rd 0) (asCons (kst (.int 0)) asNil))) (kst (.int 3))) (kst (.int 4))) (kst (.int 3))) (andV (op2 eqD (callR 1 f_checked (asCons (rd 9) asNil)) (rdB 9)) (op2 eqD (callR 1 f_shown (asCons (rd 9) asNil)) (rdB 8))))))))))))))
def f_law_18 : List D → RO := runD 10 g_law_18
end DM
end

/-! The plain part, 1: how the meanings are computed; encodings. -/
namespace DL
open PySem PySem.Spec PyProof.Rows L2
/-! ### the meanings, step by step -/
def ofS : SO → RO
  | .nx _ => .rt .none
  | .rt d => .rt d
  | .ro xs => .ro xs
  | .ex c => .ex c
  | _ => .bad
theorem runD_eq (N : Nat) (g : Rho → SO) (ds : List D) : runD N g ds = ofS (g (startR N ds)) := by
  unfold runD ofS
  cases g (startR N ds) <;> rfl
@[simp] theorem ofS_nx (ρ : Rho) : ofS (.nx ρ) = .rt .none := rfl
@[simp] theorem ofS_rt (d : D) : ofS (.rt d) = .rt d := rfl
@[simp] theorem ofS_ro (d : List D) : ofS (.ro d) = .ro d := rfl
@[simp] theorem ofS_ex (d : Exc) : ofS (.ex d) = .ex d := rfl
@[simp] theorem thenS_ap {α : Type} (f : Rho → Res α) (k : Rho → α → SO) (ρ : Rho) : thenS f k ρ = match f ρ with | .ok a => k ρ a | .ex c => .ex c | .bad => .bad := rfl
@[simp] theorem retS_ap (f : Rho → Res D) (ρ : Rho) : retS f ρ = thenS f (fun _ d => .rt d) ρ := rfl
@[simp] theorem retO_ap (f : Rho → Res (List D)) (ρ : Rho) : retO f ρ = thenS f (fun _ d => .ro d) ρ := rfl
@[simp] theorem dropS_ap (f : Rho → Res D) (ρ : Rho) : dropS f ρ = thenS f (fun ρ _ => .nx ρ) ρ := rfl
@[simp] theorem setS_ap (i : Nat) (f : Rho → Res D) (ρ : Rho) : setS i f ρ = thenS f (fun ρ a => .nx (ρ.set i (some (.d a)))) ρ := rfl
@[simp] theorem setO_ap (i : Nat) (f : Rho → Res (List D)) (ρ : Rho) : setO i f ρ = thenS f (fun ρ a => .nx (ρ.set i (some (.own a)))) ρ := rfl
@[simp] theorem seqS_ap (g k : Rho → SO) (ρ : Rho) : seqS g k ρ = match g ρ with | .nx ρ' => k ρ' | o => o := rfl
@[simp] theorem ifS_ap (c : Rho → Res Bool) (g k : Rho → SO) (ρ : Rho) : ifS c g k ρ = thenS c (fun ρ b => if b = true then g ρ else k ρ) ρ := rfl
@[simp] theorem forS_ap (fi : Rho → Res (List D)) (t : Tg) (b : Rho → SO) (ρ : Rho) : forS fi t b ρ = thenS fi (fun ρ xs => forL t b xs ρ) ρ := rfl
@[simp] theorem never_ap (ρ : Rho) : never ρ = .bad := rfl
@[simp] theorem op2_ap {α : Type} (g : D → D → Option α) (fa fb : Rho → Res D) (ρ : Rho) : op2 g fa fb ρ = (fa ρ).bind fun a => (fb ρ).bind fun b => .of (g a b) := rfl
@[simp] theorem toTru_ap (f : Rho → Res D) (ρ : Rho) : toTru f ρ = (f ρ).bind fun d => .of (truD d) := rfl
@[simp] theorem toB_ap (f : Rho → Res D) (ρ : Rho) : toB f ρ = (f ρ).bind fun d => .of (boolD d) := rfl
@[simp] theorem ofB_ap (f : Rho → Res Bool) (ρ : Rho) : ofB f ρ = (f ρ).map PyData.bool := rfl
@[simp] theorem andT_ap (f g : Rho → Res Bool) (ρ : Rho) : andT f g ρ = (f ρ).bind fun b => if b = true then g ρ else .ok false := rfl
@[simp] theorem orT_ap (f g : Rho → Res Bool) (ρ : Rho) : orT f g ρ = (f ρ).bind fun b => if b = true then .ok true else g ρ := rfl
@[simp] theorem notT_ap (f : Rho → Res Bool) (ρ : Rho) : notT f ρ = (f ρ).map not := rfl
@[simp] theorem andV_ap (f g : Rho → Res D) (ρ : Rho) : andV f g ρ = (toB f ρ).bind fun b => if b = true then g ρ else .ok (.bool false) := rfl
@[simp] theorem orV_ap (f g : Rho → Res D) (ρ : Rho) : orV f g ρ = (toB f ρ).bind fun b => if b = true then .ok (.bool true) else g ρ := rfl
@[simp] theorem chV_ap (k k' : D → D → Option D) (f g e : Rho → Res D) (ρ : Rho) : chV k k' f g e ρ = (f ρ).bind fun a => (g ρ).bind fun b => (Res.of ((k a b).bind boolD)).bind fun t => if t = true then (e ρ).bind fun c => .of (k' b c) else .ok (.bool false) := rfl
@[simp] theorem asNil_ap (ρ : Rho) : asNil ρ = .ok [] := rfl
@[simp] theorem asCons_ap (f : Rho → Res D) (g : Rho → Res (List D)) (ρ : Rho) : asCons f g ρ = (f ρ).bind fun d => (g ρ).map (d :: ·) := rfl
@[simp] theorem disp_ap (g : Rho → Res (List D)) (ρ : Rho) : disp g ρ = (g ρ).bind fun ds => if ds.length ≤ 1000 then .ok ds else .bad := rfl
@[simp] theorem dispT_ap (g : Rho → Res (List D)) (ρ : Rho) : dispT g ρ = (disp g ρ).map PyData.tuple := rfl
@[simp] theorem cb_ap {α : Type} (k : List D → Option α) (g : Rho → Res (List D)) (ρ : Rho) : cb k g ρ = (g ρ).bind fun ds => .of (k ds) := rfl
@[simp] theorem isiR_ap (T : String) (f : Rho → Res D) (ρ : Rho) : isiR T f ρ = (f ρ).bind fun d => .of ((isiD T d).map PyData.bool) := rfl
@[simp] theorem ptN_ap (ρ : Rho) : ptN ρ = .ok none := rfl
@[simp] theorem ptS_ap (f : Rho → Res D) (ρ : Rho) : ptS f ρ = (f ρ).bind fun d => (Res.of (intOf d)).map some := rfl
@[simp] theorem sl3_ap {α : Type} (g : D → Option Int → Option Int → Option α) (f : Rho → Res D) (lo hi : Rho → Res (Option Int)) (ρ : Rho) : sl3 g f lo hi ρ = (f ρ).bind fun a => (lo ρ).bind fun l => (hi ρ).bind fun u => .of (g a l u) := rfl
@[simp] theorem toSeq_ap (f : Rho → Res D) (ρ : Rho) : toSeq f ρ = (f ρ).bind fun d => .of (seqOf d) := rfl
@[simp] theorem toEnum_ap (f : Rho → Res D) (ρ : Rho) : toEnum f ρ = (f ρ).bind fun d => (Res.of (seqOf d)).map enumL := rfl
@[simp] theorem yes_ap (ρ : Rho) : yes ρ = .ok true := rfl
@[simp] theorem frz_ap (f : Rho → Res (List D)) (ρ : Rho) : frz f ρ = (f ρ).map PyData.list := rfl
@[simp] theorem kst_ap (d : D) (ρ : Rho) : kst d ρ = .ok d := rfl
@[simp] theorem rd_ap (i : Nat) (ρ : Rho) : rd i ρ = match ρ[i]? with | some (some (.d x)) => .ok x | _ => .bad := rfl
@[simp] theorem rdB_ap (i : Nat) (ρ : Rho) : rdB i ρ = match ρ[i]? with | some (some (.d x)) => .ok x | some (some (.own xs)) => .ok (.list xs) | _ => .bad := rfl
@[simp] theorem retV_ap (i : Nat) (ρ : Rho) : retV i ρ = match ρ[i]? with | some (some (.own xs)) => .ro xs | some (some (.d x)) => .rt x | _ => .bad := rfl
@[simp] theorem frzAt_ap (i : Nat) (ρ : Rho) : frzAt i ρ = match ρ[i]? with | some (some (.own xs)) => ρ.set i (some (.d (.list xs))) | _ => ρ := rfl
@[simp] theorem appS_own {i : Nat} {ρ : Rho} {xs : List D} (f : Rho → Res D) (h : ρ[i]? = some (some (.own xs))) : appS i f ρ = thenS f (fun ρ d => if xs.length < sizeLine then .nx (ρ.set i (some (.own (xs ++ [d])))) else .bad) ρ := by
  unfold appS ownS
  rw [h]
theorem extS_own {i : Nat} {ρ : Rho} {xs ys : List D} {f : Rho → Res D} (h : ρ[i]? = some (some (.own xs))) (hf : f ρ = .ok (.list ys)) (hz : xs.length + ys.length ≤ sizeLine) : extS i f ρ = .nx (ρ.set i (some (.own (xs ++ ys)))) := by
  unfold extS ownS
  rw [h]
  show thenS f _ ρ = _
  unfold thenS
  rw [hf]
  show (if _ then _ else _) = _
  rw [if_pos hz]
@[simp] theorem dnewS_ap (i : Nat) (ρ : Rho) : dnewS i ρ = .nx (ρ.set i (some (.dct []))) := rfl
theorem dputS_at {i : Nat} {ρ : Rho} {kvs : List (D × D)} {k v : D} {fk fv : Rho → Res D} (h : ρ[i]? = some (some (.dct kvs))) (hv : fv ρ = .ok v) (hk : fk ρ = .ok k) (ok : okKey k = true) (hz : kvs.length < sizeLine) : dputS i fk fv ρ = .nx (ρ.set i (some (.dct (putK kvs k v)))) := by
  unfold dputS thenS
  simp only [hv, h, hk, ok, decide_eq_true hz, Bool.and_self, if_true]
@[simp] theorem tgtS_ap (t : Tg) (f : Rho → Res D) (ρ : Rho) : tgtS t f ρ = thenS f (fun ρ d => match t.run d ρ with | .ok ρ' => .nx ρ' | _ => .bad) ρ := rfl
@[simp] theorem negR_ap (f : Rho → Res D) (ρ : Rho) : negR f ρ = (f ρ).bind fun d => match d with | .int i => .ok (.int (-i)) | _ => .bad := rfl
@[simp] theorem callR_ap (n : Nat) (f : List D → RO) (g : Rho → Res (List D)) (ρ : Rho) : callR n f g ρ = (g ρ).bind fun ds => if ds.length = n then (f ds).res else .bad := rfl
@[simp] theorem callO_ap (n : Nat) (f : List D → RO) (g : Rho → Res (List D)) (ρ : Rho) : callO n f g ρ = (g ρ).bind fun ds => if ds.length = n then (f ds).own else .bad := rfl
@[simp] theorem res_rt (d : D) : (RO.rt d).res = .ok d := rfl
@[simp] theorem res_ro (d : List D) : (RO.ro d).res = .ok (.list d) := rfl
@[simp] theorem res_ex (c : Exc) : (RO.ex c).res = .ex c := rfl
@[simp] theorem own_ro (d : List D) : (RO.ro d).own = .ok d := rfl
@[simp] theorem own_ex (c : Exc) : (RO.ex c).own = .ex c := rfl
@[simp] theorem tgName_run (i : Nat) (d : D) (ρ : Rho) : (tgName i).run d ρ = .ok (ρ.set i (some (.d d))) := rfl
@[simp] theorem tgPair_run (i j : Nat) (x y : D) (ρ : Rho) : (tgPair i j).run (.tuple [x, y]) ρ = .ok ((ρ.set i (some (.d x))).set j (some (.d y))) := rfl
@[simp] theorem truD_bool (b : Bool) : truD (.bool b) = some b := rfl
@[simp] theorem truD_list (b : List D) : truD (.list b) = some (!b.isEmpty) := rfl
@[simp] theorem truD_tup (b : List D) : truD (.tuple b) = some (!b.isEmpty) := rfl
@[simp] theorem truD_int (i : Int) : truD (.int i) = some (i != 0) := rfl
@[simp] theorem boolD_bool (b : Bool) : boolD (.bool b) = some b := rfl
@[simp] theorem seqOf_list (b : List D) : seqOf (.list b) = some b := rfl
@[simp] theorem seqOf_tup (b : List D) : seqOf (.tuple b) = some b := rfl
@[simp] theorem lenD_list (b : List D) : lenD [.list b] = some (.int b.length) := rfl
@[simp] theorem lenD_tup (b : List D) : lenD [.tuple b] = some (.int b.length) := rfl
@[simp] theorem minD_int (i j : Int) : minD [.int i, .int j] = some (.int (if j < i then j else i)) := rfl
@[simp] theorem maxD_int (i j : Int) : maxD [.int i, .int j] = some (.int (if j > i then j else i)) := rfl
@[simp] theorem toListD_list (xs : List D) : toListD [.list xs] = some xs := rfl
@[simp] theorem toTupD_list (xs : List D) : toTupD [.list xs] = some (.tuple xs) := rfl
@[simp] theorem cmpI_int (p : Int → Int → Bool) (i j : Int) : cmpI p (.int i) (.int j) = some (.bool (p i j)) := rfl
@[simp] theorem intD_int (c : Int → Int → Bool) (g : Int → Int → Int) (i j : Int) : intD c g (.int i) (.int j) = if c i j = true then some (.int (g i j)) else none := rfl
@[simp] theorem addD_int (i j : Int) : addD (.int i) (.int j) = some (.int (i + j)) := rfl
@[simp] theorem addD_list (i j : List D) : addD (.list i) (.list j) = if i.length + j.length ≤ sizeLine then some (.list (i ++ j)) else none := rfl
@[simp] theorem addD_tup (i j : List D) : addD (.tuple i) (.tuple j) = if i.length + j.length ≤ sizeLine then some (.tuple (i ++ j)) else none := rfl
@[simp] theorem ixD_list (xs : List D) (i : Int) : ixD (.list xs) (.int i) = atI xs i := rfl
@[simp] theorem ixD_tup (xs : List D) (i : Int) : ixD (.tuple xs) (.int i) = atI xs i := rfl
@[simp] theorem rng1_int (j : Int) : rng1 [.int j] = if smallR j = true then some (upTo 0 j.toNat) else none := rfl
@[simp] theorem rng2_int (i j : Int) : rng2 [.int i, .int j] = if (smallR i && smallR j) = true then some (upTo i (j - i).toNat) else none := rfl
@[simp] theorem isi_int_int (i : Int) : isiD "int" (.int i) = some true := rfl
@[simp] theorem isi_bool_int (i : Int) : isiD "bool" (.int i) = some false := rfl
@[simp] theorem isi_tup_tup (xs : List D) : isiD "tuple" (.tuple xs) = some true := rfl
@[simp] theorem isi_list_list (xs : List D) : isiD "list" (.list xs) = some true := rfl
@[simp] theorem intOf_int (i : Int) : intOf (.int i) = some i := rfl
@[simp] theorem noex_map_ok {α : Type} (a : α) : (Res.ok a).noex = .ok a := rfl
theorem atI_nat {xs : List D} {i : Nat} {x : D} (h : xs[i]? = some x) : atI xs (i : Int) = some x := L2.atI_nat h
@[simp] theorem atI_zero (x : D) (xs : List D) : atI (x :: xs) 0 = some x := L2.atI_nat (j := 0) rfl
@[simp] theorem atI_one (x y : D) (xs : List D) : atI (x :: y :: xs) 1 = some y := L2.atI_nat (j := 1) rfl
/-! ### loops -/
theorem forL_inv {α : Type} {t : Tg} {b : Rho → SO} {enc : α → D} (I : List α → Rho → Prop) (xs : List α) (step : ∀ done x rest ρ, xs = done ++ x :: rest → I done ρ → ∃ ρ1 ρ2, t.run (enc x) ρ = .ok ρ1 ∧ b ρ1 = .nx ρ2 ∧ I (done ++ [x]) ρ2) {ρ : Rho} (h0 : I [] ρ) :
    ∃ ρ', forL t b (xs.map enc) ρ = .nx ρ' ∧ I xs ρ' := by
  suffices ∀ (rest done : List α) (ρ : Rho), xs = done ++ rest → I done ρ → ∃ ρ', forL t b (rest.map enc) ρ = .nx ρ' ∧ I xs ρ' from this xs [] ρ rfl h0
  intro rest
  induction rest with
  | nil =>
    intro done ρ e h
    rw [List.append_nil] at e
    subst e
    exact ⟨ρ, rfl, h⟩
  | cons x rest ih =>
    intro done ρ e h
    obtain ⟨ρ1, ρ2, h1, h2, h3⟩ := step done x rest ρ e h
    obtain ⟨ρ', h4, h5⟩ := ih (done ++ [x]) ρ2 (by rw [e, List.append_assoc]; rfl) h3
    refine ⟨ρ', ?_, h5⟩
    rw [List.map_cons]
    unfold forL
    rw [h1]
    show (match b ρ1 with | .nx ρ2 => _ | .ct ρ2 => _ | .bk ρ2 => _ | o => o) = _
    rw [h2]
    exact h4
theorem lcL_map {α : Type} {t : Tg} {c : Rho → Res Bool} {e : Rho → Res D} {ρ : Rho} {enc : α → D} {p : α → Bool} {g : α → D} : ∀ (xs : List α), (∀ x ∈ xs, ∃ ρ1, t.run (enc x) ρ = .ok ρ1 ∧ c ρ1 = .ok (p x) ∧ (p x = true → e ρ1 = .ok (g x))) →
    lcL t c e ρ (xs.map enc) = .ok ((xs.filter p).map g)
  | [], _ => rfl
  | x :: xs, h => by
    obtain ⟨ρ1, h1, h2, h3⟩ := h x List.mem_cons_self
    have ih := lcL_map (ρ := ρ) (t := t) (c := c) (e := e) (enc := enc) (p := p) (g := g) xs fun y hy => h y (List.mem_cons_of_mem _ hy)
    rw [List.map_cons]
    unfold lcL
    rw [h1, noex_map_ok, Res.bind_ok, h2, noex_map_ok, Res.bind_ok, ih]
    cases hp : p x with
    | false => rw [if_neg (by decide), List.filter_cons_of_neg (by rw [hp]; decide)]
    | true => rw [if_pos rfl, h3 hp, noex_map_ok, Res.bind_ok, List.filter_cons_of_pos hp]; rfl
theorem lc_map {α : Type} {fi : Rho → Res (List D)} {t : Tg} {c : Rho → Res Bool} {e : Rho → Res D} {vs : List Nat} {ρ : Rho} {enc : α → D} {p : α → Bool} {g : α → D} (xs : List α) (hf : fi ρ = .ok (xs.map enc))
    (h : ∀ x ∈ xs, ∃ ρ1, t.run (enc x) (wipeR ρ vs) = .ok ρ1 ∧ c ρ1 = .ok (p x) ∧ (p x = true → e ρ1 = .ok (g x))) : lc fi t c e vs ρ = .ok ((xs.filter p).map g) := by
  unfold lc
  rw [hf, Res.bind_ok, lcL_map xs h]
  rfl
theorem sizeLine_big : 1000000 < sizeLine := by rw [sizeLine_eq]; decide
/-! ### encodings -/
def eN (n : Nat) : D := .int (n : Int)
def eR (r : List Nat) : D := .tuple (r.map eN)
def eP (p : Nat × Nat) : D := .tuple [eN p.1, eN p.2]
def eM (m : List (Nat × Nat)) : D := .tuple (m.map eP)
def eB (b : List Nat × List (List (Nat × Nat))) : D := .tuple [eR b.1, .tuple (b.2.map eM)]
/-! ### equality of data: numbers, tuples, lists -/
mutual
/-- data of ints, tuples, lists -/
def nums : D → Bool
  | .int _ => true
  | .tuple xs => numsA xs
  | .list xs => numsA xs
  | _ => false
def numsA : List D → Bool
  | [] => true
  | x :: xs => nums x && numsA xs
end
mutual
theorem eqv_nums : ∀ a b : D, nums a = true → nums b = true → (PyData.eqv a b = true ↔ a = b)
  | .int i, b, _, hb => by
    cases b with
    | int j => simp [PyData.eqv]
    | _ => simp [PyData.eqv, nums] at hb ⊢
  | .tuple xs, b, ha, hb => by
    cases b with
    | tuple ys =>
      have := eqvA_nums xs ys (by simpa [nums] using ha) (by simpa [nums] using hb)
      simp [PyData.eqv, this]
    | _ => simp [PyData.eqv, nums] at hb ⊢
  | .list xs, b, ha, hb => by
    cases b with
    | list ys =>
      have := eqvA_nums xs ys (by simpa [nums] using ha) (by simpa [nums] using hb)
      simp [PyData.eqv, this]
    | _ => simp [PyData.eqv, nums] at hb ⊢
  | .none, _, ha, _ => by cases ha
  | .bool _, _, ha, _ => by cases ha
  | .str _, _, ha, _ => by cases ha
  | .dict _, _, ha, _ => by cases ha
theorem eqvA_nums : ∀ xs ys : List D, numsA xs = true → numsA ys = true → (PyData.eqvAll xs ys = true ↔ xs = ys)
  | [], [], _, _ => by simp [PyData.eqvAll]
  | [], _ :: _, _, _ => by simp [PyData.eqvAll]
  | _ :: _, [], _, _ => by simp [PyData.eqvAll]
  | x :: xs, y :: ys, ha, hb => by
    simp only [numsA, Bool.and_eq_true] at ha hb
    have h1 := eqv_nums x y ha.1 hb.1
    have h2 := eqvA_nums xs ys ha.2 hb.2
    simp [PyData.eqvAll, h1, h2]
end
theorem eqv_dec {a b : D} {P : Prop} [Decidable P] (ha : nums a = true) (hb : nums b = true) (h : a = b ↔ P) : PyData.eqv a b = decide P := by
  rw [Bool.eq_iff_iff, eqv_nums a b ha hb, h]
  exact decide_eq_true_iff.symm
mutual
theorem nums_lay : ∀ a : D, nums a = true → a.canLay0 = true
  | .int _, _ => rfl
  | .tuple xs, h => by simpa [PyData.canLay0] using numsA_lay xs (by simpa [nums] using h)
  | .list xs, h => by simpa [PyData.canLay0] using numsA_lay xs (by simpa [nums] using h)
  | .none, h => by cases h
  | .bool _, h => by cases h
  | .str _, h => by cases h
  | .dict _, h => by cases h
theorem numsA_lay : ∀ a : List D, numsA a = true → PyData.canLayAll0 a = true
  | [], _ => rfl
  | x :: xs, h => by
    simp only [numsA, Bool.and_eq_true] at h
    simp [PyData.canLayAll0, nums_lay x h.1, numsA_lay xs h.2]
end
theorem numsA_iff (xs : List D) : numsA xs = true ↔ ∀ x ∈ xs, nums x = true := by
  induction xs with
  | nil => simp [numsA]
  | cons x xs ih => simp [numsA, ih]
theorem depthAll_le (xs : List D) (n : Nat) (h : ∀ x ∈ xs, x.depth ≤ n) : PyData.depthAll xs ≤ n := by
  induction xs with
  | nil => simp [PyData.depthAll]
  | cons x xs ih =>
    have h1 := h x List.mem_cons_self
    have h2 := ih fun y hy => h y (List.mem_cons_of_mem _ hy)
    simp [PyData.depthAll]
    omega
/-- data of ints, of depth n at most -/
def Nm (n : Nat) (d : D) : Prop := nums d = true ∧ d.depth ≤ n
theorem Nm.shaped {n : Nat} {d : D} (h : Nm n d) (hn : n ≤ 64) : SeqAt.shaped d = true := by
  unfold SeqAt.shaped
  rw [nums_lay d h.1, decide_eq_true (Nat.le_trans h.2 hn)]
  rfl
theorem Nm.int (i : Int) : Nm 0 (.int i) := ⟨rfl, by simp [PyData.depth]⟩
theorem Nm.list {n : Nat} {xs : List D} (h : ∀ x ∈ xs, Nm n x) : Nm (n + 1) (.list xs) := ⟨by simpa [nums] using (numsA_iff xs).mpr fun x hx => (h x hx).1, by
  have := depthAll_le xs n fun x hx => (h x hx).2
  simp [PyData.depth]
  omega⟩
theorem Nm.tup {n : Nat} {xs : List D} (h : ∀ x ∈ xs, Nm n x) : Nm (n + 1) (.tuple xs) := ⟨by simpa [nums] using (numsA_iff xs).mpr fun x hx => (h x hx).1, by
  have := depthAll_le xs n fun x hx => (h x hx).2
  simp [PyData.depth]
  omega⟩
theorem Nm.le {m n : Nat} {d : D} (h : Nm m d) (e : m ≤ n) : Nm n d := ⟨h.1, Nat.le_trans h.2 e⟩
theorem nmN (n : Nat) : Nm 0 (eN n) := .int _
theorem nmR (r : List Nat) : Nm 1 (eR r) := .tup fun x hx => by
  obtain ⟨n, _, rfl⟩ := List.mem_map.mp hx
  exact nmN n
theorem nmP (p : Nat × Nat) : Nm 1 (eP p) := .tup fun x hx => by
  rcases List.mem_cons.mp hx with rfl | hx
  · exact nmN _
  · rcases List.mem_cons.mp hx with rfl | hx
    · exact nmN _
    · cases hx
theorem nmM (m : List (Nat × Nat)) : Nm 2 (eM m) := .tup fun x hx => by
  obtain ⟨p, _, rfl⟩ := List.mem_map.mp hx
  exact nmP p
theorem nmRs (rs : List (List Nat)) : Nm 2 (.list (rs.map eR)) := .list fun x hx => by
  obtain ⟨p, _, rfl⟩ := List.mem_map.mp hx
  exact nmR p
theorem nmMs (rs : List (List (Nat × Nat))) : Nm 3 (.list (rs.map eM)) := .list fun x hx => by
  obtain ⟨p, _, rfl⟩ := List.mem_map.mp hx
  exact nmM p
theorem nmNil : Nm 1 (.list []) := .list fun x hx => by cases hx
theorem eqD_nm {m n : Nat} {a b : D} {P : Prop} [Decidable P] (ha : Nm m a) (hb : Nm n b) (hm : m ≤ 64) (hn : n ≤ 64) (h : a = b ↔ P) : eqD a b = some (.bool (decide P)) := by
  unfold eqD
  rw [if_pos ⟨ha.shaped hm, hb.shaped hn⟩, eqv_dec ha.1 hb.1 h]
theorem neD_nm {m n : Nat} {a b : D} {P : Prop} [Decidable P] (ha : Nm m a) (hb : Nm n b) (hm : m ≤ 64) (hn : n ≤ 64) (h : a = b ↔ P) : neD a b = some (.bool (!decide P)) := by
  unfold neD
  rw [if_pos ⟨ha.shaped hm, hb.shaped hn⟩, eqv_dec ha.1 hb.1 h]
@[simp] theorem eqD_int (i j : Int) : eqD (.int i) (.int j) = some (.bool (decide (i = j))) := eqD_nm (.int i) (.int j) (by decide) (by decide) (by simp)
@[simp] theorem neD_int (i j : Int) : neD (.int i) (.int j) = some (.bool (!decide (i = j))) := neD_nm (.int i) (.int j) (by decide) (by decide) (by simp)
theorem eN_inj {a b : Nat} : eN a = eN b ↔ a = b := by simp [eN]; omega
theorem map_inj {α β : Type} {f : α → β} (h : ∀ a b, f a = f b → a = b) : ∀ {xs ys : List α}, xs.map f = ys.map f → xs = ys
  | [], [], _ => rfl
  | [], _ :: _, e => by simp at e
  | _ :: _, [], e => by simp at e
  | x :: xs, y :: ys, e => by
    simp only [List.map_cons, List.cons.injEq] at e
    rw [h _ _ e.1, map_inj h e.2]
theorem eR_inj {a b : List Nat} (h : eR a = eR b) : a = b := map_inj (fun _ _ => eN_inj.mp) (PyData.tuple.inj h)
theorem eP_inj {a b : Nat × Nat} (h : eP a = eP b) : a = b := by
  simp only [eP, PyData.tuple.injEq, List.cons.injEq, and_true, eN_inj] at h
  exact Prod.ext h.1 h.2
theorem eM_inj {a b : List (Nat × Nat)} (h : eM a = eM b) : a = b := map_inj (fun _ _ => eP_inj) (PyData.tuple.inj h)
end DL

/-! The plain part, 2: books, rows, tests. -/
namespace DL
open PySem PySem.Spec PyProof.Rows L2
abbrev Row := List Nat
abbrev Meet := List (Nat × Nat)
abbrev Book := List Nat × List Meet
def meets (t : Row) (m : Meet) : Bool := m.all fun p => t[p.1]? == some p.2
def allowed (b : Book) (t : Row) : Bool := b.2.all fun ban => !meets t ban
def stepRows (found : List Row) (level : Nat) : List Row := found.flatMap fun r => (List.range level).map fun s => r ++ [s]
def rows (lv : List Nat) : List Row := lv.foldl stepRows [[]]
def tests (b : Book) : List Row := (rows b.1).filter (allowed b)
/-- a meeting within the levels: things rising, settings there are -/
structure IsMeet (lv : List Nat) (m : Meet) : Prop where
  lo : 1 ≤ m.length
  hi : m.length ≤ 3
  inc : m.Pairwise fun p q => p.1 < q.1
  at_ : ∀ p ∈ m, ∃ l, lv[p.1]? = some l ∧ p.2 < l
structure WL (lv : List Nat) : Prop where
  lo : 1 ≤ lv.length
  hi : lv.length ≤ 4
  lev : ∀ l ∈ lv, 1 ≤ l ∧ l ≤ 3
structure WF (b : Book) : Prop where
  wl : WL b.1
  bans : b.2.length ≤ 3
  ban : ∀ m ∈ b.2, IsMeet b.1 m
theorem IsMeet.lt {lv : List Nat} {m : Meet} (h : IsMeet lv m) : ∀ p ∈ m, p.1 < lv.length := fun p hp => by
  obtain ⟨l, e, _⟩ := h.at_ p hp
  exact (List.getElem?_eq_some_iff.mp e).1
theorem atR {t : Row} {i : Nat} (h : i < t.length) : atI (t.map eN) (i : Int) = some (eN t[i]) := atI_nat (by rw [List.getElem?_map, List.getElem?_eq_getElem h]; rfl)
theorem isEmpty_map {α β : Type} (f : α → β) (xs : List α) : (xs.map f).isEmpty = xs.isEmpty := by cases xs <;> rfl
theorem not_filter_empty {α : Type} (p : α → Bool) (xs : List α) : (xs.filter p).isEmpty = xs.all fun x => !p x := by
  induction xs with
  | nil => rfl
  | cons x xs ih => cases hp : p x <;> simp [List.filter_cons, hp, ih]
section
open DM
theorem c_meets {t : Row} {p : Nat × Nat} {y : Option B} (h : p.1 < t.length) : g_meets_c1 [some (.d (eR t)), y, some (.d (eP p))] = .ok (!(t[p.1]? == some p.2)) := by
  simp [g_meets_c1, eR, eP]
  rw [show (eN p.1) = .int (p.1 : Int) from rfl, ixD_tup, atR h]
  simp [eN, h, Int.ofNat_inj]
  rw [Bool.eq_iff_iff]
  simp
theorem m_meets {t : Row} {m : Meet} (h : ∀ p ∈ m, p.1 < t.length) : f_meets [eR t, eM m] = .rt (.bool (meets t m)) := by
  have e : lc (toSeq (rdB 1)) (tgName 2) g_meets_c1 (rd 2) [2] [some (.d (eR t)), some (.d (eM m)), none] = .ok ((m.filter fun p => !(t[p.1]? == some p.2)).map eP) :=
    lc_map (enc := eP) m (by simp [eM]) fun p hp => ⟨[some (.d (eR t)), some (.d (eM m)), some (.d (eP p))], by simp [wipeR], c_meets (h p hp), fun _ => by simp⟩
  unfold f_meets
  rw [runD_eq]
  show ofS (g_meets [some (.d (eR t)), some (.d (eM m)), none]) = _
  unfold g_meets
  simp [e, isEmpty_map, not_filter_empty, meets]
theorem m_l_meets {t : Row} {m : Meet} (h : ∀ p ∈ m, p.1 < t.length) : f_l_meets [eR t, eM m] = .rt (.bool (meets t m)) := by
  have e : lc (toSeq (rdB 1)) (tgName 2) g_l_meets_c1 (rd 2) [2] [some (.d (eR t)), some (.d (eM m)), none] = .ok ((m.filter fun p => !(t[p.1]? == some p.2)).map eP) :=
    lc_map (enc := eP) m (by simp [eM]) fun p hp => ⟨[some (.d (eR t)), some (.d (eM m)), some (.d (eP p))], by simp [wipeR], c_meets (h p hp), fun _ => by simp⟩
  unfold f_l_meets
  rw [runD_eq]
  show ofS (g_l_meets [some (.d (eR t)), some (.d (eM m)), none]) = _
  unfold g_l_meets
  have nm : Nm 3 (.list ((m.filter fun p => !(t[p.1]? == some p.2)).map eP)) := .list fun x hx => by
    obtain ⟨p, _, rfl⟩ := List.mem_map.mp hx
    exact (nmP p).le (by decide)
  have q := eqD_nm (P := meets t m = true) nm nmNil (by decide) (by decide) (by simp [meets])
  simp [e, q]
theorem m_is_allowed {b : Book} {t : Row} (h : ∀ m ∈ b.2, ∀ p ∈ m, p.1 < t.length) : f_is_allowed [eB b, eR t] = .rt (.bool (allowed b t)) := by
  have e : lc (toSeq (op2 ixD (rdB 0) (kst (.int 1)))) (tgName 2) g_is_allowed_c1 (rd 2) [2] [some (.d (eB b)), some (.d (eR t)), none] = .ok ((b.2.filter fun m => meets t m).map eM) :=
    lc_map (enc := eM) b.2 (by simp [eB]) fun m hm => ⟨[some (.d (eB b)), some (.d (eR t)), some (.d (eM m))], by simp [wipeR], by simp [g_is_allowed_c1, m_meets (h m hm)], fun _ => by simp⟩
  unfold f_is_allowed
  rw [runD_eq]
  show ofS (g_is_allowed [some (.d (eB b)), some (.d (eR t)), none]) = _
  unfold g_is_allowed
  simp [e, isEmpty_map, not_filter_empty, allowed]
/-! ### rows -/
theorem upTo_N (n : Nat) : upTo 0 n = (List.range n).map eN := by simp [upTo, eN]
theorem rows_snoc (lv : List Nat) (l : Nat) : rows (lv ++ [l]) = stepRows (rows lv) l := by simp [rows, List.foldl_append]
theorem step_len (f : List Row) (l : Nat) : (stepRows f l).length = f.length * l := by
  unfold stepRows
  induction f with
  | nil => simp
  | cons r f ih => simp [List.flatMap_cons, ih, Nat.add_mul]; omega
theorem rows_ind {P : List Nat → Prop} (h0 : P []) (hs : ∀ lv l, P lv → P (lv ++ [l])) (lv : List Nat) : P lv := by
  suffices ∀ r : List Nat, P r.reverse by simpa using this lv.reverse
  intro r
  induction r with
  | nil => exact h0
  | cons l r ih => rw [List.reverse_cons]; exact hs _ _ ih
theorem rows_bound (lv : List Nat) (h : ∀ l ∈ lv, l ≤ 3) : (rows lv).length ≤ 3 ^ lv.length := by
  induction lv using rows_ind with
  | h0 => simp [rows]
  | hs lv l ih =>
    have h1 := ih fun x hx => h x (by simp [hx])
    have h2 : l ≤ 3 := h l (by simp)
    rw [rows_snoc, step_len, List.length_append]
    simp only [List.length_singleton, Nat.pow_succ]
    exact Nat.mul_le_mul h1 h2
theorem rows_mem_len (lv : List Nat) : ∀ r ∈ rows lv, r.length = lv.length := by
  induction lv using rows_ind with
  | h0 => simp [rows]
  | hs lv l ih =>
    intro r hr
    rw [rows_snoc] at hr
    unfold stepRows at hr
    simp only [List.mem_flatMap, List.mem_map] at hr
    obtain ⟨r0, h0, s, _, rfl⟩ := hr
    simp [ih r0 h0]
theorem WL.pre {lv done rest : List Nat} (h : WL lv) (e : lv = done ++ rest) : (rows done).length ≤ 81 ∧ done.length ≤ 4 ∧ ∀ l ∈ done, l ≤ 3 := by
  have h1 : ∀ l ∈ done, l ≤ 3 := fun l hl => (h.lev l (by rw [e]; simp [hl])).2
  have h2 : done.length ≤ 4 := by
    have := h.hi
    rw [e, List.length_append] at this
    omega
  refine ⟨Nat.le_trans (rows_bound done h1) (Nat.le_trans (Nat.pow_le_pow_right (by decide) h2) (by decide)), h2, h1⟩
theorem ext_row {r : Row} {l : Nat} (hr : r.length ≤ 1000) (hl : l ≤ 1000) {a b c : Option B} : lc (cb rng1 (asCons (rdB 2) asNil)) (tgName 5) yes (op2 addD (rdB 4) (dispT (asCons (rd 5) asNil))) [5] [a, b, some (.d (eN l)), c, some (.d (eR r)), none] = .ok (((List.range l).map fun s => r ++ [s]).map eR) := by
  have hs : smallR (l : Int) = true := smallR_of (by omega) (by omega)
  have := lc_map (fi := cb rng1 (asCons (rdB 2) asNil)) (t := tgName 5) (c := yes) (e := op2 addD (rdB 4) (dispT (asCons (rd 5) asNil))) (vs := [5]) (ρ := [a, b, some (.d (eN l)), c, some (.d (eR r)), none]) (enc := eN) (p := fun _ => true) (g := fun s => eR (r ++ [s])) (List.range l)
    (by simp [eN, hs]; exact upTo_N l) fun s hs => ⟨[a, b, some (.d (eN l)), c, some (.d (eR r)), some (.d (eN s))], by simp [wipeR], by simp, fun _ => by
      have : r.length + 1 ≤ sizeLine := by have := sizeLine_big; omega
      simp [eR, this]⟩
  rw [this, List.filter_eq_self.mpr (fun _ _ => rfl), List.map_map]
  rfl
theorem m_rows_of {lv : List Nat} (h : WL lv) : f_rows_of [eR lv] = .rt (.list ((rows lv).map eR)) := by
  have inner : ∀ (done : List Nat) (l : Nat) (rest : List Nat), lv = done ++ l :: rest → ∀ y, ∃ ρ', forL (tgName 4) g_rows_of_b1 ((rows done).map eR) [some (.d (eR lv)), some (.d (.list ((rows done).map eR))), some (.d (eN l)), some (.own []), y, none] = .nx ρ' ∧
      ∃ y, ρ' = [some (.d (eR lv)), some (.d (.list ((rows done).map eR))), some (.d (eN l)), some (.own ((stepRows (rows done) l).map eR)), y, none] := by
    intro done l rest e y
    obtain ⟨b1, b2, b3⟩ := h.pre e
    have hl : l ≤ 3 := (h.lev l (by rw [e]; simp)).2
    refine forL_inv (fun d ρ => ∃ y, ρ = [some (.d (eR lv)), some (.d (.list ((rows done).map eR))), some (.d (eN l)), some (.own ((stepRows d l).map eR)), y, none]) (rows done) ?_ ⟨y, rfl⟩
    rintro d x r ρ ed ⟨y, rfl⟩
    have hx : x.length ≤ 4 := by rw [rows_mem_len done x (by rw [ed]; simp)]; exact b2
    have hd : d.length ≤ 81 := by rw [ed, List.length_append] at b1; omega
    refine ⟨[some (.d (eR lv)), some (.d (.list ((rows done).map eR))), some (.d (eN l)), some (.own ((stepRows d l).map eR)), some (.d (eR x)), none], [some (.d (eR lv)), some (.d (.list ((rows done).map eR))), some (.d (eN l)), some (.own ((stepRows (d ++ [x]) l).map eR)), some (.d (eR x)), none], by simp, ?_, _, rfl⟩
    unfold g_rows_of_b1
    have e2 := ext_row (r := x) (l := l) (a := some (.d (eR lv))) (b := some (.d (.list ((rows done).map eR)))) (c := some (.own ((stepRows d l).map eR))) (by omega) (by omega)
    rw [extS_own (i := 3) (xs := (stepRows d l).map eR) (ys := ((List.range l).map fun s => x ++ [s]).map eR) rfl (congrArg (Res.map PyData.list) e2) (by
      have := sizeLine_big
      have h1 : d.length * l ≤ 81 * 3 := Nat.mul_le_mul hd hl
      simp [step_len]
      omega)]
    simp [stepRows, List.flatMap_append]
  have outer : ∃ ρ', forL (tgName 2) g_rows_of_b2 (lv.map eN) [some (.d (eR lv)), some (.d (.list [.tuple []])), none, none, none, none] = .nx ρ' ∧ ∃ x y z, ρ' = [some (.d (eR lv)), some (.d (.list ((rows lv).map eR))), x, y, z, none] := by
    refine forL_inv (fun d ρ => ∃ x y z, ρ = [some (.d (eR lv)), some (.d (.list ((rows d).map eR))), x, y, z, none]) lv ?_ ⟨none, none, none, rfl⟩
    rintro d l r ρ e ⟨x, y, z, rfl⟩
    obtain ⟨ρ', h1, w, h2⟩ := inner d l r e z
    subst h2
    refine ⟨_, _, by simp; rfl, ?_, some (.d (eN l)), some (.d (.list ((rows (d ++ [l])).map eR))), w, rfl⟩
    unfold g_rows_of_b2
    simp [h1, rows_snoc]
  obtain ⟨ρ', h1, x, y, z, rfl⟩ := outer
  unfold f_rows_of
  rw [runD_eq]
  show ofS (g_rows_of [some (.d (eR lv)), none, none, none, none, none]) = _
  unfold g_rows_of
  simp
  rw [show eR lv = .tuple (lv.map eN) from rfl] at h1 ⊢
  simp [h1]
end
end DL

/-! The plain part, 3: the book is a book; tests. -/
namespace DL
open PySem PySem.Spec PyProof.Rows L2
section
open DM
theorem m_is_within (x lo hi : Int) : f_is_within [.int x, .int lo, .int hi] = .rt (.bool (decide (lo ≤ x) && decide (x ≤ hi))) := by
  unfold f_is_within
  rw [runD_eq]
  show ofS (g_is_within [some (.d (.int x)), some (.d (.int lo)), some (.d (.int hi))]) = _
  unfold g_is_within
  by_cases h1 : lo ≤ x <;> by_cases h2 : x ≤ hi <;> simp [h1, h2]
def lastOf (m : Meet) : Int := match m.getLast? with
  | none => -1
  | some p => (p.1 : Int)
theorem m_is_meeting {lv : List Nat} {m : Meet} (h : IsMeet lv m) : f_is_meeting [eR lv, eM m, .int 1, .int 3] = .rt (.bool true) := by
  have loop : ∃ ρ', forL (tgName 5) g_is_meeting_b1 (m.map eP) [some (.d (eR lv)), some (.d (eM m)), some (.d (.int 1)), some (.d (.int 3)), some (.d (.int (-1))), none] = .nx ρ' ∧
      ∃ y, ρ' = [some (.d (eR lv)), some (.d (eM m)), some (.d (.int 1)), some (.d (.int 3)), some (.d (.int (lastOf m))), y] := by
    refine forL_inv (fun d ρ => ∃ y, ρ = [some (.d (eR lv)), some (.d (eM m)), some (.d (.int 1)), some (.d (.int 3)), some (.d (.int (lastOf d))), y]) m ?_ ⟨none, rfl⟩
    rintro d p r ρ e ⟨y, rfl⟩
    obtain ⟨l, hl, hp⟩ := h.at_ p (by rw [e]; simp)
    have hlt := (List.getElem?_eq_some_iff.mp hl).1
    have hla : atI (lv.map eN) (p.1 : Int) = some (eN l) := by
      rw [atR hlt]
      congr 2
      exact (List.getElem?_eq_some_iff.mp hl).2
    have hlast : lastOf d + 1 ≤ (p.1 : Int) := by
      unfold lastOf
      cases hg : d.getLast? with
      | none => simp
      | some q =>
        have hq : q ∈ d := List.mem_of_getLast? hg
        have := h.inc
        rw [e, List.pairwise_append] at this
        have := this.2.2 q hq p (by simp)
        simp
        omega
    refine ⟨[some (.d (eR lv)), some (.d (eM m)), some (.d (.int 1)), some (.d (.int 3)), some (.d (.int (lastOf d))), some (.d (eP p))], [some (.d (eR lv)), some (.d (eM m)), some (.d (.int 1)), some (.d (.int 3)), some (.d (.int (lastOf (d ++ [p])))), some (.d (eP p))], by simp, ?_, _, rfl⟩
    have e1 : (p.1 : Int) ≤ (lv.length : Int) - 1 := by omega
    have e2 : (p.2 : Int) ≤ (l : Int) - 1 := by omega
    have e3 : lastOf (d ++ [p]) = (p.1 : Int) := by simp [lastOf]
    unfold g_is_meeting_b1
    simp [eP, eR, eN, m_is_within, hlast, e1]
    rw [hla]
    simp [eN, m_is_within, e2, e3]
  obtain ⟨ρ', h1, y, rfl⟩ := loop
  unfold f_is_meeting
  rw [runD_eq]
  show ofS (g_is_meeting [some (.d (eR lv)), some (.d (eM m)), some (.d (.int 1)), some (.d (.int 3)), none, none]) = _
  unfold g_is_meeting
  have e1 : (1 : Int) ≤ (m.length : Int) := by have := h.lo; omega
  have e2 : (m.length : Int) ≤ 3 := by have := h.hi; omega
  rw [show eM m = .tuple (m.map eP) from rfl] at h1 ⊢
  simp [e1, e2, h1]
theorem mulD_small {i j : Int} (h : smallI j = true) : mulD (.int i) (.int j) = some (.int (i * j)) := by
  have e : mulD (.int i) (.int j) = if (smallI i || smallI j) = true then some (.int (i * j)) else none := rfl
  rw [e, h, Bool.or_true, if_pos rfl]
theorem mulD_small' {i j : Int} (h : smallI i = true) : mulD (.int i) (.int j) = some (.int (i * j)) := by
  have e : mulD (.int i) (.int j) = if (smallI i || smallI j) = true then some (.int (i * j)) else none := rfl
  rw [e, h, Bool.true_or, if_pos rfl]
theorem b1_rows_in {a y : Option B} (i l : Nat) (hl : l ≤ 3) : g_rows_in_b1 [a, some (.d (.int i)), some (.d (eN l))] = .nx [a, some (.d (.int ((i * l : Nat) : Int))), some (.d (eN l))] := by
  have e : mulD (.int (i : Int)) (eN l) = some (.int ((i * l : Nat) : Int)) := (mulD_small (smallI_of (by omega) (by omega))).trans (by rw [Int.natCast_mul])
  unfold g_rows_in_b1
  rw [setS_ap, thenS_ap, op2_ap]
  simp only [rdB_ap, List.getElem?_cons_succ, List.getElem?_cons_zero, Res.bind_ok]
  rw [e]
  rfl
theorem m_rows_in {lv : List Nat} (h : WL lv) : ∃ i : Int, i ≤ 81 ∧ f_rows_in [eR lv] = .rt (.int i) := by
  have loop : ∃ ρ', forL (tgName 2) g_rows_in_b1 (lv.map eN) [some (.d (eR lv)), some (.d (.int 1)), none] = .nx ρ' ∧ ∃ (i : Nat) (y : Option B), ρ' = [some (.d (eR lv)), some (.d (.int i)), y] ∧ i ≤ 3 ^ lv.length := by
    refine forL_inv (fun d ρ => ∃ (i : Nat) (y : Option B), ρ = [some (.d (eR lv)), some (.d (.int i)), y] ∧ i ≤ 3 ^ d.length) lv ?_ ⟨1, none, rfl, by simp⟩
    rintro d l r ρ e ⟨i, y, rfl, hi⟩
    have hl : l ≤ 3 := (h.lev l (by rw [e]; simp)).2
    refine ⟨[some (.d (eR lv)), some (.d (.int i)), some (.d (eN l))], [some (.d (eR lv)), some (.d (.int ((i * l : Nat) : Int))), some (.d (eN l))], by simp, ?_, _, _, rfl, ?_⟩
    · exact b1_rows_in i l hl (y := none)
    · rw [List.length_append]
      simp only [List.length_singleton, Nat.pow_succ]
      exact Nat.mul_le_mul hi hl
  obtain ⟨ρ', h1, i, y, rfl, hi⟩ := loop
  refine ⟨i, ?_, ?_⟩
  · have := Nat.pow_le_pow_right (show 0 < 3 by decide) h.hi
    have e : (3 : Nat) ^ 4 = 81 := by decide
    omega
  · unfold f_rows_in
    rw [runD_eq]
    show ofS (g_rows_in [some (.d (eR lv)), none, none]) = _
    unfold g_rows_in
    rw [show eR lv = .tuple (lv.map eN) from rfl] at h1 ⊢
    simp [h1]
theorem m_is_book {b : Book} (h : WF b) : f_is_book [eB b] = .rt (.bool true) := by
  have e1 : lc (toSeq (rdB 1)) (tgName 3) g_is_book_c1 (rd 3) [3] [some (.d (eB b)), some (.d (eR b.1)), some (.d (.tuple (b.2.map eM))), none, none] = .ok ((b.1.filter fun _ => false).map eN) :=
    lc_map (enc := eN) b.1 (by simp [eR]) fun l hl => ⟨[some (.d (eB b)), some (.d (eR b.1)), some (.d (.tuple (b.2.map eM))), some (.d (eN l)), none], by simp [wipeR], by
      have h1 : (1 : Int) ≤ (l : Int) := by have := (h.wl.lev l hl).1; omega
      have h2 : (l : Int) ≤ 4 := by have := (h.wl.lev l hl).2; omega
      simp [g_is_book_c1, eN, m_is_within, h1, h2], fun z => by cases z⟩
  have e2 : lc (toSeq (rdB 2)) (tgName 4) g_is_book_c2 (rd 4) [4] [some (.d (eB b)), some (.d (eR b.1)), some (.d (.tuple (b.2.map eM))), none, none] = .ok ((b.2.filter fun _ => false).map eM) :=
    lc_map (enc := eM) b.2 (by simp) fun m hm => ⟨[some (.d (eB b)), some (.d (eR b.1)), some (.d (.tuple (b.2.map eM))), none, some (.d (eM m))], by simp [wipeR], by
      simp [g_is_book_c2, m_is_meeting (h.ban m hm)], fun z => by cases z⟩
  obtain ⟨i, hi, e3⟩ := m_rows_in h.wl
  unfold f_is_book
  rw [runD_eq]
  show ofS (g_is_book [some (.d (eB b)), none, none, none, none]) = _
  unfold g_is_book
  have f1 : (1 : Int) ≤ (b.1.length : Int) := by have := h.wl.lo; omega
  have f2 : (b.1.length : Int) ≤ 6 := by have := h.wl.hi; omega
  have f3 : ¬ (400 < i) := by omega
  have f4 : ¬ (12 < (b.2.length : Int)) := by have := h.bans; omega
  have fe : ∀ {α : Type} (xs : List α), xs.filter (fun _ => false) = [] := fun xs => by simp
  rw [fe] at e1 e2
  rw [show eB b = .tuple [eR b.1, .tuple (b.2.map eM)] from rfl] at e1 e2 ⊢
  rw [show eR b.1 = .tuple (b.1.map eN) from rfl] at e1 e2 e3 ⊢
  simp [f1, f2, e1, e2, e3, f3, f4]
theorem m_checked {b : Book} (h : WF b) : f_checked [eB b] = .rt (eB b) := by
  unfold f_checked
  rw [runD_eq]
  show ofS (g_checked [some (.d (eB b))]) = _
  unfold g_checked
  simp [m_is_book h]
theorem m_look_strength {b : Book} (h : WF b) {s : Nat} (h1 : 1 ≤ s) (h2 : s ≤ 3) (h3 : s ≤ b.1.length) : f_look_strength [eB b, .int s] = .rt .none := by
  unfold f_look_strength
  rw [runD_eq]
  show ofS (g_look_strength [some (.d (eB b)), some (.d (.int s))]) = _
  unfold g_look_strength
  have e1 : (1 : Int) ≤ (s : Int) := by omega
  have e2 : (s : Int) ≤ (if (b.1.length : Int) < 3 then (b.1.length : Int) else 3) := by split <;> omega
  simp [m_checked h]
  simp [eB, eR, m_is_within, e1, e2]
theorem bans_lt {b : Book} (h : WF b) {r : Row} (hr : r ∈ rows b.1) : ∀ m ∈ b.2, ∀ p ∈ m, p.1 < r.length := fun m hm p hp => by
  rw [rows_mem_len b.1 r hr]
  exact (h.ban m hm).lt p hp
theorem m_tests_of {b : Book} (h : WF b) : f_tests_of [eB b] = .ro ((tests b).map eR) := by
  have e : lc (toSeq (callR 1 f_rows_of (asCons (op2 ixD (rdB 0) (kst (.int 0))) asNil))) (tgName 1) g_tests_of_c1 (rd 1) [1] [some (.d (eB b)), none] = .ok (((rows b.1).filter fun r => allowed b r).map eR) :=
    lc_map (enc := eR) (rows b.1) (by simp [eB, m_rows_of h.wl]) fun r hr => ⟨[some (.d (eB b)), some (.d (eR r))], by simp [wipeR], by simp [g_tests_of_c1, m_is_allowed (bans_lt h hr)], fun _ => by simp⟩
  unfold f_tests_of
  rw [runD_eq]
  show ofS (g_tests_of [some (.d (eB b)), none]) = _
  unfold g_tests_of
  rw [retO_ap, thenS_ap, e]
  rfl
theorem m_all_tests {b : Book} (h : WF b) : f_all_tests [eB b] = .ro ((tests b).map eR) := by
  unfold f_all_tests
  rw [runD_eq]
  show ofS (g_all_tests [some (.d (eB b))]) = _
  unfold g_all_tests
  simp [m_checked h, m_tests_of h]
end
end DL

/-! The plain part, 4: the law's own rows, tests, book, strength. -/
namespace DL
open PySem PySem.Spec PyProof.Rows L2
section
open DM
theorem m_l_rows {lv : List Nat} (h : WL lv) : f_l_rows [eR lv] = .rt (.list ((rows lv).map eR)) := by
  have inner : ∀ (done : List Nat) (l : Nat) (rest : List Nat), lv = done ++ l :: rest → ∀ y, ∃ ρ', forL (tgName 4) g_l_rows_b1 ((rows done).map eR) [some (.d (eR lv)), some (.d (.list ((rows done).map eR))), some (.d (eN l)), some (.d (.list [])), y, none] = .nx ρ' ∧
      ∃ y, ρ' = [some (.d (eR lv)), some (.d (.list ((rows done).map eR))), some (.d (eN l)), some (.d (.list ((stepRows (rows done) l).map eR))), y, none] := by
    intro done l rest e y
    obtain ⟨b1, b2, b3⟩ := h.pre e
    have hl : l ≤ 3 := (h.lev l (by rw [e]; simp)).2
    refine forL_inv (fun d ρ => ∃ y, ρ = [some (.d (eR lv)), some (.d (.list ((rows done).map eR))), some (.d (eN l)), some (.d (.list ((stepRows d l).map eR))), y, none]) (rows done) ?_ ⟨y, rfl⟩
    rintro d x r ρ ed ⟨y, rfl⟩
    have hx : x.length ≤ 4 := by rw [rows_mem_len done x (by rw [ed]; simp)]; exact b2
    have hd : d.length ≤ 81 := by rw [ed, List.length_append] at b1; omega
    refine ⟨[some (.d (eR lv)), some (.d (.list ((rows done).map eR))), some (.d (eN l)), some (.d (.list ((stepRows d l).map eR))), some (.d (eR x)), none], [some (.d (eR lv)), some (.d (.list ((rows done).map eR))), some (.d (eN l)), some (.d (.list ((stepRows (d ++ [x]) l).map eR))), some (.d (eR x)), none], by simp, ?_, _, rfl⟩
    have e2 := ext_row (r := x) (l := l) (a := some (.d (eR lv))) (b := some (.d (.list ((rows done).map eR)))) (c := some (.d (.list ((stepRows d l).map eR)))) (by omega) (by omega)
    have e3 : frz (lc (cb rng1 (asCons (rdB 2) asNil)) (tgName 5) yes g_l_rows_e1 [5]) [some (.d (eR lv)), some (.d (.list ((rows done).map eR))), some (.d (eN l)), some (.d (.list ((stepRows d l).map eR))), some (.d (eR x)), none] = .ok (.list (((List.range l).map fun s => x ++ [s]).map eR)) := congrArg (Res.map PyData.list) e2
    have hz : (stepRows d l).length + l ≤ sizeLine := by
      have := sizeLine_big
      have h1 : d.length * l ≤ 81 * 3 := Nat.mul_le_mul hd hl
      rw [step_len]
      omega
    unfold g_l_rows_b1
    rw [setS_ap, thenS_ap, op2_ap, e3]
    simp [hz, stepRows, List.flatMap_append]
    simp [stepRows] at hz
    simp [hz]
  have outer : ∃ ρ', forL (tgName 2) g_l_rows_b2 (lv.map eN) [some (.d (eR lv)), some (.d (.list [.tuple []])), none, none, none, none] = .nx ρ' ∧ ∃ x y z, ρ' = [some (.d (eR lv)), some (.d (.list ((rows lv).map eR))), x, y, z, none] := by
    refine forL_inv (fun d ρ => ∃ x y z, ρ = [some (.d (eR lv)), some (.d (.list ((rows d).map eR))), x, y, z, none]) lv ?_ ⟨none, none, none, rfl⟩
    rintro d l r ρ e ⟨x, y, z, rfl⟩
    obtain ⟨ρ', h1, w, h2⟩ := inner d l r e z
    subst h2
    refine ⟨_, _, by simp; rfl, ?_, some (.d (eN l)), some (.d (.list ((rows (d ++ [l])).map eR))), w, rfl⟩
    unfold g_l_rows_b2
    simp [h1, rows_snoc]
  obtain ⟨ρ', h1, x, y, z, rfl⟩ := outer
  unfold f_l_rows
  rw [runD_eq]
  show ofS (g_l_rows [some (.d (eR lv)), none, none, none, none, none]) = _
  unfold g_l_rows
  simp
  rw [show eR lv = .tuple (lv.map eN) from rfl] at h1 ⊢
  simp [h1]
theorem rows_le {b : Book} (h : WF b) : (rows b.1).length ≤ 81 := (h.wl.pre (done := b.1) (rest := []) (by simp)).1
theorem m_l_tests {b : Book} (h : WF b) : f_l_tests [eB b] = .ro ((tests b).map eR) := by
  have loop : ∃ ρ', forL (tgName 2) g_l_tests_b1 ((rows b.1).map eR) [some (.d (eB b)), some (.own []), none, none] = .nx ρ' ∧ ∃ y, ρ' = [some (.d (eB b)), some (.own (((rows b.1).filter (allowed b)).map eR)), y, none] := by
    refine forL_inv (fun d ρ => ∃ y, ρ = [some (.d (eB b)), some (.own ((d.filter (allowed b)).map eR)), y, none]) (rows b.1) ?_ ⟨none, rfl⟩
    rintro d r rest ρ e ⟨y, rfl⟩
    have hr : r ∈ rows b.1 := by rw [e]; simp
    refine ⟨[some (.d (eB b)), some (.own ((d.filter (allowed b)).map eR)), some (.d (eR r)), none], [some (.d (eB b)), some (.own (((d ++ [r]).filter (allowed b)).map eR)), some (.d (eR r)), none], by simp, ?_, _, rfl⟩
    have e1 : lc (toSeq (op2 ixD (rdB 0) (kst (.int 1)))) (tgName 3) g_l_tests_c1 (rd 3) [3] [some (.d (eB b)), some (.own ((d.filter (allowed b)).map eR)), some (.d (eR r)), none] = .ok ((b.2.filter fun m => meets r m).map eM) :=
      lc_map (enc := eM) b.2 (by simp [eB]) fun m hm => ⟨[some (.d (eB b)), some (.own ((d.filter (allowed b)).map eR)), some (.d (eR r)), some (.d (eM m))], by simp [wipeR], by simp [g_l_tests_c1, m_l_meets (bans_lt h hr m hm)], fun _ => by simp⟩
    have q := eqD_nm (P := allowed b r = true) (nmMs (b.2.filter fun m => meets r m)) nmNil (by decide) (by decide) (by simp [allowed])
    have hz : (d.filter (allowed b)).length < sizeLine := by
      have h1 := rows_le h
      have h2 := List.length_filter_le (allowed b) d
      have := sizeLine_big
      rw [e, List.length_append] at h1
      omega
    unfold g_l_tests_b1
    cases ha : allowed b r <;> simp [e1, q, ha, hz]
  obtain ⟨ρ', h1, y, rfl⟩ := loop
  unfold f_l_tests
  rw [runD_eq]
  show ofS (g_l_tests [some (.d (eB b)), none, none, none]) = _
  unfold g_l_tests
  have e0 : callR 1 f_l_rows (asCons (op2 ixD (rdB 0) (kst (.int 0))) asNil) [some (.d (eB b)), some (.own []), none, none] = .ok (.list ((rows b.1).map eR)) := by
    simp [eB, m_l_rows h.wl]
  simp only [seqS_ap, setO_ap, thenS_ap, disp_ap, asNil_ap, Res.bind_ok, List.length_nil, Nat.zero_le, if_true, List.set_cons_succ, List.set_cons_zero, forS_ap, toSeq_ap, e0, seqOf_list, Res.of_some, h1]
  simp [tests]
/-! ### the script -/
def eS (ns : List Int) : D := .list (ns.map PyData.int)
def cellOf (ns : List Int) (k : Nat) : Int := ns.getD k 0
theorem m_l_cell (ns : List Int) (k : Nat) : f_l_cell [eS ns, .int (k : Int)] = .rt (.int (cellOf ns k)) := by
  unfold f_l_cell
  rw [runD_eq]
  show ofS (g_l_cell [some (.d (eS ns)), some (.d (.int (k : Int)))]) = _
  unfold g_l_cell
  by_cases h : k < ns.length
  · have e : atI (ns.map PyData.int) (k : Int) = some (.int (cellOf ns k)) := atI_nat (by
      rw [List.getElem?_map, List.getElem?_eq_getElem h]
      simp [cellOf, List.getD, h])
    have h' : (k : Int) < (ns.length : Int) := by omega
    simp [eS, e, h']
  · have e : cellOf ns k = 0 := by simp [cellOf, List.getD, List.getElem?_eq_none (Nat.le_of_not_lt h)]
    have h' : ¬ (k : Int) < (ns.length : Int) := by omega
    simp [eS, e, h']
def mixI (c p m : Int) : Int := c * 48271 % p % m
theorem mix_lo (c p : Int) {m : Int} (h : 0 < m) : 0 ≤ mixI c p m := Int.emod_nonneg _ (by omega)
theorem mix_hi (c p : Int) {m : Int} (h : 0 < m) : mixI c p m < m := Int.emod_lt_of_pos _ h
theorem m_l_mix {c p m : Int} (hp : 0 < p) (hm : 0 < m) : f_l_mix [.int c, .int p, .int m] = .rt (.int (mixI c p m)) := by
  unfold f_l_mix
  rw [runD_eq]
  show ofS (g_l_mix [some (.d (.int c)), some (.d (.int p)), some (.d (.int m))]) = _
  unfold g_l_mix
  have e : mulD (.int c) (.int 48271) = some (.int (c * 48271)) := mulD_small (smallI_of (by omega) (by omega))
  simp only [retS_ap, thenS_ap, op2_ap, rdB_ap, kst_ap, List.getElem?_cons_succ, List.getElem?_cons_zero, Res.bind_ok, e, Res.of_some]
  simp [hp, hm, mixI]
/-- a number drawn, below m -/
theorem mix_nat (c p : Int) {m : Nat} (h : 0 < m) : ∃ k : Nat, mixI c p m = (k : Int) ∧ k < m := by
  have h1 := mix_lo c p (m := (m : Int)) (by omega)
  have h2 := mix_hi c p (m := (m : Int)) (by omega)
  exact ⟨(mixI c p m).toNat, by omega, by omega⟩
theorem ban_meet {lv : List Nat} {things : List Nat} (f : Nat → Nat) (h1 : things ≠ []) (h3 : things.length ≤ 3) (hi : things.Pairwise (· < ·)) (hf : ∀ th ∈ things, ∃ l, lv[th]? = some l ∧ f th < l) : IsMeet lv (things.map fun th => (th, f th)) := by
  refine ⟨?_, by rw [List.length_map]; exact h3, ?_, fun p hp => ?_⟩
  · rw [List.length_map]
    exact List.length_pos_iff.mpr h1
  · rw [List.pairwise_map]
    exact hi
  · obtain ⟨th, ht, rfl⟩ := List.mem_map.mp hp
    exact hf th ht
theorem cut3 (xs : List D) : cutG xs none (some 3) = xs.take 3 := by
  unfold cutG
  rw [show HT.sIx xs.length 0 none = 0 from rfl, show HT.sIx xs.length xs.length (some (3 : Int)) = min 3 xs.length from HT.sIx_nat xs.length xs.length 3, List.drop_zero, Nat.sub_zero]
  by_cases h : 3 ≤ xs.length
  · rw [Nat.min_eq_left h]
  · rw [Nat.min_eq_right (by omega), List.take_of_length_le (Nat.le_refl _), List.take_of_length_le (by omega)]
end
end DL

/-! The plain part, 5: the law's book, its strength. -/
namespace DL
open PySem PySem.Spec PyProof.Rows L2
section
open DM
theorem upTo_N' (n : Nat) : upTo 0 ((n : Int)).toNat = (List.range n).map eN := by rw [Int.toNat_natCast, upTo_N]
theorem rng1_N {n : Nat} (h : n ≤ 1000) : rng1 [.int (n : Int)] = some ((List.range n).map eN) := by
  rw [rng1_int, if_pos (smallR_of (by omega) (by omega)), upTo_N']
theorem b1_l_book {ns : List Int} {at_ k : Nat} {c m y z8 z9 z10 : Option B} {lv : List Nat} (hn : ns.length ≤ 63) (hk : k ≤ 3) (hl : lv.length ≤ 1000) : ∃ (l : Nat) (t : D), 1 ≤ l ∧ l ≤ 3 ∧
    g_l_book_b1 [some (.d (eS ns)), some (.d (.int (at_ : Int))), c, m, some (.own (lv.map eN)), some (.d (eN k)), y, none, z8, z9, z10] = .nx [some (.d (eS ns)), some (.d (.int (at_ : Int))), c, m, some (.own ((lv ++ [l]).map eN)), some (.d (eN k)), some (.d t), none, z8, z9, z10] := by
  have hz : lv.length < sizeLine := by have := sizeLine_big; omega
  have e1 : mulD (.int 31) (.int (k : Int)) = some (.int (31 * (k : Int))) := mulD_small' (smallI_of (by omega) (by omega))
  have e2 : mulD (.int (31 * (k : Int))) (.int (k : Int)) = some (.int (31 * (k : Int) * (k : Int))) := mulD_small (smallI_of (by omega) (by omega))
  have e3 := m_l_cell ns (at_ + 1)
  rw [Int.natCast_add] at e3
  have e4 : ¬ (63 < (ns.length : Int)) := by omega
  have core : ∀ most : Nat, 0 < most → most ≤ 3 → ∃ l : Nat, 1 ≤ l ∧ l ≤ 3 ∧ appS 4 (op2 addD (kst (.int 1)) (callR 3 f_l_mix (asCons (op2 addD (op2 addD (callR 2 f_l_cell (asCons (rd 0) (asCons (op2 addD (rdB 1) (kst (.int 1))) asNil))) (op2 mulD (op2 mulD (kst (.int 31)) (rdB 5)) (rdB 5))) (rdB 5)) (asCons (kst (.int 9967)) (asCons (rd 6) asNil)))))
      [some (.d (eS ns)), some (.d (.int (at_ : Int))), c, m, some (.own (lv.map eN)), some (.d (.int (k : Int))), some (.d (.int (most : Int))), none, z8, z9, z10] = .nx [some (.d (eS ns)), some (.d (.int (at_ : Int))), c, m, some (.own ((lv ++ [l]).map eN)), some (.d (.int (k : Int))), some (.d (.int (most : Int))), none, z8, z9, z10] := by
    intro most h0 h3
    obtain ⟨j, ej, hj⟩ := mix_nat (cellOf ns (at_ + 1) + 31 * (k : Int) * (k : Int) + (k : Int)) 9967 h0
    refine ⟨1 + j, by omega, by omega, ?_⟩
    have e5 := m_l_mix (c := cellOf ns (at_ + 1) + 31 * (k : Int) * (k : Int) + (k : Int)) (p := 9967) (m := (most : Int)) (by decide) (by omega)
    rw [ej] at e5
    have e6 : ((1 + j : Nat) : Int) = 1 + (j : Int) := by omega
    rw [appS_own (xs := lv.map eN) _ rfl]
    simp only [thenS_ap, op2_ap, callR_ap, asCons_ap, asNil_ap, rd_ap, rdB_ap, kst_ap, List.getElem?_cons_succ, List.getElem?_cons_zero, Res.bind_ok, Res.map_ok, addD_int, Res.of_some, List.length_cons, List.length_nil, Nat.zero_add, if_true, e1, e2]
    rw [show ((1 : Nat) : Int) = 1 from rfl] at e3
    simp only [Nat.reduceAdd, if_true, e3, res_rt, Res.bind_ok, addD_int, Res.of_some, Res.map_ok, List.length_cons, List.length_nil, e5]
    simp [hz, eN, e6]
  unfold g_l_book_b1
  rw [show eN k = .int (k : Int) from rfl]
  by_cases h : (k : Int) < 2
  · obtain ⟨l, h1, h2, h3⟩ := core 3 (by decide) (by decide)
    refine ⟨l, .int 3, h1, h2, ?_⟩
    rw [show ((3 : Nat) : Int) = 3 from rfl] at h3
    simp only [seqS_ap, setS_ap, thenS_ap, kst_ap, ifS_ap, orT_ap, toB_ap, op2_ap, rdB_ap, List.getElem?_cons_succ, List.getElem?_cons_zero, List.set_cons_succ, List.set_cons_zero, Res.bind_ok, cmpI_int, decide_eq_true h, Res.of_some, boolD_bool, if_true]
    exact h3
  · obtain ⟨l, h1, h2, h3⟩ := core 2 (by decide) (by decide)
    refine ⟨l, .int 2, h1, h2, ?_⟩
    rw [show ((2 : Nat) : Int) = 2 from rfl] at h3
    have e5 : lenD [eS ns] = some (.int (ns.length : Int)) := by simp [eS]
    simp only [seqS_ap, setS_ap, thenS_ap, kst_ap, ifS_ap, orT_ap, toB_ap, op2_ap, rdB_ap, cb_ap, asCons_ap, asNil_ap, Res.map_ok, e5, List.getElem?_cons_succ, List.getElem?_cons_zero, List.set_cons_succ, List.set_cons_zero, Res.bind_ok, cmpI_int, decide_eq_false h, decide_eq_false e4, Res.of_some, boolD_bool, Bool.false_eq_true, if_false]
    exact h3
/-- the things of a ban -/
theorem b2_l_book {ns : List Int} {at_ k many : Nat} {c y6 y8 y10 : Option B} {lv : List Nat} {bans : List Meet} (hk : k ≤ 3) (hm : many = lv.length) (hw : WL lv) (hb : bans.length ≤ 1000) : ∃ (m : Meet) (x8 x10 : D), IsMeet lv m ∧
    g_l_book_b2 [some (.d (eS ns)), some (.d (.int (at_ : Int))), c, some (.d (eN many)), some (.own (lv.map eN)), some (.d (eN k)), y6, some (.own (bans.map eM)), y8, none, y10] =
      .nx [some (.d (eS ns)), some (.d (.int (at_ : Int))), c, some (.d (eN many)), some (.own (lv.map eN)), some (.d (eN k)), y6, some (.own ((bans ++ [m]).map eM)), some (.d x8), none, some (.d x10)] := by
  have hm4 : many ≤ 4 := by rw [hm]; exact hw.hi
  have hm1 : 1 ≤ many := by rw [hm]; exact hw.lo
  have hz : bans.length < sizeLine := by have := sizeLine_big; omega
  have e1 : mulD (.int 53) (.int (k : Int)) = some (.int (53 * (k : Int))) := mulD_small' (smallI_of (by omega) (by omega))
  have e2 : mulD (.int (53 * (k : Int))) (.int (k : Int)) = some (.int (53 * (k : Int) * (k : Int))) := mulD_small (smallI_of (by omega) (by omega))
  have e3 : mulD (.int 7) (.int (k : Int)) = some (.int (7 * (k : Int))) := mulD_small' (smallI_of (by omega) (by omega))
  have e4 := m_l_cell ns (at_ + 2)
  rw [Int.natCast_add, show ((2 : Nat) : Int) = 2 from rfl] at e4
  generalize hseed : cellOf ns (at_ + 2) + 53 * (k : Int) * (k : Int) + 7 * (k : Int) = seed
  -- seed
  have s8 : ∀ {z9 z10 : Option B}, setS 8 (op2 addD (op2 addD (callR 2 f_l_cell (asCons (rd 0) (asCons (op2 addD (rdB 1) (kst (.int 2))) asNil))) (op2 mulD (op2 mulD (kst (.int 53)) (rdB 5)) (rdB 5))) (op2 mulD (kst (.int 7)) (rdB 5)))
      [some (.d (eS ns)), some (.d (.int (at_ : Int))), c, some (.d (eN many)), some (.own (lv.map eN)), some (.d (eN k)), y6, some (.own (bans.map eM)), y8, z9, z10] = .nx [some (.d (eS ns)), some (.d (.int (at_ : Int))), c, some (.d (eN many)), some (.own (lv.map eN)), some (.d (eN k)), y6, some (.own (bans.map eM)), some (.d (.int seed)), z9, z10] := by
    intro z9 z10
    rw [show eN k = .int (k : Int) from rfl]
    simp only [setS_ap, thenS_ap, op2_ap, callR_ap, asCons_ap, asNil_ap, rd_ap, rdB_ap, kst_ap, List.getElem?_cons_succ, List.getElem?_cons_zero, Res.bind_ok, Res.map_ok, addD_int, Res.of_some, List.length_cons, List.length_nil, Nat.zero_add, Nat.reduceAdd, if_true, e1, e2, e3, e4, res_rt, hseed, List.set_cons_succ, List.set_cons_zero]
  -- the drawn things
  have dr : ∀ (x : Nat) {z10 : Option B}, x ≤ 4 → g_l_book_c1 [some (.d (eS ns)), some (.d (.int (at_ : Int))), c, some (.d (eN many)), some (.own (lv.map eN)), some (.d (eN k)), y6, some (.own (bans.map eM)), some (.d (.int seed)), some (.d (eN x)), z10] = .ok (decide (mixI (seed + 17 * (x : Int)) 9941 2 = 1)) := by
    intro x z10 hx
    have e5 : mulD (.int 17) (.int (x : Int)) = some (.int (17 * (x : Int))) := mulD_small' (smallI_of (by omega) (by omega))
    have e6 := m_l_mix (c := seed + 17 * (x : Int)) (p := 9941) (m := 2) (by decide) (by decide)
    unfold g_l_book_c1
    rw [show eN x = .int (x : Int) from rfl]
    simp only [toB_ap, op2_ap, callR_ap, asCons_ap, asNil_ap, rdB_ap, kst_ap, List.getElem?_cons_succ, List.getElem?_cons_zero, Res.bind_ok, Res.map_ok, addD_int, Res.of_some, List.length_cons, List.length_nil, Nat.zero_add, Nat.reduceAdd, if_true, e5, e6, res_rt, eqD_int, boolD_bool]
  have d10 : sl3 cutD (frz (lc (cb rng1 (asCons (rdB 3) asNil)) (tgName 9) g_l_book_c1 (rd 9) [9])) ptN (ptS (kst (.int 3))) [some (.d (eS ns)), some (.d (.int (at_ : Int))), c, some (.d (eN many)), some (.own (lv.map eN)), some (.d (eN k)), y6, some (.own (bans.map eM)), some (.d (.int seed)), none, y10] =
      .ok (.list ((((List.range many).filter fun x : Nat => decide (mixI (seed + 17 * (x : Int)) 9941 2 = 1)).take 3).map eN)) := by
    have := lc_map (fi := cb rng1 (asCons (rdB 3) asNil)) (t := tgName 9) (c := g_l_book_c1) (e := rd 9) (vs := [9]) (ρ := [some (.d (eS ns)), some (.d (.int (at_ : Int))), c, some (.d (eN many)), some (.own (lv.map eN)), some (.d (eN k)), y6, some (.own (bans.map eM)), some (.d (.int seed)), none, y10]) (enc := eN)
      (p := fun x : Nat => decide (mixI (seed + 17 * (x : Int)) 9941 2 = 1)) (g := eN) (List.range many) (by
        simp only [cb_ap, asCons_ap, asNil_ap, rdB_ap, List.getElem?_cons_succ, List.getElem?_cons_zero, Res.bind_ok, Res.map_ok]
        rw [show eN many = .int (many : Int) from rfl, rng1_N (by omega)]
        rfl) fun x hx => ⟨_, rfl, dr x (by have := List.mem_range.mp hx; omega), fun _ => rfl⟩
    rw [sl3_ap, frz_ap, this]
    show Res.of (cutD (.list _) none (some 3)) = _
    show Res.ok (PyData.list (cutG _ none (some 3))) = _
    rw [cut3, List.map_take]
  obtain ⟨things, ht, hne, h3, hinc, hlt⟩ : ∃ things : List Nat, ifS (toB (op2 eqD (rdB 10) (frz (disp asNil)))) (setS 10 (frz (disp (asCons (callR 3 f_l_mix (asCons (rd 8) (asCons (kst (.int 9931)) (asCons (rd 3) asNil)))) asNil)))) SO.nx
      [some (.d (eS ns)), some (.d (.int (at_ : Int))), c, some (.d (eN many)), some (.own (lv.map eN)), some (.d (eN k)), y6, some (.own (bans.map eM)), some (.d (.int seed)), none, some (.d (.list ((((List.range many).filter fun x : Nat => decide (mixI (seed + 17 * (x : Int)) 9941 2 = 1)).take 3).map eN)))] =
      .nx [some (.d (eS ns)), some (.d (.int (at_ : Int))), c, some (.d (eN many)), some (.own (lv.map eN)), some (.d (eN k)), y6, some (.own (bans.map eM)), some (.d (.int seed)), none, some (.d (.list (things.map eN)))] ∧ things ≠ [] ∧ things.length ≤ 3 ∧ things.Pairwise (· < ·) ∧ ∀ th ∈ things, th < many := by
    generalize hT : ((List.range many).filter fun x : Nat => decide (mixI (seed + 17 * (x : Int)) 9941 2 = 1)).take 3 = T
    have q := eqD_nm (P := T = []) (a := .list (T.map eN)) (b := .list []) (m := 1) (n := 1) (.list fun x hx => by obtain ⟨j, _, rfl⟩ := List.mem_map.mp hx; exact nmN j) nmNil (by decide) (by decide) (by simp)
    by_cases hT0 : T = []
    · obtain ⟨j, ej, hj⟩ := mix_nat seed 9931 (m := many) (by omega)
      have e6 := m_l_mix (c := seed) (p := 9931) (m := (many : Int)) (by decide) (by omega)
      rw [ej] at e6
      refine ⟨[j], ?_, by simp, by simp, by simp, by simpa using hj⟩
      rw [decide_eq_true hT0] at q
      rw [show eN many = .int (many : Int) from rfl]
      simp only [ifS_ap, thenS_ap, toB_ap, op2_ap, frz_ap, disp_ap, asNil_ap, Res.bind_ok, Res.map_ok, List.length_nil, Nat.zero_le, if_true, rdB_ap, List.getElem?_cons_succ, List.getElem?_cons_zero, q, Res.of_some, boolD_bool, setS_ap, asCons_ap, callR_ap, rd_ap, kst_ap, List.length_cons, Nat.zero_add, Nat.reduceAdd, e6, res_rt]
      simp [eN]
    · refine ⟨T, ?_, hT0, ?_, ?_, ?_⟩
      · rw [decide_eq_false hT0] at q
        simp only [ifS_ap, thenS_ap, toB_ap, op2_ap, frz_ap, disp_ap, asNil_ap, Res.bind_ok, Res.map_ok, List.length_nil, Nat.zero_le, if_true, rdB_ap, List.getElem?_cons_succ, List.getElem?_cons_zero, q, Res.of_some, boolD_bool]
        simp
      · rw [← hT]; exact List.length_take_le 3 _
      · rw [← hT]; exact (List.pairwise_lt_range (n := many)).sublist (List.Sublist.trans (List.take_sublist _ _) List.filter_sublist)
      · intro th hth
        rw [← hT] at hth
        exact List.mem_range.mp (List.mem_filter.mp (List.mem_of_mem_take hth)).1
  -- the ban
  have hset : ∀ th ∈ things, ∃ l s : Nat, lv[th]? = some l ∧ s < l ∧ mixI (seed + 5 * (th : Int)) 9929 (l : Int) = (s : Int) := by
    intro th hth
    have hlt' : th < lv.length := by rw [← hm]; exact hlt th hth
    have h1 := (hw.lev lv[th] (List.getElem_mem hlt')).1
    obtain ⟨s, es, hs⟩ := mix_nat (seed + 5 * (th : Int)) 9929 (m := lv[th]) (by omega)
    exact ⟨lv[th], s, List.getElem?_eq_getElem hlt', hs, es⟩
  let f : Nat → Nat := fun th => (mixI (seed + 5 * (th : Int)) 9929 ((lv.getD th 1 : Nat) : Int)).toNat
  have hf : ∀ th ∈ things, ∃ l, lv[th]? = some l ∧ f th < l ∧ mixI (seed + 5 * (th : Int)) 9929 (l : Int) = (f th : Int) := by
    intro th hth
    obtain ⟨l, s, h1, h2, h3⟩ := hset th hth
    have : lv.getD th 1 = l := by simp [List.getD, h1]
    have e : f th = s := by show (mixI _ _ ((lv.getD th 1 : Nat) : Int)).toNat = s; rw [this, h3]; simp
    exact ⟨l, h1, by rw [e]; exact h2, by rw [e]; exact h3⟩
  refine ⟨things.map fun th => (th, f th), .int seed, .list (things.map eN), ban_meet f hne h3 hinc fun th hth => let ⟨l, a, b, _⟩ := hf th hth; ⟨l, a, b⟩, ?_⟩
  have elem : ∀ th ∈ things, g_l_book_e1 [some (.d (eS ns)), some (.d (.int (at_ : Int))), c, some (.d (eN many)), some (.own (lv.map eN)), some (.d (eN k)), y6, some (.own (bans.map eM)), some (.d (.int seed)), some (.d (eN th)), some (.d (.list (things.map eN)))] = .ok (eP (th, f th)) := by
    intro th hth
    obtain ⟨l, h1, h2, h3⟩ := hf th hth
    have hthm := hlt th hth
    have e5 : mulD (.int 5) (.int (th : Int)) = some (.int (5 * (th : Int))) := mulD_small' (smallI_of (by omega) (by omega))
    have e6 := m_l_mix (c := seed + 5 * (th : Int)) (p := 9929) (m := (l : Int)) (by decide) (by omega)
    rw [h3] at e6
    have e7 : atI (lv.map eN) (th : Int) = some (.int (l : Int)) := atI_nat (by rw [List.getElem?_map, h1]; rfl)
    unfold g_l_book_e1
    rw [show eN th = .int (th : Int) from rfl]
    simp only [dispT_ap, disp_ap, asCons_ap, asNil_ap, callR_ap, op2_ap, rd_ap, rdB_ap, kst_ap, List.getElem?_cons_succ, List.getElem?_cons_zero, Res.bind_ok, Res.map_ok, addD_int, Res.of_some, e5, ixD_list, e7, List.length_cons, List.length_nil, Nat.zero_add, Nat.reduceAdd, if_true, e6, res_rt]
    simp [eP, eN]
  have b7 := lc_map (fi := toSeq (rdB 10)) (t := tgName 9) (c := yes) (e := g_l_book_e1) (vs := [9]) (ρ := [some (.d (eS ns)), some (.d (.int (at_ : Int))), c, some (.d (eN many)), some (.own (lv.map eN)), some (.d (eN k)), y6, some (.own (bans.map eM)), some (.d (.int seed)), none, some (.d (.list (things.map eN)))]) (enc := eN)
    (p := fun _ : Nat => true) (g := fun th => eP (th, f th)) things rfl fun th hth => ⟨_, rfl, rfl, fun _ => elem th hth⟩
  rw [List.filter_eq_self.mpr (fun _ _ => rfl)] at b7
  unfold g_l_book_b2
  rw [seqS_ap, s8]
  show seqS _ _ _ = _
  rw [seqS_ap, setS_ap, thenS_ap, d10]
  show seqS _ _ _ = _
  simp only [List.set_cons_succ, List.set_cons_zero]
  rw [seqS_ap, ht]
  show appS 7 _ _ = _
  rw [appS_own (xs := bans.map eM) _ rfl]
  simp only [thenS_ap, cb_ap, asCons_ap, asNil_ap, frz_ap, b7, Res.map_ok, Res.bind_ok, toTupD_list, Res.of_some]
  rw [if_pos (by rw [List.length_map]; exact hz)]
  simp [eM]
end
end DL

/-! The plain part, 6: the law's book, its strength. -/
namespace DL
open PySem PySem.Spec PyProof.Rows L2
section
open DM
theorem m_l_book {ns : List Int} (at_ : Nat) (hn : ns.length ≤ 63) : ∃ b : Book, WF b ∧ f_l_book [eS ns, .int (at_ : Int)] = .rt (eB b) := by
  generalize hc : cellOf ns at_ = cell
  obtain ⟨j, ej, hj⟩ := mix_nat cell 9973 (m := 4) (by decide)
  rw [show ((4 : Nat) : Int) = 4 from rfl] at ej
  obtain ⟨nb, enb, hnb⟩ := mix_nat cell 9949 (m := 4) (by decide)
  rw [show ((4 : Nat) : Int) = 4 from rfl] at enb
  have x1 := m_l_mix (c := cell) (p := 9973) (m := 4) (by decide) (by decide)
  rw [ej] at x1
  have x2 := m_l_mix (c := cell) (p := 9949) (m := 4) (by decide) (by decide)
  rw [enb] at x2
  have emany : (1 : Int) + (j : Int) = ((1 + j : Nat) : Int) := by omega
  generalize hmany : 1 + j = many at emany
  have hm1 : 1 ≤ many := by omega
  have hm4 : many ≤ 4 := by omega
  have loop1 : ∃ ρ', forL (tgName 5) g_l_book_b1 ((List.range many).map eN) [some (.d (eS ns)), some (.d (.int (at_ : Int))), some (.d (.int cell)), some (.d (eN many)), some (.own []), none, none, none, none, none, none] = .nx ρ' ∧
      ∃ (lv : List Nat) (y z : Option B), ρ' = [some (.d (eS ns)), some (.d (.int (at_ : Int))), some (.d (.int cell)), some (.d (eN many)), some (.own (lv.map eN)), y, z, none, none, none, none] ∧ lv.length = (List.range many).length ∧ ∀ l ∈ lv, 1 ≤ l ∧ l ≤ 3 := by
    refine forL_inv (fun d ρ => ∃ (lv : List Nat) (y z : Option B), ρ = [some (.d (eS ns)), some (.d (.int (at_ : Int))), some (.d (.int cell)), some (.d (eN many)), some (.own (lv.map eN)), y, z, none, none, none, none] ∧ lv.length = d.length ∧ ∀ l ∈ lv, 1 ≤ l ∧ l ≤ 3) (List.range many) ?_ ⟨[], none, none, rfl, rfl, fun _ h => by cases h⟩
    rintro d k r ρ e ⟨lv, y, z, rfl, hl, hv⟩
    have hk : k < many := List.mem_range.mp (by rw [e]; simp)
    have hd : d.length ≤ 4 := by
      have := congrArg List.length e
      simp at this
      omega
    obtain ⟨l, t, h1, h2, h3⟩ := b1_l_book (at_ := at_) (c := some (.d (.int cell))) (m := some (.d (eN many))) (y := z) (z8 := none) (z9 := none) (z10 := none) hn (show k ≤ 3 by omega) (show lv.length ≤ 1000 by omega)
    refine ⟨_, _, rfl, h3, lv ++ [l], _, _, rfl, by simp [hl], fun x hx => ?_⟩
    rcases List.mem_append.mp hx with hx | hx
    · exact hv x hx
    · rw [List.mem_singleton.mp hx]; exact ⟨h1, h2⟩
  obtain ⟨ρ1, h1, lv, y, z, rfl, hl, hv⟩ := loop1
  rw [List.length_range] at hl
  have hw : WL lv := ⟨by omega, by omega, hv⟩
  have loop2 : ∃ ρ', forL (tgName 5) g_l_book_b2 ((List.range nb).map eN) [some (.d (eS ns)), some (.d (.int (at_ : Int))), some (.d (.int cell)), some (.d (eN many)), some (.own (lv.map eN)), y, z, some (.own []), none, none, none] = .nx ρ' ∧
      ∃ (bans : List Meet) (y z u v : Option B), ρ' = [some (.d (eS ns)), some (.d (.int (at_ : Int))), some (.d (.int cell)), some (.d (eN many)), some (.own (lv.map eN)), y, z, some (.own (bans.map eM)), u, none, v] ∧ bans.length = (List.range nb).length ∧ ∀ m ∈ bans, IsMeet lv m := by
    refine forL_inv (fun d ρ => ∃ (bans : List Meet) (y z u v : Option B), ρ = [some (.d (eS ns)), some (.d (.int (at_ : Int))), some (.d (.int cell)), some (.d (eN many)), some (.own (lv.map eN)), y, z, some (.own (bans.map eM)), u, none, v] ∧ bans.length = d.length ∧ ∀ m ∈ bans, IsMeet lv m) (List.range nb) ?_ ⟨[], y, z, none, none, rfl, rfl, fun _ h => by cases h⟩
    rintro d k r ρ e ⟨bans, y, z, u, v, rfl, hb, hv⟩
    have hk : k < nb := List.mem_range.mp (by rw [e]; simp)
    have hd : d.length ≤ 4 := by
      have := congrArg List.length e
      simp at this
      omega
    obtain ⟨m, x8, x10, g1, g2⟩ := b2_l_book (ns := ns) (at_ := at_) (c := some (.d (.int cell))) (y6 := z) (y8 := u) (y10 := v) (show k ≤ 3 by omega) hl.symm hw (show bans.length ≤ 1000 by omega)
    refine ⟨_, _, rfl, g2, bans ++ [m], _, _, _, _, rfl, by simp [hb], fun x hx => ?_⟩
    rcases List.mem_append.mp hx with hx | hx
    · exact hv x hx
    · rw [List.mem_singleton.mp hx]; exact g1
  obtain ⟨ρ2, h2, bans, y2, z2, u2, v2, rfl, hb, hbm⟩ := loop2
  rw [List.length_range] at hb
  refine ⟨(lv, bans), ⟨hw, by show bans.length ≤ 3; omega, hbm⟩, ?_⟩
  have e0 := m_l_cell ns at_
  rw [hc] at e0
  unfold f_l_book
  rw [runD_eq]
  show ofS (g_l_book [some (.d (eS ns)), some (.d (.int (at_ : Int))), none, none, none, none, none, none, none, none, none]) = _
  unfold g_l_book
  rw [show eN many = .int (many : Int) from rfl] at h1 h2
  have r1 : rng1 [.int (many : Int)] = some ((List.range many).map eN) := rng1_N (by omega)
  have r2 : rng1 [.int (nb : Int)] = some ((List.range nb).map eN) := rng1_N (by omega)
  simp only [seqS_ap, setS_ap, setO_ap, forS_ap, thenS_ap, cb_ap, op2_ap, disp_ap, asNil_ap, asCons_ap, callR_ap, rd_ap, rdB_ap, kst_ap, List.getElem?_cons_succ, List.getElem?_cons_zero, List.set_cons_succ, List.set_cons_zero, Res.bind_ok, Res.map_ok, List.length_cons, List.length_nil, Nat.zero_add, Nat.reduceAdd, Nat.zero_le, if_true, e0, res_rt, x1, x2, addD_int, Res.of_some, emany, r1, r2, h1, h2]
  simp [eB, eR, eM]
theorem m_l_strength {b : Book} (h : WF b) (c : Int) : ∃ s : Nat, 1 ≤ s ∧ s ≤ 3 ∧ s ≤ b.1.length ∧ f_l_strength [eB b, .int c] = .rt (.int (s : Int)) := by
  have hlo := h.wl.lo
  have hcore : ∀ v : Nat, 1 ≤ v → v ≤ 3 → ∃ s : Nat, 1 ≤ s ∧ s ≤ 3 ∧ s ≤ b.1.length ∧ (if (b.1.length : Int) < (v : Int) then (b.1.length : Int) else (v : Int)) = (s : Int) := by
    intro v h1 h3
    by_cases hl : (b.1.length : Int) < (v : Int)
    · exact ⟨b.1.length, hlo, by omega, Nat.le_refl _, by rw [if_pos hl]⟩
    · exact ⟨v, h1, h3, by omega, by rw [if_neg hl]⟩
  have h0 : 0 ≤ c % 4 := Int.emod_nonneg _ (by decide)
  have h4 : c % 4 < 4 := Int.emod_lt_of_pos _ (by decide)
  obtain ⟨k, hk⟩ : ∃ k : Nat, c % 4 = (k : Int) := ⟨(c % 4).toNat, by omega⟩
  have hk4 : k < 4 := by omega
  have hat : ∃ v : Nat, 1 ≤ v ∧ v ≤ 3 ∧ atI [PyData.int 2, .int 2, .int 1, .int 3] (k : Int) = some (.int (v : Int)) := by
    match k, hk4 with
    | 0, _ => exact ⟨2, by decide, by decide, atI_nat rfl⟩
    | 1, _ => exact ⟨2, by decide, by decide, atI_nat rfl⟩
    | 2, _ => exact ⟨1, by decide, by decide, atI_nat rfl⟩
    | 3, _ => exact ⟨3, by decide, by decide, atI_nat rfl⟩
  obtain ⟨v, v1, v3, hv⟩ := hat
  obtain ⟨s, s1, s2, s3, hs⟩ := hcore v v1 v3
  refine ⟨s, s1, s2, s3, ?_⟩
  unfold f_l_strength
  rw [runD_eq]
  show ofS (g_l_strength [some (.d (eB b)), some (.d (.int c))]) = _
  unfold g_l_strength
  have hm : modD (.int c) (.int 4) = some (.int (k : Int)) := by simp [hk]
  have hl : ixD (eB b) (.int 0) = some (eR b.1) := by simp [eB]
  have hn : lenD [eR b.1] = some (.int (b.1.length : Int)) := by simp [eR]
  simp only [retS_ap, thenS_ap, cb_ap, asCons_ap, asNil_ap, op2_ap, frz_ap, disp_ap, kst_ap, rdB_ap, List.getElem?_cons_succ, List.getElem?_cons_zero, Res.bind_ok, Res.map_ok, List.length_cons, List.length_nil, Nat.zero_add, Nat.reduceAdd, Nat.reduceLeDiff, if_true, hm, Res.of_some, ixD_list, hv, hl, hn, minD_int, hs]
  rfl
end
end DL

/-! The plain part, 7: all meetings, by choices and by rows; their order. -/
namespace DL
open PySem PySem.Spec PyProof.Rows L2
/-- rising choices -/
def chosenM (many : Nat) : Nat → Nat → List (List Nat)
  | _, 0 => [[]]
  | least, s + 1 => (List.range' least (many - least)).flatMap fun f => (chosenM many (f + 1) s).map (f :: ·)
def meetStep (lv : List Nat) (rs : List Meet) (thing : Nat) : List Meet := rs.flatMap fun r => (List.range (lv.getD thing 0)).map fun s => r ++ [(thing, s)]
def meetRows (lv : List Nat) (things : List Nat) : List Meet := things.foldl (meetStep lv) [[]]
def allM (lv : List Nat) (s : Nat) : List Meet := (chosenM lv.length 0 s).flatMap (meetRows lv)
/-- the meetings that lie in a row -/
def subs (row : Row) : List Meet := (row.zipIdx).foldl (fun some p => some ++ some.map (· ++ [(p.2, p.1)])) [[]]
def putM (ks : List Meet) (m : Meet) : List Meet := if ks.contains m then ks else ks ++ [m]
def lawKeys (lv : List Nat) (s : Nat) : List Meet := (rows lv).foldl (fun ks r => ((subs r).filter fun m => m.length == s).foldl putM ks) []
def lvs : Nat → List (List Nat)
  | 0 => [[]]
  | n + 1 => (lvs n).flatMap fun r => [1, 2, 3].map (· :: r)
theorem mem_lvs : ∀ lv : List Nat, (∀ l ∈ lv, 1 ≤ l ∧ l ≤ 3) → lv ∈ lvs lv.length
  | [], _ => by simp [lvs]
  | l :: lv, h => by
    have h1 := h l List.mem_cons_self
    have h2 := mem_lvs lv fun x hx => h x (List.mem_cons_of_mem _ hx)
    unfold lvs
    refine List.mem_flatMap.mpr ⟨lv, h2, ?_⟩
    have : l = 1 ∨ l = 2 ∨ l = 3 := by omega
    rcases this with rfl | rfl | rfl <;> simp
def chk (lv : List Nat) (s : Nat) : Bool := (allM lv s).isPerm (lawKeys lv s) && ((allM lv s).all fun m => m.length == s && m.all fun p => decide (p.1 < lv.length)) && decide ((allM lv s).length ≤ 200) &&
  (chosenM lv.length 0 s).all fun t => t.all fun th => decide (th < lv.length)
theorem chk1 : ((lvs 1).all fun lv => [1, 2, 3].all fun s => chk lv s) = true := by decide +kernel
theorem chk2 : ((lvs 2).all fun lv => [1, 2, 3].all fun s => chk lv s) = true := by decide +kernel
theorem chk3 : ((lvs 3).all fun lv => [1, 2, 3].all fun s => chk lv s) = true := by decide +kernel
theorem chk4 : ((lvs 4).all fun lv => [1, 2, 3].all fun s => chk lv s) = true := by decide +kernel
end DL

/-! The plain part, 8: the order of meetings; choices. -/
namespace DL
open PySem PySem.Spec PyProof.Rows L2
theorem toksP (p : Nat × Nat) : PySem.W.keyToks (eP p) = [.inl 1, .inl (p.1 : Int), .inl 1, .inl (p.2 : Int), .inl 0] := by
  simp [eP, eN, PySem.W.keyToks, PySem.W.keyToksAll]
theorem toksM_inj : ∀ a b : Meet, PySem.W.keyToksAll (a.map eP) = PySem.W.keyToksAll (b.map eP) → a = b
  | [], [], _ => rfl
  | [], _ :: _, e => by simp [PySem.W.keyToksAll] at e
  | _ :: _, [], e => by simp [PySem.W.keyToksAll] at e
  | p :: a, q :: b, e => by
    simp only [List.map_cons, PySem.W.keyToksAll, toksP, List.cons_append, List.nil_append, List.cons.injEq, Sum.inl.injEq, true_and] at e
    obtain ⟨e1, e2, e3⟩ := e
    have hpq : p = q := Prod.ext (by omega) (by omega)
    rw [toksM_inj a b e3, hpq]
def leM (a b : Meet) : Bool := dle (eM a) (eM b)
theorem leM_eq (a b : Meet) : leM a b = !PyProof.Rows.lexLt itemOrd (PySem.W.keyToksAll (b.map eP)) (PySem.W.keyToksAll (a.map eP)) := by
  unfold leM dle eM
  rw [PySem.W.dataLt_tuple]
theorem leM_trans (a b c : Meet) (h1 : leM a b = true) (h2 : leM b c = true) : leM a c = true := by
  rw [leM_eq, Bool.not_eq_true'] at h1 h2 ⊢
  cases h : PyProof.Rows.lexLt itemOrd (PySem.W.keyToksAll (c.map eP)) (PySem.W.keyToksAll (a.map eP)) with
  | false => rfl
  | true =>
    rcases PyProof.Rows.lex_negTrans _ (PySem.W.keyToksAll (b.map eP)) _ h with h | h
    · rw [h2] at h; cases h
    · rw [h1] at h; cases h
theorem leM_total (a b : Meet) : (leM a b || leM b a) = true := by
  rw [leM_eq, leM_eq]
  cases h : PyProof.Rows.lexLt itemOrd (PySem.W.keyToksAll (b.map eP)) (PySem.W.keyToksAll (a.map eP)) with
  | false => rfl
  | true =>
    cases h' : PyProof.Rows.lexLt itemOrd (PySem.W.keyToksAll (a.map eP)) (PySem.W.keyToksAll (b.map eP)) with
    | false => simp
    | true =>
      have := PyProof.Rows.lex_trans _ _ _ h h'
      rw [PyProof.Rows.lex_irrefl] at this
      cases this
theorem leM_anti (a b : Meet) (h1 : leM a b = true) (h2 : leM b a = true) : a = b := by
  rw [leM_eq, Bool.not_eq_true'] at h1 h2
  exact toksM_inj _ _ (PyProof.Rows.lex_total _ _ h2 h1)
theorem sort_perm {a b : List Meet} (h : a.Perm b) : a.mergeSort leM = b.mergeSort leM :=
  List.Perm.eq_of_pairwise (fun x y _ _ h1 h2 => leM_anti x y h1 h2) (List.pairwise_mergeSort leM_trans leM_total a) (List.pairwise_mergeSort leM_trans leM_total b) (((List.mergeSort_perm a leM).trans h).trans (List.mergeSort_perm b leM).symm)
/-- all meetings of s things, rising -/
def M (lv : List Nat) (s : Nat) : List Meet := (allM lv s).mergeSort leM
theorem alike_P (p q : Nat × Nat) : PySem.W.alike (eP p) (eP q) = true := by simp [eP, eN, PySem.W.alike, PySem.W.alikeAll]
theorem alike_Ms : ∀ a b : Meet, PySem.W.alikeAll (a.map eP) (b.map eP) = true
  | [], _ => by simp [PySem.W.alikeAll]
  | _ :: _, [] => by simp [PySem.W.alikeAll]
  | p :: a, q :: b => by simp [PySem.W.alikeAll, alike_P, alike_Ms a b]
theorem sorted_Ms {ms : List Meet} (h : ∀ m ∈ ms, m ≠ []) : sortedD [.list (ms.map eM)] = some ((ms.mergeSort leM).map eM) := by
  have e : sortedD [.list (ms.map eM)] = if (allLike (ms.map eM) && sortsD (ms.map eM) && (ms.map eM).all fun d => decide (d.depth ≤ 60)) = true then some ((ms.map eM).mergeSort dle) else none := rfl
  have h1 : allLike (ms.map eM) = true := by
    unfold allLike
    simp only [List.all_eq_true, List.mem_map, forall_exists_index, and_imp, forall_apply_eq_imp_iff₂]
    intro a _ b _
    simpa [eM, PySem.W.alike] using alike_Ms a b
  have h2 : sortsD (ms.map eM) = true := by
    unfold sortsD
    rw [Bool.or_eq_true]
    left
    simp only [List.all_eq_true, List.mem_map, forall_exists_index, and_imp, forall_apply_eq_imp_iff₂]
    intro a ha
    cases a with
    | nil => exact absurd rfl (h _ ha)
    | cons p a => rfl
  have h3 : ((ms.map eM).all fun d => decide (d.depth ≤ 60)) = true := by
    simp only [List.all_eq_true, List.mem_map, forall_exists_index, and_imp, forall_apply_eq_imp_iff₂]
    intro a _
    exact decide_eq_true (Nat.le_trans (nmM a).2 (by decide))
  rw [e, h1, h2, h3]
  simp only [Bool.and_self, if_true]
  congr 1
  exact (PySem.W.sort_maps eM fun a _ b _ => rfl).symm
/-! ### what the check says -/
theorem chk_of {lv : List Nat} (h : WL lv) {s : Nat} (h1 : 1 ≤ s) (h3 : s ≤ 3) : chk lv s = true := by
  have hm := mem_lvs lv h.lev
  have hs : s ∈ [1, 2, 3] := by
    have : s = 1 ∨ s = 2 ∨ s = 3 := by omega
    rcases this with rfl | rfl | rfl <;> simp
  have hl : lv.length = 1 ∨ lv.length = 2 ∨ lv.length = 3 ∨ lv.length = 4 := by have := h.lo; have := h.hi; omega
  rcases hl with e | e | e | e <;> rw [e] at hm
  · exact List.all_eq_true.mp (List.all_eq_true.mp chk1 lv hm) s hs
  · exact List.all_eq_true.mp (List.all_eq_true.mp chk2 lv hm) s hs
  · exact List.all_eq_true.mp (List.all_eq_true.mp chk3 lv hm) s hs
  · exact List.all_eq_true.mp (List.all_eq_true.mp chk4 lv hm) s hs
structure MF (lv : List Nat) (s : Nat) : Prop where
  perm : (allM lv s).Perm (lawKeys lv s)
  len : ∀ m ∈ allM lv s, m.length = s
  lt : ∀ m ∈ allM lv s, ∀ p ∈ m, p.1 < lv.length
  few : (allM lv s).length ≤ 200
  ch : ∀ t ∈ chosenM lv.length 0 s, ∀ th ∈ t, th < lv.length
theorem mf_of {lv : List Nat} (h : WL lv) {s : Nat} (h1 : 1 ≤ s) (h3 : s ≤ 3) : MF lv s := by
  have c := chk_of h h1 h3
  unfold chk at c
  simp only [Bool.and_eq_true, List.all_eq_true, decide_eq_true_eq, beq_iff_eq] at c
  obtain ⟨⟨⟨c1, c2⟩, c3⟩, c4⟩ := c
  exact ⟨List.isPerm_iff.mp c1, fun m hm => (c2 m hm).1, fun m hm => (c2 m hm).2, c3, c4⟩
theorem MF.memM {lv : List Nat} {s : Nat} {m : Meet} (h : m ∈ M lv s) : m ∈ allM lv s := List.mem_mergeSort.mp h
end DL

/-! The plain part, 9: all meetings, as the program finds them. -/
namespace DL
open PySem PySem.Spec PyProof.Rows L2
section
open DM
theorem m_chosen {many s : Nat} (h1 : 1 ≤ many) (h4 : many ≤ 4) (s1 : 1 ≤ s) (s3 : s ≤ 3) : f_chosen [.int (many : Int), .int 0, .int (s : Int)] = .ro ((chosenM many 0 s).map eR) := by
  have hm : many = 1 ∨ many = 2 ∨ many = 3 ∨ many = 4 := by omega
  have hs : s = 1 ∨ s = 2 ∨ s = 3 := by omega
  rcases hm with rfl | rfl | rfl | rfl <;> rcases hs with rfl | rfl | rfl <;> kernel_rfl
theorem chosen_len (many : Nat) : ∀ (s least : Nat), ∀ t ∈ chosenM many least s, t.length = s
  | 0, _, t, h => by
    simp only [chosenM, List.mem_singleton] at h
    rw [h]; rfl
  | s + 1, least, t, h => by
    simp only [chosenM, List.mem_flatMap, List.mem_map] at h
    obtain ⟨f, _, r, hr, rfl⟩ := h
    rw [List.length_cons, chosen_len many s (f + 1) r hr]
theorem mstep_len (lv : List Nat) (rs : List Meet) (th : Nat) : (meetStep lv rs th).length = rs.length * lv.getD th 0 := by
  unfold meetStep
  induction rs with
  | nil => simp
  | cons r f ih => simp only [List.flatMap_cons, List.length_append, ih, List.length_map, List.length_range, List.length_cons, Nat.add_mul, Nat.one_mul]; omega
theorem mrows_snoc (lv things : List Nat) (th : Nat) : meetRows lv (things ++ [th]) = meetStep lv (meetRows lv things) th := by simp [meetRows, List.foldl_append]
theorem getD_le {lv : List Nat} (h : WL lv) (th : Nat) : lv.getD th 0 ≤ 3 := by
  by_cases hl : th < lv.length
  · rw [List.getD_eq_getElem?_getD, List.getElem?_eq_getElem hl]
    exact (h.lev _ (List.getElem_mem hl)).2
  · rw [List.getD_eq_getElem?_getD, List.getElem?_eq_none (by omega)]
    exact Nat.zero_le _
theorem mrows_bound {lv : List Nat} (h : WL lv) (things : List Nat) : (meetRows lv things).length ≤ 3 ^ things.length := by
  induction things using rows_ind with
  | h0 => simp [meetRows]
  | hs things th ih =>
    rw [mrows_snoc, mstep_len, List.length_append]
    simp only [List.length_singleton, Nat.pow_succ]
    exact Nat.mul_le_mul ih (getD_le h th)
theorem mrows_mem_len (lv : List Nat) (things : List Nat) : ∀ r ∈ meetRows lv things, r.length = things.length := by
  induction things using rows_ind with
  | h0 => simp [meetRows]
  | hs things th ih =>
    intro r hr
    rw [mrows_snoc] at hr
    unfold meetStep at hr
    simp only [List.mem_flatMap, List.mem_map] at hr
    obtain ⟨r0, h0, s, _, rfl⟩ := hr
    simp [ih r0 h0]
theorem ext_meet {lv : List Nat} (h : WL lv) {r : Meet} {th : Nat} (ht : th < lv.length) (hr : r.length ≤ 1000) {a b c d e : Option B} :
    lc (cb rng1 (asCons (op2 ixD (rdB 0) (rdB 5)) asNil)) (tgName 8) yes g_meetings_of_e1 [8] [some (.d (eR lv)), a, b, c, d, some (.d (eN th)), e, some (.d (eM r)), none] = .ok (((List.range (lv.getD th 0)).map fun s => r ++ [(th, s)]).map eM) := by
  have hl := getD_le h th
  have hg : atI (lv.map eN) (th : Int) = some (eN (lv.getD th 0)) := by
    rw [atR ht]
    congr 2
    rw [List.getD_eq_getElem?_getD, List.getElem?_eq_getElem ht]
    rfl
  have := lc_map (fi := cb rng1 (asCons (op2 ixD (rdB 0) (rdB 5)) asNil)) (t := tgName 8) (c := yes) (e := g_meetings_of_e1) (vs := [8]) (ρ := [some (.d (eR lv)), a, b, c, d, some (.d (eN th)), e, some (.d (eM r)), none]) (enc := eN) (p := fun _ => true) (g := fun s => eM (r ++ [(th, s)])) (List.range (lv.getD th 0))
    (by
      rw [show eN th = .int (th : Int) from rfl, show eR lv = .tuple (lv.map eN) from rfl]
      simp only [cb_ap, asCons_ap, asNil_ap, op2_ap, rdB_ap, List.getElem?_cons_succ, List.getElem?_cons_zero, Res.bind_ok, Res.map_ok, ixD_tup, hg, Res.of_some]
      rw [show eN (lv.getD th 0) = .int ((lv.getD th 0 : Nat) : Int) from rfl, rng1_N (by omega)]
      rfl) fun s hs => ⟨[some (.d (eR lv)), a, b, c, d, some (.d (eN th)), e, some (.d (eM r)), some (.d (eN s))], rfl, rfl, fun _ => by
      have hz : r.length + 1 ≤ sizeLine := by have := sizeLine_big; omega
      unfold g_meetings_of_e1
      simp [eM, eP, hz]⟩
  rw [this, List.filter_eq_self.mpr (fun _ _ => rfl), List.map_map]
  rfl
theorem m_meetings_of {lv : List Nat} (h : WL lv) {s : Nat} (s1 : 1 ≤ s) (s3 : s ≤ 3) : f_meetings_of [eR lv, .int (s : Int)] = .ro ((M lv s).map eM) := by
  have mf := mf_of h s1 s3
  have inner : ∀ (rs : List Meet) (th : Nat) (b c e : Option B), th < lv.length → rs.length ≤ 100 → (∀ r ∈ rs, r.length ≤ 100) → ∀ y, ∃ ρ', forL (tgName 7) g_meetings_of_b1 (rs.map eM) [some (.d (eR lv)), b, c, e, some (.d (.list (rs.map eM))), some (.d (eN th)), some (.own []), y, none] = .nx ρ' ∧
      ∃ y, ρ' = [some (.d (eR lv)), b, c, e, some (.d (.list (rs.map eM))), some (.d (eN th)), some (.own ((meetStep lv rs th).map eM)), y, none] := by
    intro rs th b c e hth hrs hr y
    refine forL_inv (fun d ρ => ∃ y, ρ = [some (.d (eR lv)), b, c, e, some (.d (.list (rs.map eM))), some (.d (eN th)), some (.own ((meetStep lv d th).map eM)), y, none]) rs ?_ ⟨y, rfl⟩
    rintro d x r ρ ed ⟨y, rfl⟩
    have hx : x.length ≤ 100 := hr x (by rw [ed]; simp)
    have hd : d.length ≤ 100 := by rw [ed, List.length_append] at hrs; omega
    refine ⟨_, [some (.d (eR lv)), b, c, e, some (.d (.list (rs.map eM))), some (.d (eN th)), some (.own ((meetStep lv (d ++ [x]) th).map eM)), some (.d (eM x)), none], rfl, ?_, _, rfl⟩
    show g_meetings_of_b1 [some (.d (eR lv)), b, c, e, some (.d (.list (rs.map eM))), some (.d (eN th)), some (.own ((meetStep lv d th).map eM)), some (.d (eM x)), none] = _
    have e2 := ext_meet h (r := x) hth (by omega) (a := b) (b := c) (c := e) (d := some (.d (.list (rs.map eM)))) (e := some (.own ((meetStep lv d th).map eM)))
    unfold g_meetings_of_b1
    rw [extS_own (i := 6) (xs := (meetStep lv d th).map eM) (ys := ((List.range (lv.getD th 0)).map fun s => x ++ [(th, s)]).map eM) rfl (congrArg (Res.map PyData.list) e2) (by
      have := sizeLine_big
      have h1 : d.length * lv.getD th 0 ≤ 100 * 3 := Nat.mul_le_mul hd (getD_le h th)
      have h2 := getD_le h th
      rw [List.length_map, mstep_len, List.length_map, List.length_map, List.length_range]
      omega)]
    simp [meetStep, List.flatMap_append]
  have mid : ∀ (things : List Nat) (b c : Option B), (∀ th ∈ things, th < lv.length) → things.length ≤ 3 → ∀ x y z, ∃ ρ', forL (tgName 5) g_meetings_of_b2 (things.map eN) [some (.d (eR lv)), b, c, some (.d (eR things)), some (.d (.list [.tuple []])), x, y, z, none] = .nx ρ' ∧
      ∃ x y z, ρ' = [some (.d (eR lv)), b, c, some (.d (eR things)), some (.d (.list ((meetRows lv things).map eM))), x, y, z, none] := by
    intro things b c hth hl x y z
    refine forL_inv (fun d ρ => ∃ x y z, ρ = [some (.d (eR lv)), b, c, some (.d (eR things)), some (.d (.list ((meetRows lv d).map eM))), x, y, z, none]) things ?_ ⟨x, y, z, rfl⟩
    rintro d th r ρ e ⟨x, y, z, rfl⟩
    have hd : d.length ≤ 3 := by rw [e, List.length_append] at hl; omega
    have h81 : (meetRows lv d).length ≤ 100 := Nat.le_trans (mrows_bound h d) (Nat.le_trans (Nat.pow_le_pow_right (by decide) hd) (by decide))
    obtain ⟨ρ', h1, w, h2⟩ := inner (meetRows lv d) th b c (some (.d (eR things))) (hth th (by rw [e]; simp)) h81 (fun r hr => by rw [mrows_mem_len lv d r hr]; omega) z
    subst h2
    refine ⟨_, [some (.d (eR lv)), b, c, some (.d (eR things)), some (.d (.list ((meetRows lv (d ++ [th])).map eM))), some (.d (eN th)), some (.d (.list ((meetRows lv (d ++ [th])).map eM))), w, none], rfl, ?_, _, _, _, rfl⟩
    show g_meetings_of_b2 [some (.d (eR lv)), b, c, some (.d (eR things)), some (.d (.list ((meetRows lv d).map eM))), some (.d (eN th)), y, z, none] = _
    unfold g_meetings_of_b2
    simp [h1, mrows_snoc]
  have hch := mf.ch
  have outer : ∃ ρ', forL (tgName 3) g_meetings_of_b3 ((chosenM lv.length 0 s).map eR) [some (.d (eR lv)), some (.d (.int (s : Int))), some (.own []), none, none, none, none, none, none] = .nx ρ' ∧ ∃ x y z u v, ρ' = [some (.d (eR lv)), some (.d (.int (s : Int))), some (.own ((allM lv s).map eM)), x, y, z, u, v, none] := by
    refine forL_inv (fun d ρ => ∃ x y z u v, ρ = [some (.d (eR lv)), some (.d (.int (s : Int))), some (.own ((d.flatMap (meetRows lv)).map eM)), x, y, z, u, v, none]) (chosenM lv.length 0 s) ?_ ⟨none, none, none, none, none, rfl⟩
    rintro d things r ρ e ⟨x, y, z, u, v, rfl⟩
    have hmem : things ∈ chosenM lv.length 0 s := by rw [e]; simp
    obtain ⟨ρ', h1, x', y', z', rfl⟩ := mid things (some (.d (.int (s : Int)))) (some (.own ((d.flatMap (meetRows lv)).map eM))) (hch things hmem) (by rw [chosen_len _ _ _ things hmem]; exact s3) z u v
    refine ⟨_, [some (.d (eR lv)), some (.d (.int (s : Int))), some (.own (((d ++ [things]).flatMap (meetRows lv)).map eM)), some (.d (eR things)), some (.d (.list ((meetRows lv things).map eM))), x', y', z', none], rfl, ?_, _, _, _, _, _, rfl⟩
    show g_meetings_of_b3 [some (.d (eR lv)), some (.d (.int (s : Int))), some (.own ((d.flatMap (meetRows lv)).map eM)), some (.d (eR things)), y, z, u, v, none] = _
    have hz : ((d.flatMap (meetRows lv)).map eM).length + ((meetRows lv things).map eM).length ≤ sizeLine := by
      have h2 := mf.few
      unfold allM at h2
      rw [e, List.flatMap_append, List.flatMap_cons, List.length_append, List.length_append] at h2
      have := sizeLine_big
      rw [List.length_map, List.length_map]
      omega
    unfold g_meetings_of_b3
    rw [show eR things = .tuple (things.map eN) from rfl] at h1 ⊢
    simp only [seqS_ap, setS_ap, forS_ap, thenS_ap, frz_ap, disp_ap, asCons_ap, asNil_ap, dispT_ap, Res.bind_ok, Res.map_ok, List.length_nil, List.length_cons, Nat.zero_le, Nat.zero_add, Nat.reduceLeDiff, if_true, List.set_cons_succ, List.set_cons_zero, toSeq_ap, rd_ap, List.getElem?_cons_succ, List.getElem?_cons_zero, seqOf_tup, Res.of_some, h1]
    rw [extS_own (i := 2) (xs := (d.flatMap (meetRows lv)).map eM) (ys := (meetRows lv things).map eM) rfl rfl hz]
    simp [List.flatMap_append]
  obtain ⟨ρ', h1, x, y, z, u, v, rfl⟩ := outer
  have e1 := m_chosen h.lo h.hi s1 s3
  have e2 : sortedD [.list ((allM lv s).map eM)] = some ((M lv s).map eM) := sorted_Ms fun m hm z => by
    have := mf.len m hm
    rw [z] at this
    simp at this
    omega
  unfold f_meetings_of
  rw [runD_eq]
  show ofS (g_meetings_of [some (.d (eR lv)), some (.d (.int (s : Int))), none, none, none, none, none, none, none]) = _
  have e3 : lenD [eR lv] = some (.int (lv.length : Int)) := by simp [eR]
  unfold g_meetings_of
  simp only [seqS_ap, setO_ap, forS_ap, thenS_ap, disp_ap, asCons_ap, asNil_ap, cb_ap, callR_ap, kst_ap, Res.bind_ok, Res.map_ok, List.length_nil, List.length_cons, Nat.zero_le, Nat.zero_add, Nat.reduceAdd, if_true, List.set_cons_succ, List.set_cons_zero, toSeq_ap, rd_ap, rdB_ap, List.getElem?_cons_succ, List.getElem?_cons_zero, e3, e1, res_ro, seqOf_list, Res.of_some, h1, retO_ap, e2, ofS_ro]
end
end DL

/-! The plain part, 10: all meetings, as the law finds them. -/
namespace DL
open PySem PySem.Spec PyProof.Rows L2
def nkP (p : Nat × Nat) : NestedKey := .tup [.num (p.1 : Int), .num (p.2 : Int)]
theorem keyOf_P (p : Nat × Nat) : keyOf (eP p) = some (nkP p) := by simp [eP, eN, keyOf, keysOf, nkP]
theorem keysOf_Ps : ∀ m : Meet, keysOf (m.map eP) = some (m.map nkP)
  | [] => by simp [keysOf]
  | p :: m => by simp [keysOf, keyOf_P, keysOf_Ps m]
theorem keyOf_M (m : Meet) : keyOf (eM m) = some (.tup (m.map nkP)) := by simp [eM, keyOf, keysOf_Ps]
theorem nkP_inj {p q : Nat × Nat} (h : nkP p = nkP q) : p = q := by
  simp only [nkP, NestedKey.tup.injEq, List.cons.injEq, NestedKey.num.injEq, and_true] at h
  exact Prod.ext (by omega) (by omega)
theorem keyM_iff (a b : Meet) : keyOf (eM a) = keyOf (eM b) ↔ a = b := by
  rw [keyOf_M, keyOf_M]
  constructor
  · intro h
    exact map_inj (fun _ _ => nkP_inj) (NestedKey.tup.inj (Option.some.inj h))
  · rintro rfl; rfl
theorem nk_depth : ∀ m : Meet, NestedKey.depthAll (m.map nkP) ≤ 1
  | [] => by simp [NestedKey.depthAll]
  | p :: m => by
    have := nk_depth m
    simp [NestedKey.depthAll, NestedKey.depth, nkP]
    omega
theorem okKey_M (m : Meet) : okKey (eM m) = true := by
  show (match keysOf (m.map eP) with | some ks => decide ((NestedKey.tup ks).depth ≤ 8) | none => false) = true
  rw [keysOf_Ps]
  have := nk_depth m
  exact decide_eq_true (by simp [NestedKey.depth]; omega)
def kv (m : Meet) : D × D := (eM m, .bool true)
theorem put_M (ks : List Meet) (m : Meet) : putK (ks.map kv) (eM m) (.bool true) = (putM ks m).map kv := by
  have h1 : hasK (ks.map kv) (eM m) = ks.contains m := by
    unfold hasK
    rw [List.any_map, Bool.eq_iff_iff]
    simp only [List.any_eq_true, Function.comp, decide_eq_true_eq, List.contains_iff_mem, kv, keyM_iff]
    constructor
    · rintro ⟨x, hx, rfl⟩; exact hx
    · intro h; exact ⟨m, h, rfl⟩
  unfold putK putM
  rw [h1]
  cases ks.contains m with
  | true =>
    simp only [if_true, List.map_map]
    apply List.map_congr_left
    intro x _
    simp only [Function.comp, kv, keyM_iff]
    split <;> rfl
  | false => simp [kv]
theorem putM_len (ks : List Meet) (m : Meet) : (putM ks m).length ≤ ks.length + 1 := by
  unfold putM
  split
  · omega
  · simp
def kInto (s : Nat) (ks : List Meet) (ms : List Meet) : List Meet := (ms.filter fun m => m.length == s).foldl putM ks
theorem kInto_snoc (s : Nat) (ks ms : List Meet) (m : Meet) : kInto s ks (ms ++ [m]) = if m.length = s then putM (kInto s ks ms) m else kInto s ks ms := by
  unfold kInto
  rw [List.filter_append, List.foldl_append]
  by_cases h : m.length = s <;> simp [List.filter_cons, h]
theorem kInto_len (s : Nat) (ks : List Meet) (ms : List Meet) : (kInto s ks ms).length ≤ ks.length + ms.length := by
  suffices ∀ r : List Meet, (kInto s ks r.reverse).length ≤ ks.length + r.length by simpa using this ms.reverse
  intro r
  induction r with
  | nil => simp [kInto]
  | cons m r ih =>
    rw [List.reverse_cons, kInto_snoc]
    have := putM_len (kInto s ks r.reverse) m
    rw [List.length_cons]
    split <;> omega
def subsOf (zs : List (Nat × Nat)) : List Meet := zs.foldl (fun some p => some ++ some.map (· ++ [(p.2, p.1)])) [[]]
theorem subsOf_snoc (zs : List (Nat × Nat)) (p : Nat × Nat) : subsOf (zs ++ [p]) = subsOf zs ++ (subsOf zs).map (· ++ [(p.2, p.1)]) := by simp [subsOf, List.foldl_append]
theorem subsOf_ind {P : List (Nat × Nat) → Prop} (h0 : P []) (hs : ∀ zs p, P zs → P (zs ++ [p])) (zs : List (Nat × Nat)) : P zs := by
  suffices ∀ r : List (Nat × Nat), P r.reverse by simpa using this zs.reverse
  intro r
  induction r with
  | nil => exact h0
  | cons l r ih => rw [List.reverse_cons]; exact hs _ _ ih
theorem subsOf_len (zs : List (Nat × Nat)) : (subsOf zs).length = 2 ^ zs.length := by
  induction zs using subsOf_ind with
  | h0 => rfl
  | hs zs p ih => rw [subsOf_snoc, List.length_append, List.length_map, ih, List.length_append, List.length_singleton, Nat.pow_succ]; omega
theorem subsOf_mem (zs : List (Nat × Nat)) : ∀ m ∈ subsOf zs, m.length ≤ zs.length := by
  induction zs using subsOf_ind with
  | h0 => simp [subsOf]
  | hs zs p ih =>
    intro m hm
    rw [subsOf_snoc, List.mem_append] at hm
    rw [List.length_append, List.length_singleton]
    rcases hm with hm | hm
    · have := ih m hm; omega
    · obtain ⟨x, hx, rfl⟩ := List.mem_map.mp hm
      have := ih x hx
      simp
      exact this
def eZ (p : Nat × Nat) : D := .tuple [.int ((p.2 : Nat) : Int), eN p.1]
theorem enumL_R (r : Row) : enumL (r.map eN) = r.zipIdx.map eZ := by
  unfold enumL
  rw [List.zipIdx_map, List.map_map]
  rfl
section
open DM
theorem l_sub_b1 {zs : List (Nat × Nat)} {b s d r : Option B} {p : Nat × Nat} {w : Option B} (hz : zs.length ≤ 4) :
    g_l_meetings_b1 [b, s, d, r, some (.d (.list ((subsOf zs).map eM))), some (.d (.int (p.2 : Int))), some (.d (eN p.1)), w] = .nx [b, s, d, r, some (.d (.list ((subsOf (zs ++ [p])).map eM))), some (.d (.int (p.2 : Int))), some (.d (eN p.1)), w] := by
  have hl : (subsOf zs).length ≤ 16 := by rw [subsOf_len]; exact Nat.le_trans (Nat.pow_le_pow_right (by decide) hz) (by decide)
  have e := lc_map (fi := toSeq (rdB 4)) (t := tgName 7) (c := yes) (e := g_l_meetings_e1) (vs := [7]) (ρ := [b, s, d, r, some (.d (.list ((subsOf zs).map eM))), some (.d (.int (p.2 : Int))), some (.d (eN p.1)), w]) (enc := eM) (p := fun _ => true) (g := fun m => eM (m ++ [(p.2, p.1)])) (subsOf zs) rfl
    fun m hm => ⟨[b, s, d, r, some (.d (.list ((subsOf zs).map eM))), some (.d (.int (p.2 : Int))), some (.d (eN p.1)), some (.d (eM m))], rfl, rfl, fun _ => by
      have h1 : m.length + 1 ≤ sizeLine := by have := subsOf_mem zs m hm; have := sizeLine_big; omega
      unfold g_l_meetings_e1
      simp [eM, eP, eN, h1]⟩
  rw [List.filter_eq_self.mpr (fun _ _ => rfl)] at e
  have h2 : (subsOf zs).length + (subsOf zs).length ≤ sizeLine := by have := sizeLine_big; omega
  unfold g_l_meetings_b1
  simp only [setS_ap, thenS_ap, op2_ap, frz_ap, rdB_ap, List.getElem?_cons_succ, List.getElem?_cons_zero, e, Res.bind_ok, Res.map_ok, addD_list, List.length_map, h2, if_true, Res.of_some]
  simp [subsOf_snoc]
theorem l_sub {r : Row} {b s d : Option B} (hr : r.length ≤ 4) (x y w : Option B) : ∃ ρ', forL (tgPair 5 6) g_l_meetings_b1 (enumL (r.map eN)) [b, s, d, some (.d (eR r)), some (.d (.list [.tuple []])), x, y, w] = .nx ρ' ∧
    ∃ x y, ρ' = [b, s, d, some (.d (eR r)), some (.d (.list ((subs r).map eM))), x, y, w] := by
  rw [enumL_R]
  refine forL_inv (fun zs ρ => ∃ x y, ρ = [b, s, d, some (.d (eR r)), some (.d (.list ((subsOf zs).map eM))), x, y, w]) r.zipIdx ?_ ⟨x, y, rfl⟩
  rintro zs p rest ρ e ⟨x, y, rfl⟩
  have hz : zs.length ≤ 4 := by
    have := congrArg List.length e
    rw [List.length_zipIdx, List.length_append] at this
    omega
  exact ⟨_, _, rfl, l_sub_b1 hz , _, _, rfl⟩
theorem l_put {ms ks : List Meet} {b r t : Option B} {s : Nat} (hb : ks.length + ms.length ≤ 100000) (x y w : Option B) : ∃ ρ', forL (tgName 7) g_l_meetings_b2 (ms.map eM) [b, some (.d (.int (s : Int))), some (.dct (ks.map kv)), r, t, x, y, w] = .nx ρ' ∧
    ∃ z, ρ' = [b, some (.d (.int (s : Int))), some (.dct ((kInto s ks ms).map kv)), r, t, x, y, z] := by
  refine forL_inv (fun d ρ => ∃ z, ρ = [b, some (.d (.int (s : Int))), some (.dct ((kInto s ks d).map kv)), r, t, x, y, z]) ms ?_ ⟨w, rfl⟩
  rintro d m rest ρ e ⟨z, rfl⟩
  refine ⟨_, [b, some (.d (.int (s : Int))), some (.dct ((kInto s ks (d ++ [m])).map kv)), r, t, x, y, some (.d (eM m))], rfl, ?_, _, rfl⟩
  show g_l_meetings_b2 [b, some (.d (.int (s : Int))), some (.dct ((kInto s ks d).map kv)), r, t, x, y, some (.d (eM m))] = _
  have hz : ((kInto s ks d).map kv).length < sizeLine := by
    have h1 := kInto_len s ks d
    have h2 := congrArg List.length e
    rw [List.length_append] at h2
    have := sizeLine_big
    rw [List.length_map]
    omega
  have hl : lenD [eM m] = some (.int (m.length : Int)) := by simp [eM]
  unfold g_l_meetings_b2
  simp only [ifS_ap, thenS_ap, toB_ap, op2_ap, cb_ap, asCons_ap, asNil_ap, rdB_ap, List.getElem?_cons_succ, List.getElem?_cons_zero, Res.bind_ok, Res.map_ok, hl, Res.of_some, eqD_int, boolD_bool]
  rw [kInto_snoc]
  by_cases h : m.length = s
  · rw [decide_eq_true (show (m.length : Int) = (s : Int) by omega), if_pos rfl, if_pos h, dputS_at (i := 2) (kvs := (kInto s ks d).map kv) (k := eM m) (v := .bool true) rfl rfl rfl (okKey_M m) hz, put_M]
    rfl
  · rw [decide_eq_false (show ¬ (m.length : Int) = (s : Int) by omega), if_neg (by decide), if_neg h]
def lawK (s : Nat) (rs : List Row) : List Meet := rs.foldl (fun ks r => kInto s ks (subs r)) []
theorem lawK_snoc (s : Nat) (rs : List Row) (r : Row) : lawK s (rs ++ [r]) = kInto s (lawK s rs) (subs r) := by simp [lawK, List.foldl_append]
theorem subs_len (r : Row) (h : r.length ≤ 4) : (subs r).length ≤ 16 := by
  have e : subs r = subsOf r.zipIdx := rfl
  rw [e, subsOf_len, List.length_zipIdx]
  exact Nat.le_trans (Nat.pow_le_pow_right (by decide) h) (by decide)
theorem lawK_len (s : Nat) (rs : List Row) (h : ∀ r ∈ rs, r.length ≤ 4) : (lawK s rs).length ≤ 16 * rs.length := by
  suffices ∀ q : List Row, (∀ r ∈ q, r.length ≤ 4) → (lawK s q.reverse).length ≤ 16 * q.length by simpa using this rs.reverse (fun r hr => h r (List.mem_reverse.mp hr))
  intro q
  induction q with
  | nil => simp [lawK]
  | cons r q ih =>
    intro h
    rw [List.reverse_cons, lawK_snoc]
    have h1 := ih fun x hx => h x (List.mem_cons_of_mem _ hx)
    have h2 := kInto_len s (lawK s q.reverse) (subs r)
    have h3 := subs_len r (h r List.mem_cons_self)
    rw [List.length_cons]
    omega
theorem m_l_meetings {b : Book} (h : WF b) {s : Nat} (s1 : 1 ≤ s) (s3 : s ≤ 3) : f_l_meetings [eB b, .int (s : Int)] = .ro ((M b.1 s).map eM) := by
  have mf := mf_of h.wl s1 s3
  have h4 : ∀ r ∈ rows b.1, r.length ≤ 4 := fun r hr => by rw [rows_mem_len b.1 r hr]; exact h.wl.hi
  have loop : ∃ ρ', forL (tgName 3) g_l_meetings_b3 ((rows b.1).map eR) [some (.d (eB b)), some (.d (.int (s : Int))), some (.dct []), none, none, none, none, none] = .nx ρ' ∧
      ∃ x y z u v, ρ' = [some (.d (eB b)), some (.d (.int (s : Int))), some (.dct ((lawK s (rows b.1)).map kv)), x, y, z, u, v] := by
    refine forL_inv (fun d ρ => ∃ x y z u v, ρ = [some (.d (eB b)), some (.d (.int (s : Int))), some (.dct ((lawK s d).map kv)), x, y, z, u, v]) (rows b.1) ?_ ⟨none, none, none, none, none, rfl⟩
    rintro d r rest ρ e ⟨x, y, z, u, v, rfl⟩
    have hr : r ∈ rows b.1 := by rw [e]; simp
    obtain ⟨ρ1, g1, x1, y1, rfl⟩ := l_sub (r := r) (b := some (.d (eB b))) (s := some (.d (.int (s : Int)))) (d := some (.dct ((lawK s d).map kv))) (h4 r hr) z u v
    have hd : ∀ q ∈ d, q.length ≤ 4 := fun q hq => h4 q (by rw [e]; simp [hq])
    have hb : (lawK s d).length + (subs r).length ≤ 100000 := by
      have h1 := lawK_len s d hd
      have h2 := subs_len r (h4 r hr)
      have h3 := rows_le h
      rw [e, List.length_append] at h3
      omega
    obtain ⟨ρ2, g2, z2, rfl⟩ := l_put (ms := subs r) (ks := lawK s d) (b := some (.d (eB b))) (r := some (.d (eR r))) (t := some (.d (.list ((subs r).map eM)))) (s := s) hb x1 y1 v
    refine ⟨_, [some (.d (eB b)), some (.d (.int (s : Int))), some (.dct ((lawK s (d ++ [r])).map kv)), some (.d (eR r)), some (.d (.list ((subs r).map eM))), x1, y1, z2], rfl, ?_, _, _, _, _, _, rfl⟩
    show g_l_meetings_b3 [some (.d (eB b)), some (.d (.int (s : Int))), some (.dct ((lawK s d).map kv)), some (.d (eR r)), y, z, u, v] = _
    unfold g_l_meetings_b3
    rw [lawK_snoc, ← g2]
    rw [show eR r = .tuple (r.map eN) from rfl] at g1 ⊢
    simp only [seqS_ap, setS_ap, forS_ap, thenS_ap, frz_ap, disp_ap, asCons_ap, asNil_ap, dispT_ap, Res.bind_ok, Res.map_ok, List.length_nil, List.length_cons, Nat.zero_le, Nat.zero_add, Nat.reduceLeDiff, if_true, List.set_cons_succ, List.set_cons_zero, toEnum_ap, toSeq_ap, rd_ap, List.getElem?_cons_succ, List.getElem?_cons_zero, seqOf_tup, seqOf_list, Res.of_some, g1]
  obtain ⟨ρ', h1, x, y, z, u, v, rfl⟩ := loop
  have hp : (lawK s (rows b.1)).Perm (allM b.1 s) := mf.perm.symm
  have e2 : sortedD [.list (((lawK s (rows b.1)).map kv).map (·.1))] = some ((M b.1 s).map eM) := by
    rw [List.map_map]
    have := sorted_Ms (ms := lawK s (rows b.1)) fun m hm z => by
      have := mf.len m (hp.mem_iff.mp hm)
      rw [z] at this
      simp at this
      omega
    rw [sort_perm hp] at this
    exact this
  unfold f_l_meetings
  rw [runD_eq]
  show ofS (g_l_meetings [some (.d (eB b)), some (.d (.int (s : Int))), none, none, none, none, none, none]) = _
  unfold g_l_meetings
  have e0 : callR 1 f_l_rows (asCons (op2 ixD (rdB 0) (kst (.int 0))) asNil) [some (.d (eB b)), some (.d (.int (s : Int))), some (.dct []), none, none, none, none, none] = .ok (.list ((rows b.1).map eR)) := by
    simp [eB, m_l_rows h.wl]
  simp only [seqS_ap, dnewS_ap, forS_ap, thenS_ap, toSeq_ap, List.set_cons_succ, List.set_cons_zero, e0, Res.bind_ok, seqOf_list, Res.of_some, h1, retO_ap]
  have e3 : sortedDR 2 [some (.d (eB b)), some (.d (.int (s : Int))), some (.dct ((lawK s (rows b.1)).map kv)), x, y, z, u, v] = .ok ((M b.1 s).map eM) := by
    show sortK _ = _
    unfold sortK
    rw [e2]
    rfl
  rw [e3]
  rfl
end
end DL

/-! The plain part, 11: possible and impossible meetings. -/
namespace DL
open PySem PySem.Spec PyProof.Rows L2
def poss (b : Book) (s : Nat) : List Meet := (M b.1 s).filter fun m => (tests b).any fun t => meets t m
def imposs (b : Book) (s : Nat) : List Meet := (M b.1 s).filter fun m => !(poss b s).contains m
theorem filter_empty {α : Type} (p : α → Bool) (xs : List α) : (!(xs.filter p).isEmpty) = xs.any p := by
  induction xs with
  | nil => rfl
  | cons x xs ih => cases hp : p x <;> simp [List.filter_cons, hp, ih]
theorem filter_nil_any {α : Type} (p : α → Bool) (xs : List α) : xs.filter p = [] ↔ ¬ xs.any p = true := by simp
theorem in_M (neg : Bool) (m : Meet) (ms : List Meet) : inD neg (eM m) (.list (ms.map eM)) = some (.bool (neg ^^ ms.contains m)) := by
  have h1 : SeqAt.shaped (eM m) = true := (nmM m).shaped (by decide)
  have h2 : SeqAt.shaped (.list (ms.map eM)) = true := (nmMs ms).shaped (by decide)
  have h3 : ((ms.map eM).any fun y => PyData.eqv y (eM m)) = ms.contains m := by
    rw [List.any_map, Bool.eq_iff_iff]
    simp only [List.any_eq_true, Function.comp, List.contains_iff_mem]
    constructor
    · rintro ⟨x, hx, e⟩
      rw [← eM_inj ((eqv_nums _ _ (nmM x).1 (nmM m).1).mp e)]
      exact hx
    · intro h
      exact ⟨m, h, (eqv_nums _ _ (nmM m).1 (nmM m).1).mpr rfl⟩
  show (if SeqAt.shaped (eM m) = true ∧ SeqAt.shaped (.list (ms.map eM)) = true then some (PyData.bool (neg ^^ (ms.map eM).any fun y => PyData.eqv y (eM m))) else none) = _
  rw [if_pos ⟨h1, h2⟩, h3]
theorem test_lt {b : Book} {s : Nat} (h : WF b) (s1 : 1 ≤ s) (s3 : s ≤ 3) {t : Row} {m : Meet} (ht : t ∈ tests b) (hm : m ∈ M b.1 s) : ∀ p ∈ m, p.1 < t.length := by
  rw [rows_mem_len b.1 t (List.mem_filter.mp ht).1]
  exact (mf_of h.wl s1 s3).lt m (MF.memM hm)
theorem eq_same {n : Nat} {a : D} (h : Nm n a) (hn : n ≤ 64) : eqD a a = some (.bool true) := eqD_nm (P := True) h h hn hn (by simp)
theorem ne_same {n : Nat} {a : D} (h : Nm n a) (hn : n ≤ 64) : neD a a = some (.bool false) := neD_nm (P := True) h h hn hn (by simp)
section
open DM
variable {b : Book} {s : Nat}
theorem m_meetings_at (h : WF b) (s1 : 1 ≤ s) (s3 : s ≤ 3) (x : Option B) (ρ : List (Option B)) : callR 2 f_meetings_of (asCons (op2 ixD (rdB 0) (kst (.int 0))) (asCons (rd 1) asNil)) (some (.d (eB b)) :: some (.d (.int (s : Int))) :: ρ) = .ok (.list ((M b.1 s).map eM)) := by
  have e : ixD (eB b) (.int 0) = some (eR b.1) := by simp [eB]
  simp only [callR_ap, asCons_ap, asNil_ap, op2_ap, rdB_ap, rd_ap, kst_ap, List.getElem?_cons_succ, List.getElem?_cons_zero, Res.bind_ok, Res.map_ok, e, Res.of_some, List.length_cons, List.length_nil, Nat.zero_add, Nat.reduceAdd, if_true, m_meetings_of h.wl s1 s3, res_ro]
theorem m_all_meetings (h : WF b) (s1 : 1 ≤ s) (s3 : s ≤ 3) (sl : s ≤ b.1.length) : f_all_meetings [eB b, .int (s : Int)] = .ro ((M b.1 s).map eM) := by
  unfold f_all_meetings
  rw [runD_eq]
  show ofS (g_all_meetings [some (.d (eB b)), some (.d (.int (s : Int)))]) = _
  unfold g_all_meetings
  have e : ixD (eB b) (.int 0) = some (eR b.1) := by simp [eB]
  simp only [seqS_ap, dropS_ap, thenS_ap, retO_ap, callR_ap, callO_ap, asCons_ap, asNil_ap, op2_ap, rdB_ap, rd_ap, kst_ap, List.getElem?_cons_succ, List.getElem?_cons_zero, Res.bind_ok, Res.map_ok, e, Res.of_some, List.length_cons, List.length_nil, Nat.zero_add, Nat.reduceAdd, if_true, m_meetings_of h.wl s1 s3, res_rt, own_ro, m_look_strength h s1 s3 sl, ofS_ro]
theorem m_possible_of (h : WF b) (s1 : 1 ≤ s) (s3 : s ≤ 3) : f_possible_of [eB b, .int (s : Int)] = .ro ((poss b s).map eM) := by
  have e1 : ∀ m ∈ M b.1 s, g_possible_of_c2 [some (.d (eB b)), some (.d (.int (s : Int))), some (.d (.list ((tests b).map eR))), some (.d (eM m)), none] = .ok ((tests b).any fun t => meets t m) := by
    intro m hm
    have e := lc_map (fi := toSeq (rdB 2)) (t := tgName 4) (c := g_possible_of_c1) (e := rd 4) (vs := [4]) (ρ := [some (.d (eB b)), some (.d (.int (s : Int))), some (.d (.list ((tests b).map eR))), some (.d (eM m)), none]) (enc := eR) (p := fun t => meets t m) (g := eR) (tests b) rfl
      fun t ht => ⟨[some (.d (eB b)), some (.d (.int (s : Int))), some (.d (.list ((tests b).map eR))), some (.d (eM m)), some (.d (eR t))], rfl, by simp [g_possible_of_c1, m_meets (test_lt h s1 s3 ht hm)], fun _ => rfl⟩
    unfold g_possible_of_c2
    simp only [toTru_ap, frz_ap, e, Res.map_ok, Res.bind_ok, truD_list, Res.of_some, isEmpty_map, filter_empty]
  have e2 := lc_map (fi := toSeq (callR 2 f_meetings_of (asCons (op2 ixD (rdB 0) (kst (.int 0))) (asCons (rd 1) asNil)))) (t := tgName 3) (c := g_possible_of_c2) (e := rd 3) (vs := [3]) (ρ := [some (.d (eB b)), some (.d (.int (s : Int))), some (.d (.list ((tests b).map eR))), none, none]) (enc := eM) (p := fun m => (tests b).any fun t => meets t m) (g := eM) (M b.1 s)
    (by rw [toSeq_ap, m_meetings_at h s1 s3 none]; rfl) fun m hm => ⟨_, rfl, e1 m hm, fun _ => rfl⟩
  unfold f_possible_of
  rw [runD_eq]
  show ofS (g_possible_of [some (.d (eB b)), some (.d (.int (s : Int))), none, none, none]) = _
  unfold g_possible_of
  simp only [seqS_ap, setS_ap, thenS_ap, retO_ap, callR_ap 1, asCons_ap, asNil_ap, rd_ap, List.getElem?_cons_succ, List.getElem?_cons_zero, Res.bind_ok, Res.map_ok, List.length_cons, List.length_nil, Nat.zero_add, if_true, m_tests_of h, res_ro, List.set_cons_succ, List.set_cons_zero, e2, ofS_ro]
  rfl
theorem m_possible (h : WF b) (s1 : 1 ≤ s) (s3 : s ≤ 3) (sl : s ≤ b.1.length) : f_possible [eB b, .int (s : Int)] = .ro ((poss b s).map eM) := by
  unfold f_possible
  rw [runD_eq]
  show ofS (g_possible [some (.d (eB b)), some (.d (.int (s : Int)))]) = _
  unfold g_possible
  simp only [seqS_ap, dropS_ap, thenS_ap, retO_ap, callR_ap, callO_ap, asCons_ap, asNil_ap, rd_ap, List.getElem?_cons_succ, List.getElem?_cons_zero, Res.bind_ok, Res.map_ok, List.length_cons, List.length_nil, Nat.zero_add, Nat.reduceAdd, if_true, m_possible_of h s1 s3, res_rt, own_ro, m_look_strength h s1 s3 sl, ofS_ro]
theorem m_impossible (h : WF b) (s1 : 1 ≤ s) (s3 : s ≤ 3) (sl : s ≤ b.1.length) : f_impossible [eB b, .int (s : Int)] = .ro ((imposs b s).map eM) := by
  have e2 := lc_map (fi := toSeq (callR 2 f_meetings_of (asCons (op2 ixD (rdB 0) (kst (.int 0))) (asCons (rd 1) asNil)))) (t := tgName 3) (c := g_impossible_c1) (e := rd 3) (vs := [3]) (ρ := [some (.d (eB b)), some (.d (.int (s : Int))), some (.d (.list ((poss b s).map eM))), none]) (enc := eM) (p := fun m => !(poss b s).contains m) (g := eM) (M b.1 s)
    (by rw [toSeq_ap, m_meetings_at h s1 s3 none]; rfl) fun m hm => ⟨[some (.d (eB b)), some (.d (.int (s : Int))), some (.d (.list ((poss b s).map eM))), some (.d (eM m))], rfl, by
      unfold g_impossible_c1
      simp only [toB_ap, op2_ap, rdB_ap, List.getElem?_cons_succ, List.getElem?_cons_zero, Res.bind_ok, in_M, Res.of_some, boolD_bool, Bool.true_xor], fun _ => rfl⟩
  unfold f_impossible
  rw [runD_eq]
  show ofS (g_impossible [some (.d (eB b)), some (.d (.int (s : Int))), none, none]) = _
  unfold g_impossible
  have e3 : ∀ ρ : List (Option B), callR 2 f_look_strength (asCons (rd 0) (asCons (rd 1) asNil)) (some (.d (eB b)) :: some (.d (.int (s : Int))) :: ρ) = .ok .none := by
    intro ρ
    simp only [callR_ap, asCons_ap, asNil_ap, rd_ap, List.getElem?_cons_succ, List.getElem?_cons_zero, Res.bind_ok, Res.map_ok, List.length_cons, List.length_nil, Nat.zero_add, Nat.reduceAdd, if_true, m_look_strength h s1 s3 sl, res_rt]
  have e4 : ∀ ρ : List (Option B), callR 2 f_possible_of (asCons (rd 0) (asCons (rd 1) asNil)) (some (.d (eB b)) :: some (.d (.int (s : Int))) :: ρ) = .ok (.list ((poss b s).map eM)) := by
    intro ρ
    simp only [callR_ap, asCons_ap, asNil_ap, rd_ap, List.getElem?_cons_succ, List.getElem?_cons_zero, Res.bind_ok, Res.map_ok, List.length_cons, List.length_nil, Nat.zero_add, Nat.reduceAdd, if_true, m_possible_of h s1 s3, res_ro]
  simp only [seqS_ap, dropS_ap, setS_ap, thenS_ap, retO_ap, e3, e4, List.set_cons_succ, List.set_cons_zero, e2, ofS_ro]
  rfl
theorem m_l_possible (h : WF b) (s1 : 1 ≤ s) (s3 : s ≤ 3) : f_l_possible [eB b, .int (s : Int)] = .ro ((poss b s).map eM) := by
  have hlen : (M b.1 s).length ≤ 200 := by
    have := (mf_of h.wl s1 s3).few
    unfold M
    rw [List.length_mergeSort]
    exact this
  have loop : ∃ ρ', forL (tgName 4) g_l_possible_b1 ((M b.1 s).map eM) [some (.d (eB b)), some (.d (.int (s : Int))), some (.d (.list ((tests b).map eR))), some (.own []), none, none] = .nx ρ' ∧
      ∃ y, ρ' = [some (.d (eB b)), some (.d (.int (s : Int))), some (.d (.list ((tests b).map eR))), some (.own (((M b.1 s).filter fun m => (tests b).any fun t => meets t m).map eM)), y, none] := by
    refine forL_inv (fun d ρ => ∃ y, ρ = [some (.d (eB b)), some (.d (.int (s : Int))), some (.d (.list ((tests b).map eR))), some (.own ((d.filter fun m => (tests b).any fun t => meets t m).map eM)), y, none]) (M b.1 s) ?_ ⟨none, rfl⟩
    rintro d m r ρ e ⟨y, rfl⟩
    have hm : m ∈ M b.1 s := by rw [e]; simp
    have e1 := lc_map (fi := toSeq (rdB 2)) (t := tgName 5) (c := g_l_possible_c1) (e := rd 5) (vs := [5]) (ρ := [some (.d (eB b)), some (.d (.int (s : Int))), some (.d (.list ((tests b).map eR))), some (.own ((d.filter fun m => (tests b).any fun t => meets t m).map eM)), some (.d (eM m)), none]) (enc := eR) (p := fun t => meets t m) (g := eR) (tests b) rfl
      fun t ht => ⟨[some (.d (eB b)), some (.d (.int (s : Int))), some (.d (.list ((tests b).map eR))), some (.own ((d.filter fun m => (tests b).any fun t => meets t m).map eM)), some (.d (eM m)), some (.d (eR t))], rfl, by simp [g_l_possible_c1, m_l_meets (test_lt h s1 s3 ht hm)], fun _ => rfl⟩
    have q := neD_nm (P := ¬ (tests b).any (fun t => meets t m) = true) (nmRs ((tests b).filter fun t => meets t m)) nmNil (by decide) (by decide) (by rw [← filter_nil_any]; simp)
    have hz : (d.filter fun m => (tests b).any fun t => meets t m).length < sizeLine := by
      have h1 := List.length_filter_le (fun m => (tests b).any fun t => meets t m) d
      have := sizeLine_big
      rw [e, List.length_append] at hlen
      omega
    refine ⟨_, [some (.d (eB b)), some (.d (.int (s : Int))), some (.d (.list ((tests b).map eR))), some (.own (((d ++ [m]).filter fun m => (tests b).any fun t => meets t m).map eM)), some (.d (eM m)), none], rfl, ?_, _, rfl⟩
    show g_l_possible_b1 [some (.d (eB b)), some (.d (.int (s : Int))), some (.d (.list ((tests b).map eR))), some (.own ((d.filter fun m => (tests b).any fun t => meets t m).map eM)), some (.d (eM m)), none] = _
    unfold g_l_possible_b1
    simp only [ifS_ap, thenS_ap, toB_ap, op2_ap, frz_ap, e1, Res.map_ok, Res.bind_ok, disp_ap, asNil_ap, List.length_nil, Nat.zero_le, if_true, q, Res.of_some, boolD_bool]
    rw [List.filter_append]
    cases ha : (tests b).any (fun t => meets t m) with
    | false => simp [ha]
    | true =>
      rw [appS_own (xs := (d.filter fun m => (tests b).any fun t => meets t m).map eM) _ rfl]
      simp [ha, hz]
  obtain ⟨ρ', h1, y, rfl⟩ := loop
  unfold f_l_possible
  rw [runD_eq]
  show ofS (g_l_possible [some (.d (eB b)), some (.d (.int (s : Int))), none, none, none, none]) = _
  have e3 : ∀ ρ : List (Option B), callR 2 f_l_meetings (asCons (rd 0) (asCons (rd 1) asNil)) (some (.d (eB b)) :: some (.d (.int (s : Int))) :: ρ) = .ok (.list ((M b.1 s).map eM)) := by
    intro ρ
    simp only [callR_ap, asCons_ap, asNil_ap, rd_ap, List.getElem?_cons_succ, List.getElem?_cons_zero, Res.bind_ok, Res.map_ok, List.length_cons, List.length_nil, Nat.zero_add, Nat.reduceAdd, if_true, m_l_meetings h s1 s3, res_ro]
  have e4 : ∀ ρ : List (Option B), callR 1 f_l_tests (asCons (rd 0) asNil) (some (.d (eB b)) :: ρ) = .ok (.list ((tests b).map eR)) := by
    intro ρ
    simp only [callR_ap, asCons_ap, asNil_ap, rd_ap, List.getElem?_cons_zero, Res.bind_ok, Res.map_ok, List.length_cons, List.length_nil, Nat.zero_add, if_true, m_l_tests h, res_ro]
  unfold g_l_possible
  simp only [seqS_ap, setS_ap, setO_ap, forS_ap, thenS_ap, toSeq_ap, disp_ap, asNil_ap, e3, e4, Res.bind_ok, List.length_nil, Nat.zero_le, if_true, List.set_cons_succ, List.set_cons_zero, seqOf_list, Res.of_some, h1, retV_ap, List.getElem?_cons_succ, List.getElem?_cons_zero, ofS_ro]
  rfl
end
end DL

/-! The plain part, 12: each meeting within the levels is among them. -/
namespace DL
open PySem PySem.Spec PyProof.Rows L2
theorem mrows_mem {lv : List Nat} : ∀ m : Meet, (∀ p ∈ m, p.2 < lv.getD p.1 0) → m ∈ meetRows lv (m.map (·.1)) := by
  intro m
  suffices ∀ r : Meet, (∀ p ∈ r.reverse, p.2 < lv.getD p.1 0) → r.reverse ∈ meetRows lv (r.reverse.map (·.1)) by simpa using this m.reverse
  intro r
  induction r with
  | nil => intro _; simp [meetRows]
  | cons p r ih =>
    intro h
    rw [List.reverse_cons] at h ⊢
    have h1 := ih fun q hq => h q (by simp at hq ⊢; exact .inl hq)
    have h2 := h p (by simp)
    rw [List.map_append, show [p].map (·.1) = [p.1] from rfl, mrows_snoc]
    unfold meetStep
    refine List.mem_flatMap.mpr ⟨_, h1, List.mem_map.mpr ⟨p.2, List.mem_range.mpr h2, rfl⟩⟩
theorem chosen_mem {many : Nat} : ∀ (ts : List Nat) (least : Nat), (∀ t ∈ ts, least ≤ t ∧ t < many) → ts.Pairwise (· < ·) → ts ∈ chosenM many least ts.length
  | [], _, _, _ => by simp [chosenM]
  | t :: ts, least, h, hp => by
    have h1 := h t List.mem_cons_self
    rw [List.pairwise_cons] at hp
    have ih := chosen_mem ts (t + 1) (fun x hx => ⟨hp.1 x hx, (h x (List.mem_cons_of_mem _ hx)).2⟩) hp.2
    rw [List.length_cons]
    unfold chosenM
    refine List.mem_flatMap.mpr ⟨t, ?_, List.mem_map.mpr ⟨ts, ih, rfl⟩⟩
    rw [List.mem_range'_1]
    omega
theorem mem_M {lv : List Nat} {m : Meet} (h : IsMeet lv m) : m ∈ M lv m.length := by
  unfold M allM
  refine List.mem_mergeSort.mpr (List.mem_flatMap.mpr ⟨m.map (·.1), ?_, mrows_mem m fun p hp => ?_⟩)
  · have := chosen_mem (many := lv.length) (m.map (·.1)) 0 (fun t ht => by
      obtain ⟨p, hp, rfl⟩ := List.mem_map.mp ht
      exact ⟨Nat.zero_le _, h.lt p hp⟩) (List.pairwise_map.mpr h.inc)
    rw [List.length_map] at this
    exact this
  · obtain ⟨l, e, hl⟩ := h.at_ p hp
    rw [List.getD_eq_getElem?_getD, e]
    exact hl
theorem rows_at {lv : List Nat} : ∀ r ∈ rows lv, ∀ i (h : i < r.length), ∃ l, lv[i]? = some l ∧ r[i] < l := by
  induction lv using rows_ind with
  | h0 =>
    intro r hr i h
    simp [rows] at hr
    subst hr
    simp at h
  | hs lv l ih =>
    intro r hr i h
    rw [rows_snoc] at hr
    unfold stepRows at hr
    simp only [List.mem_flatMap, List.mem_map, List.mem_range] at hr
    obtain ⟨r0, h0, s, hs, rfl⟩ := hr
    have hl0 := rows_mem_len lv r0 h0
    by_cases hi : i < r0.length
    · obtain ⟨l', e, hl'⟩ := ih r0 h0 i hi
      refine ⟨l', ?_, ?_⟩
      · rw [List.getElem?_append_left (by omega)]
        exact e
      · rw [List.getElem_append_left hi]
        exact hl'
    · have hi' : i = r0.length := by
        rw [List.length_append, List.length_singleton] at h
        omega
      subst hi'
      refine ⟨l, ?_, ?_⟩
      · rw [List.getElem?_append_right (by omega), hl0, Nat.sub_self]
        rfl
      · simp
        exact hs
/-- a row as a meeting -/
def asMeet (r : Row) : Meet := r.zipIdx.map fun p => (p.2, p.1)
theorem asMeet_mem {r : Row} {p : Nat × Nat} : p ∈ asMeet r ↔ r[p.1]? = some p.2 := by
  unfold asMeet
  rw [List.mem_map]
  constructor
  · rintro ⟨q, hq, rfl⟩
    have := List.mem_zipIdx_iff_getElem?.mp hq
    exact this
  · intro h
    exact ⟨(p.2, p.1), List.mem_zipIdx_iff_getElem?.mpr h, rfl⟩
theorem meets_iff {t : Row} {m : Meet} : meets t m = true ↔ ∀ p ∈ m, t[p.1]? = some p.2 := by simp [meets]
theorem meets_sub {t : Row} {m : Meet} : meets t m = true ↔ ∀ p ∈ m, p ∈ asMeet t := by
  rw [meets_iff]
  exact ⟨fun h p hp => asMeet_mem.mpr (h p hp), fun h p hp => asMeet_mem.mp (h p hp)⟩
theorem asMeet_len (r : Row) : (asMeet r).length = r.length := by simp [asMeet]
theorem asMeet_is {lv : List Nat} {r : Row} (hr : r ∈ rows lv) (h1 : 1 ≤ lv.length) (h3 : lv.length ≤ 3) : IsMeet lv (asMeet r) := by
  have hl := rows_mem_len lv r hr
  refine ⟨by rw [asMeet_len, hl]; exact h1, by rw [asMeet_len, hl]; exact h3, ?_, fun p hp => ?_⟩
  · unfold asMeet
    rw [List.pairwise_map]
    have : (r.zipIdx.map (·.2)).Pairwise (· < ·) := by
      rw [List.zipIdx_map_snd]
      exact List.pairwise_lt_range'
    exact List.pairwise_map.mp this
  · have h := asMeet_mem.mp hp
    obtain ⟨hi, e⟩ := List.getElem?_eq_some_iff.mp h
    obtain ⟨l, e2, h2⟩ := rows_at r hr p.1 hi
    exact ⟨l, e2, by rw [e] at h2; exact h2⟩
theorem meets_self {r t : Row} (hl : r.length = t.length) (h : meets t (asMeet r) = true) : r = t := by
  apply List.ext_getElem hl
  intro i h1 h2
  have := meets_iff.mp h (i, r[i]) (asMeet_mem.mpr (List.getElem?_eq_getElem h1))
  rw [List.getElem?_eq_getElem h2] at this
  exact (Option.some.inj this).symm
theorem poss_iff {b : Book} {s : Nat} {m : Meet} : m ∈ poss b s ↔ m ∈ M b.1 s ∧ ∃ t ∈ tests b, meets t m = true := by simp [poss]
theorem imposs_iff {b : Book} {s : Nat} {m : Meet} : m ∈ imposs b s ↔ m ∈ M b.1 s ∧ ∀ t ∈ tests b, meets t m = false := by
  simp only [imposs, List.mem_filter, Bool.not_eq_true', List.contains_eq_mem, decide_eq_false_iff_not, poss_iff, not_and, not_exists, and_imp]
  constructor
  · rintro ⟨h1, h2⟩
    exact ⟨h1, fun t ht => by simpa using h2 h1 t ht⟩
  · rintro ⟨h1, h2⟩
    exact ⟨h1, fun _ t ht => by rw [h2 t ht]; simp⟩
end DL

/-! The plain part, 13: whole bans. -/
namespace DL
open PySem PySem.Spec PyProof.Rows L2
theorem in_g {α : Type} {enc : α → D} {n : Nat} (hn : ∀ x, Nm n (enc x)) (h60 : n + 1 ≤ 64) (hi : ∀ x y, enc x = enc y → x = y) [BEq α] [LawfulBEq α] (neg : Bool) (m : α) (ms : List α) :
    inD neg (enc m) (.list (ms.map enc)) = some (.bool (neg ^^ ms.contains m)) ∧ inD neg (enc m) (.tuple (ms.map enc)) = some (.bool (neg ^^ ms.contains m)) := by
  have h1 : SeqAt.shaped (enc m) = true := (hn m).shaped (by omega)
  have hx : ∀ x ∈ ms.map enc, Nm n x := fun x hx => by
    obtain ⟨y, _, rfl⟩ := List.mem_map.mp hx
    exact hn y
  have h2 : SeqAt.shaped (.list (ms.map enc)) = true := (Nm.list hx).shaped h60
  have h2' : SeqAt.shaped (.tuple (ms.map enc)) = true := (Nm.tup hx).shaped h60
  have h3 : ((ms.map enc).any fun y => PyData.eqv y (enc m)) = ms.contains m := by
    rw [List.any_map, Bool.eq_iff_iff]
    simp only [List.any_eq_true, Function.comp, List.contains_iff_mem]
    constructor
    · rintro ⟨x, hx, e⟩
      rw [← hi _ _ ((eqv_nums _ _ (hn x).1 (hn m).1).mp e)]
      exact hx
    · intro h
      exact ⟨m, h, (eqv_nums _ _ (hn m).1 (hn m).1).mpr rfl⟩
  constructor
  · show (if SeqAt.shaped (enc m) = true ∧ SeqAt.shaped (.list (ms.map enc)) = true then some (PyData.bool (neg ^^ (ms.map enc).any fun y => PyData.eqv y (enc m))) else none) = _
    rw [if_pos ⟨h1, h2⟩, h3]
  · show (if SeqAt.shaped (enc m) = true ∧ SeqAt.shaped (.tuple (ms.map enc)) = true then some (PyData.bool (neg ^^ (ms.map enc).any fun y => PyData.eqv y (enc m))) else none) = _
    rw [if_pos ⟨h1, h2'⟩, h3]
theorem in_P (neg : Bool) (p : Nat × Nat) (m : Meet) : inD neg (eP p) (eM m) = some (.bool (neg ^^ m.contains p)) := (in_g nmP (by decide) (fun _ _ => eP_inj) neg p m).2
theorem in_R (neg : Bool) (r : Row) (rs : List Row) : inD neg (eR r) (.list (rs.map eR)) = some (.bool (neg ^^ rs.contains r)) := (in_g nmR (by decide) (fun _ _ => eR_inj) neg r rs).1
theorem eqD_bool (a b : Bool) : eqD (.bool a) (.bool b) = some (.bool (a == b)) := by
  have h : ∀ c : Bool, SeqAt.shaped (.bool c) = true := fun c => by simp [SeqAt.shaped, PyData.canLay0, PyData.depth]
  unfold eqD
  rw [if_pos ⟨h a, h b⟩]
  simp [PyData.eqv]
/-- the one lies in the other -/
def inside (o m : Meet) : Bool := o.all fun p => m.contains p
theorem inside_iff {o m : Meet} : inside o m = true ↔ ∀ p ∈ o, p ∈ m := by simp [inside]
def wStep (f : List Meet) (m : Meet) : List Meet := if (f.any fun o => inside o m) = true then f else f ++ [m]
def whole (xs : List Meet) : List Meet := xs.foldl wStep []
theorem whole_snoc (xs : List Meet) (m : Meet) : whole (xs ++ [m]) = wStep (whole xs) m := by simp [whole, List.foldl_append]
theorem meet_ind {P : List Meet → Prop} (h0 : P []) (hs : ∀ xs m, P xs → P (xs ++ [m])) (xs : List Meet) : P xs := by
  suffices ∀ r : List Meet, P r.reverse by simpa using this xs.reverse
  intro r
  induction r with
  | nil => exact h0
  | cons l r ih => rw [List.reverse_cons]; exact hs _ _ ih
theorem whole_len (xs : List Meet) : (whole xs).length ≤ xs.length := by
  induction xs using meet_ind with
  | h0 => simp [whole]
  | hs xs m ih =>
    rw [whole_snoc]
    unfold wStep
    split
    · simp; omega
    · simp; omega
theorem whole_mem (xs : List Meet) : ∀ m ∈ whole xs, m ∈ xs := by
  induction xs using meet_ind with
  | h0 => simp [whole]
  | hs xs m ih =>
    intro x hx
    rw [whole_snoc] at hx
    unfold wStep at hx
    split at hx
    · simp [ih x hx]
    · rcases List.mem_append.mp hx with hx | hx
      · simp [ih x hx]
      · simp [List.mem_singleton.mp hx]
theorem whole_has (xs : List Meet) : ∀ m ∈ xs, ∃ o ∈ whole xs, inside o m = true := by
  induction xs using meet_ind with
  | h0 => simp
  | hs xs m ih =>
    intro x hx
    rw [whole_snoc]
    unfold wStep
    rcases List.mem_append.mp hx with hx | hx
    · obtain ⟨o, ho, h⟩ := ih x hx
      refine ⟨o, ?_, h⟩
      split
      · exact ho
      · simp [ho]
    · rw [List.mem_singleton.mp hx]
      split
      · rename_i h
        obtain ⟨o, ho, h⟩ := List.any_eq_true.mp h
        exact ⟨o, ho, h⟩
      · exact ⟨m, by simp, inside_iff.mpr fun p hp => hp⟩
/-- all that is impossible, of up to n things -/
def imps (b : Book) (ks : List Nat) : List Meet := ks.flatMap fun k => imposs b (1 + k)
theorem imposs_len {b : Book} (h : WF b) {s : Nat} (s1 : 1 ≤ s) (s3 : s ≤ 3) : (imposs b s).length ≤ 200 := by
  have h1 := List.length_filter_le (fun m => !(poss b s).contains m) (M b.1 s)
  have h2 := (mf_of h.wl s1 s3).few
  have h3 : (M b.1 s).length = (allM b.1 s).length := List.length_mergeSort _
  unfold imposs
  omega
theorem imps_len {b : Book} (h : WF b) (ks : List Nat) (hk : ∀ k ∈ ks, k < 3) : (imps b ks).length ≤ 200 * ks.length := by
  induction ks with
  | nil => simp [imps]
  | cons k ks ih =>
    have h1 := ih fun x hx => hk x (List.mem_cons_of_mem _ hx)
    have h2 := imposs_len h (s := 1 + k) (by omega) (by have := hk k List.mem_cons_self; omega)
    unfold imps at h1 ⊢
    rw [List.flatMap_cons, List.length_append, List.length_cons]
    omega
theorem upTo_1 (n : Nat) : upTo 1 n = (List.range n).map fun k => eN (1 + k) := by
  unfold upTo
  apply List.map_congr_left
  intro k _
  simp [eN]
theorem rng2_1 {n : Nat} (h : n ≤ 1000) : rng2 [.int 1, .int ((n : Int) + 1)] = some ((List.range n).map fun k => eN (1 + k)) := by
  rw [rng2_int, smallR_of (by omega) (by omega), smallR_of (by omega) (by omega)]
  simp only [Bool.and_self, if_true]
  rw [show ((n : Int) + 1 - 1).toNat = n by omega, upTo_1]
section
open DM
theorem m_look1 {b : Book} (h : WF b) : f_look_strength [eB b, .int 1] = .rt .none := m_look_strength h (s := 1) (by decide) (by decide) h.wl.lo
theorem c2_whole {b : Book} {f : List Meet} {o m : Meet} {x2 x5 : Option B} : g_whole_bans_c2 [some (.d (eB b)), some (.own (f.map eM)), x2, some (.d (eM m)), some (.d (eM o)), x5] = .ok (inside o m) := by
  have e := lc_map (fi := toSeq (rdB 4)) (t := tgName 5) (c := g_whole_bans_c1) (e := rd 5) (vs := [5]) (ρ := [some (.d (eB b)), some (.own (f.map eM)), x2, some (.d (eM m)), some (.d (eM o)), x5]) (enc := eP) (p := fun p => !m.contains p) (g := eP) o rfl
    fun p hp => ⟨[some (.d (eB b)), some (.own (f.map eM)), x2, some (.d (eM m)), some (.d (eM o)), some (.d (eP p))], rfl, by
      unfold g_whole_bans_c1
      simp only [toB_ap, op2_ap, rdB_ap, List.getElem?_cons_succ, List.getElem?_cons_zero, Res.bind_ok, in_P, Res.of_some, boolD_bool, Bool.true_xor], fun _ => rfl⟩
  unfold g_whole_bans_c2
  simp only [notT_ap, toTru_ap, frz_ap, e, Res.map_ok, Res.bind_ok, truD_list, Res.of_some, isEmpty_map, filter_empty]
  congr 1
  rw [Bool.eq_iff_iff]
  simp [inside]
theorem b1_whole {b : Book} {f : List Meet} {m : Meet} {x2 : Option B} (hz : f.length ≤ 1000) : g_whole_bans_b1 [some (.d (eB b)), some (.own (f.map eM)), x2, some (.d (eM m)), none, none] = .nx [some (.d (eB b)), some (.own ((wStep f m).map eM)), x2, some (.d (eM m)), none, none] := by
  have e := lc_map (fi := toSeq (rdB 1)) (t := tgName 4) (c := g_whole_bans_c2) (e := rd 4) (vs := [4]) (ρ := [some (.d (eB b)), some (.own (f.map eM)), x2, some (.d (eM m)), none, none]) (enc := eM) (p := fun o => inside o m) (g := eM) f rfl
    fun o ho => ⟨[some (.d (eB b)), some (.own (f.map eM)), x2, some (.d (eM m)), some (.d (eM o)), none], rfl, c2_whole, fun _ => rfl⟩
  have hz' : f.length < sizeLine := by have := sizeLine_big; omega
  unfold g_whole_bans_b1
  simp only [ifS_ap, thenS_ap, notT_ap, toTru_ap, frz_ap, e, Res.map_ok, Res.bind_ok, truD_list, Res.of_some, isEmpty_map, filter_empty]
  unfold wStep
  cases hf : f.any (fun o => inside o m) with
  | true => simp
  | false =>
    rw [appS_own (xs := f.map eM) _ rfl]
    simp [hz']
theorem m_whole_bans {b : Book} (h : WF b) : f_whole_bans [eB b] = .ro ((whole (imps b (List.range (min 3 b.1.length)))).map eM) := by
  have inner : ∀ (pre : List Meet) (s : Nat) (x2 : Option B), 1 ≤ s → s ≤ 3 → s ≤ b.1.length → pre.length ≤ 600 → ∀ y, ∃ ρ', forL (tgName 3) g_whole_bans_b1 ((imposs b s).map eM) [some (.d (eB b)), some (.own ((whole pre).map eM)), x2, y, none, none] = .nx ρ' ∧
      ∃ y, ρ' = [some (.d (eB b)), some (.own ((whole (pre ++ imposs b s)).map eM)), x2, y, none, none] := by
    intro pre s x2 s1 s3 sl hp y
    refine forL_inv (fun d ρ => ∃ y, ρ = [some (.d (eB b)), some (.own ((whole (pre ++ d)).map eM)), x2, y, none, none]) (imposs b s) ?_ ⟨y, by rw [List.append_nil]⟩
    rintro d m r ρ e ⟨y, rfl⟩
    have hl := imposs_len h s1 s3
    rw [e, List.length_append] at hl
    have h2 := whole_len (pre ++ d)
    rw [List.length_append] at h2
    refine ⟨_, _, rfl, b1_whole (by omega), some (.d (eM m)), ?_⟩
    rw [← List.append_assoc, whole_snoc]
  have outer : ∃ ρ', forL (tgName 2) g_whole_bans_b2 ((List.range (min 3 b.1.length)).map fun k => eN (1 + k)) [some (.d (eB b)), some (.own []), none, none, none, none] = .nx ρ' ∧
      ∃ x y, ρ' = [some (.d (eB b)), some (.own ((whole (imps b (List.range (min 3 b.1.length)))).map eM)), x, y, none, none] := by
    refine forL_inv (fun d ρ => ∃ x y, ρ = [some (.d (eB b)), some (.own ((whole (imps b d)).map eM)), x, y, none, none]) (List.range (min 3 b.1.length)) ?_ ⟨none, none, rfl⟩
    rintro d k r ρ e ⟨x, y, rfl⟩
    have hk : k < min 3 b.1.length := List.mem_range.mp (by rw [e]; simp)
    have hd : ∀ j ∈ d, j < 3 := fun j hj => by
      have : j < min 3 b.1.length := List.mem_range.mp (by rw [e]; simp [hj])
      omega
    have hdl : d.length ≤ 3 := by
      have := congrArg List.length e
      rw [List.length_range, List.length_append] at this
      omega
    have hp := imps_len h d hd
    obtain ⟨ρ', h1, y', rfl⟩ := inner (imps b d) (1 + k) (some (.d (eN (1 + k)))) (by omega) (by omega) (by omega) (by omega) y
    refine ⟨_, [some (.d (eB b)), some (.own ((whole (imps b (d ++ [k]))).map eM)), some (.d (eN (1 + k))), y', none, none], rfl, ?_, _, _, rfl⟩
    show g_whole_bans_b2 [some (.d (eB b)), some (.own ((whole (imps b d)).map eM)), some (.d (eN (1 + k))), y, none, none] = _
    have e3 : callR 2 f_impossible (asCons (rd 0) (asCons (rd 2) asNil)) [some (.d (eB b)), some (.own ((whole (imps b d)).map eM)), some (.d (eN (1 + k))), y, none, none] = .ok (.list ((imposs b (1 + k)).map eM)) := by
      have := m_impossible h (s := 1 + k) (by omega) (by omega) (by omega)
      rw [show eN (1 + k) = .int ((1 + k : Nat) : Int) from rfl]
      simp only [callR_ap, asCons_ap, asNil_ap, rd_ap, List.getElem?_cons_succ, List.getElem?_cons_zero, Res.bind_ok, Res.map_ok, List.length_cons, List.length_nil, Nat.zero_add, Nat.reduceAdd, if_true, this, res_ro]
    unfold g_whole_bans_b2
    simp only [forS_ap, thenS_ap, toSeq_ap, e3, Res.bind_ok, seqOf_list, Res.of_some, h1]
    rw [show imps b (d ++ [k]) = imps b d ++ imposs b (1 + k) by simp [imps]]
  obtain ⟨ρ', h1, x, y, rfl⟩ := outer
  have hmin : minD [.int 3, .int (b.1.length : Int)] = some (.int ((min 3 b.1.length : Nat) : Int)) := by
    rw [minD_int]
    congr 2
    split <;> omega
  have hl : ixD (eB b) (.int 0) = some (eR b.1) := by simp [eB]
  have hn : lenD [eR b.1] = some (.int (b.1.length : Int)) := by simp [eR]
  have hr := rng2_1 (n := min 3 b.1.length) (by omega)
  unfold f_whole_bans
  rw [runD_eq]
  show ofS (g_whole_bans [some (.d (eB b)), none, none, none, none, none]) = _
  unfold g_whole_bans
  simp only [seqS_ap, dropS_ap, setO_ap, forS_ap, thenS_ap, disp_ap, callR_ap, cb_ap, op2_ap, asCons_ap, asNil_ap, rd_ap, rdB_ap, kst_ap, List.getElem?_cons_succ, List.getElem?_cons_zero, Res.bind_ok, Res.map_ok, List.length_cons, List.length_nil, Nat.zero_add, Nat.reduceAdd, Nat.zero_le, if_true, m_look1 h, res_rt, List.set_cons_succ, List.set_cons_zero, hl, hn, hmin, addD_int, hr, Res.of_some, h1, retV_ap, ofS_ro]
end
end DL

/-! The plain part, 14: covers. -/
namespace DL
open PySem PySem.Spec PyProof.Rows L2
def unmetM (ms : List Meet) (ts : List Row) : List Meet := ms.filter fun m => !(ts.any fun t => meets t m)
/-- rows of n, meetings within n -/
structure Fit (n : Nat) (ms : List Meet) (ts : List Row) : Prop where
  len : ∀ t ∈ ts, t.length = n
  lt : ∀ m ∈ ms, ∀ p ∈ m, p.1 < n
  few : ms.length ≤ 200
  ft : ts.length ≤ 10000
theorem Fit.at {n : Nat} {ms : List Meet} {ts : List Row} (h : Fit n ms ts) : ∀ t ∈ ts, ∀ m ∈ ms, ∀ p ∈ m, p.1 < t.length := fun t ht m hm p hp => by
  rw [h.len t ht]
  exact h.lt m hm p hp
theorem Fit.sub {n : Nat} {ms : List Meet} {ts ts' : List Row} (h : Fit n ms ts) (e : ∀ t ∈ ts', t ∈ ts) (hl : ts'.length ≤ 10000) : Fit n ms ts' := ⟨fun t ht => h.len t (e t ht), h.lt, h.few, hl⟩
theorem Fit.erase {n : Nat} {ms : List Meet} {ts : List Row} (h : Fit n ms ts) (i : Nat) : Fit n ms (ts.eraseIdx i) := h.sub (fun t ht => List.mem_of_mem_eraseIdx ht) (Nat.le_trans (by have := List.length_eraseIdx_le ts i; omega) h.ft)
theorem unmet_sub {ms : List Meet} {ts : List Row} : ∀ m ∈ unmetM ms ts, m ∈ ms := fun m hm => (List.mem_filter.mp hm).1
theorem eqMs (a b : List Meet) : eqD (.list (a.map eM)) (.list (b.map eM)) = some (.bool (decide (a = b))) :=
  eqD_nm (nmMs a) (nmMs b) (by decide) (by decide) ⟨fun e => map_inj (fun _ _ => eM_inj) (PyData.list.inj e), fun e => by rw [e]⟩
theorem neMs (a b : List Meet) : neD (.list (a.map eM)) (.list (b.map eM)) = some (.bool (!decide (a = b))) :=
  neD_nm (nmMs a) (nmMs b) (by decide) (by decide) ⟨fun e => map_inj (fun _ _ => eM_inj) (PyData.list.inj e), fun e => by rw [e]⟩
theorem eqRs (a b : List Row) : eqD (.list (a.map eR)) (.list (b.map eR)) = some (.bool (decide (a = b))) :=
  eqD_nm (nmRs a) (nmRs b) (by decide) (by decide) ⟨fun e => map_inj (fun _ _ => eR_inj) (PyData.list.inj e), fun e => by rw [e]⟩
theorem neRs (a b : List Row) : neD (.list (a.map eR)) (.list (b.map eR)) = some (.bool (!decide (a = b))) :=
  neD_nm (nmRs a) (nmRs b) (by decide) (by decide) ⟨fun e => map_inj (fun _ _ => eR_inj) (PyData.list.inj e), fun e => by rw [e]⟩
theorem nmNs (a : List Nat) : Nm 1 (.list (a.map eN)) := .list fun x hx => by
  obtain ⟨j, _, rfl⟩ := List.mem_map.mp hx
  exact nmN j
theorem eqNs (a b : List Nat) : eqD (.list (a.map eN)) (.list (b.map eN)) = some (.bool (decide (a = b))) :=
  eqD_nm (nmNs a) (nmNs b) (by decide) (by decide) ⟨fun e => map_inj (fun _ _ => eN_inj.mp) (PyData.list.inj e), fun e => by rw [e]⟩
theorem neNs (a b : List Nat) : neD (.list (a.map eN)) (.list (b.map eN)) = some (.bool (!decide (a = b))) :=
  neD_nm (nmNs a) (nmNs b) (by decide) (by decide) ⟨fun e => map_inj (fun _ _ => eN_inj.mp) (PyData.list.inj e), fun e => by rw [e]⟩
theorem cut_to {xs : List D} {i : Nat} : cutG xs none (some (i : Int)) = xs.take i := by
  unfold cutG
  rw [show HT.sIx xs.length 0 none = 0 from rfl, HT.sIx_nat, List.drop_zero, Nat.sub_zero]
  by_cases h : i ≤ xs.length
  · rw [Nat.min_eq_left h]
  · rw [Nat.min_eq_right (by omega), List.take_of_length_le (Nat.le_refl _), List.take_of_length_le (by omega)]
theorem cut_from {xs : List D} {i : Nat} : cutG xs (some (i : Int)) none = xs.drop i := by
  unfold cutG
  rw [show HT.sIx xs.length xs.length none = xs.length from rfl, HT.sIx_nat]
  by_cases h : i ≤ xs.length
  · rw [Nat.min_eq_left h, List.take_of_length_le (by rw [List.length_drop]; omega)]
  · rw [Nat.min_eq_right (by omega), List.drop_of_length_le (Nat.le_refl _), List.drop_of_length_le (by omega), List.take_nil]
theorem cutD_to (xs : List D) (i : Nat) : cutD (.list xs) none (some (i : Int)) = some (.list (xs.take i)) := by
  show some (PyData.list (cutG xs none (some (i : Int)))) = _
  rw [cut_to]
theorem cutD_from (xs : List D) (i : Nat) : cutD (.list xs) (some (i : Int)) none = some (.list (xs.drop i)) := by
  show some (PyData.list (cutG xs (some (i : Int)) none)) = _
  rw [cut_from]
theorem take_drop_erase {α : Type} (xs : List α) (i : Nat) : xs.take i ++ xs.drop (i + 1) = xs.eraseIdx i := (List.eraseIdx_eq_take_drop_succ xs i).symm
section
open DM
theorem m_unmet {n : Nat} {ms : List Meet} {ts : List Row} (h : Fit n ms ts) : f_unmet [.list (ms.map eM), .list (ts.map eR)] = .ro ((unmetM ms ts).map eM) := by
  have e1 : ∀ m ∈ ms, g_unmet_c2 [some (.d (.list (ms.map eM))), some (.d (.list (ts.map eR))), some (.d (eM m)), none] = .ok (!(ts.any fun t => meets t m)) := by
    intro m hm
    have e := lc_map (fi := toSeq (rdB 1)) (t := tgName 3) (c := g_unmet_c1) (e := rd 3) (vs := [3]) (ρ := [some (.d (.list (ms.map eM))), some (.d (.list (ts.map eR))), some (.d (eM m)), none]) (enc := eR) (p := fun t => meets t m) (g := eR) ts rfl
      fun t ht => ⟨[some (.d (.list (ms.map eM))), some (.d (.list (ts.map eR))), some (.d (eM m)), some (.d (eR t))], rfl, by simp [g_unmet_c1, m_meets (h.at t ht m hm)], fun _ => rfl⟩
    unfold g_unmet_c2
    simp only [notT_ap, toTru_ap, frz_ap, e, Res.map_ok, Res.bind_ok, truD_list, Res.of_some, isEmpty_map, filter_empty]
  have e2 := lc_map (fi := toSeq (rdB 0)) (t := tgName 2) (c := g_unmet_c2) (e := rd 2) (vs := [2]) (ρ := [some (.d (.list (ms.map eM))), some (.d (.list (ts.map eR))), none, none]) (enc := eM) (p := fun m => !(ts.any fun t => meets t m)) (g := eM) ms rfl
    fun m hm => ⟨_, rfl, e1 m hm, fun _ => rfl⟩
  unfold f_unmet
  rw [runD_eq]
  show ofS (g_unmet [some (.d (.list (ms.map eM))), some (.d (.list (ts.map eR))), none, none]) = _
  unfold g_unmet
  simp only [retO_ap, thenS_ap, e2, ofS_ro]
  rfl
theorem m_l_left {n : Nat} {ms : List Meet} {ts : List Row} (h : Fit n ms ts) : f_l_left [.list (ms.map eM), .list (ts.map eR)] = .ro ((unmetM ms ts).map eM) := by
  have loop : ∃ ρ', forL (tgName 3) g_l_left_b1 (ms.map eM) [some (.d (.list (ms.map eM))), some (.d (.list (ts.map eR))), some (.own []), none, none] = .nx ρ' ∧ ∃ y, ρ' = [some (.d (.list (ms.map eM))), some (.d (.list (ts.map eR))), some (.own ((unmetM ms ts).map eM)), y, none] := by
    refine forL_inv (fun d ρ => ∃ y, ρ = [some (.d (.list (ms.map eM))), some (.d (.list (ts.map eR))), some (.own ((unmetM d ts).map eM)), y, none]) ms ?_ ⟨none, rfl⟩
    rintro d m r ρ e ⟨y, rfl⟩
    have hm : m ∈ ms := by rw [e]; simp
    have e1 := lc_map (fi := toSeq (rdB 1)) (t := tgName 4) (c := g_l_left_c1) (e := rd 4) (vs := [4]) (ρ := [some (.d (.list (ms.map eM))), some (.d (.list (ts.map eR))), some (.own ((unmetM d ts).map eM)), some (.d (eM m)), none]) (enc := eR) (p := fun t => meets t m) (g := eR) ts rfl
      fun t ht => ⟨[some (.d (.list (ms.map eM))), some (.d (.list (ts.map eR))), some (.own ((unmetM d ts).map eM)), some (.d (eM m)), some (.d (eR t))], rfl, by simp [g_l_left_c1, m_l_meets (h.at t ht m hm)], fun _ => rfl⟩
    have q := eqD_nm (P := ¬ ts.any (fun t => meets t m) = true) (nmRs (ts.filter fun t => meets t m)) nmNil (by decide) (by decide) (by rw [← filter_nil_any]; simp)
    have hz : (unmetM d ts).length < sizeLine := by
      have h1 := List.length_filter_le (fun m => !(ts.any fun t => meets t m)) d
      have h2 := h.few
      have := sizeLine_big
      rw [e, List.length_append] at h2
      unfold unmetM
      omega
    refine ⟨_, [some (.d (.list (ms.map eM))), some (.d (.list (ts.map eR))), some (.own ((unmetM (d ++ [m]) ts).map eM)), some (.d (eM m)), none], rfl, ?_, _, rfl⟩
    show g_l_left_b1 [some (.d (.list (ms.map eM))), some (.d (.list (ts.map eR))), some (.own ((unmetM d ts).map eM)), some (.d (eM m)), none] = _
    unfold g_l_left_b1
    simp only [ifS_ap, thenS_ap, toB_ap, op2_ap, frz_ap, e1, Res.map_ok, Res.bind_ok, disp_ap, asNil_ap, List.length_nil, Nat.zero_le, if_true, q, Res.of_some, boolD_bool]
    rw [show unmetM (d ++ [m]) ts = unmetM d ts ++ unmetM [m] ts by simp [unmetM]]
    cases ha : ts.any (fun t => meets t m) with
    | true =>
      have : unmetM [m] ts = [] := List.filter_cons_of_neg (by rw [ha]; decide)
      rw [this]
      simp
    | false =>
      have : unmetM [m] ts = [m] := List.filter_cons_of_pos (by rw [ha]; rfl)
      rw [this, appS_own (xs := (unmetM d ts).map eM) _ rfl]
      simp [hz]
  obtain ⟨ρ', h1, y, rfl⟩ := loop
  unfold f_l_left
  rw [runD_eq]
  show ofS (g_l_left [some (.d (.list (ms.map eM))), some (.d (.list (ts.map eR))), none, none, none]) = _
  unfold g_l_left
  simp only [seqS_ap, setO_ap, forS_ap, thenS_ap, disp_ap, asNil_ap, Res.bind_ok, List.length_nil, Nat.zero_le, if_true, List.set_cons_succ, List.set_cons_zero, toSeq_ap, rd_ap, List.getElem?_cons_succ, List.getElem?_cons_zero, seqOf_list, Res.of_some, h1, retV_ap, ofS_ro]
theorem m_without {ts : List Row} {i : Nat} (h : ts.length ≤ 10000) : f_without [.list (ts.map eR), .int (i : Int)] = .ro ((ts.eraseIdx i).map eR) := by
  have e1 := cutD_to (ts.map eR) i
  have e2 := cutD_from (ts.map eR) (i + 1)
  rw [Int.natCast_add, show ((1 : Nat) : Int) = 1 from rfl] at e2
  have hz : ((ts.map eR).take i).length + ((ts.map eR).drop (i + 1)).length ≤ sizeLine := by
    have := sizeLine_big
    rw [List.length_take, List.length_drop, List.length_map]
    omega
  have e3 : catD (.list ((ts.map eR).take i)) (.list ((ts.map eR).drop (i + 1))) = some ((ts.eraseIdx i).map eR) := by
    show (if _ then _ else _) = _
    rw [if_pos hz, ← List.map_take, ← List.map_drop, ← List.map_append, take_drop_erase]
  unfold f_without
  rw [runD_eq]
  show ofS (g_without [some (.d (.list (ts.map eR))), some (.d (.int (i : Int)))]) = _
  unfold g_without
  simp only [retO_ap, thenS_ap, op2_ap, sl3_ap, ptN_ap, ptS_ap, rdB_ap, kst_ap, List.getElem?_cons_succ, List.getElem?_cons_zero, Res.bind_ok, Res.map_ok, intOf_int, Res.of_some, addD_int, e1, e2, e3, ofS_ro]
theorem m_is_row {lv : List Nat} (hw : WL lv) {t : Row} (ht : t ∈ rows lv) : f_is_row [eR lv, eR t] = .rt (.bool true) := by
  have hl := rows_mem_len lv t ht
  have e := lc_map (fi := cb rng1 (asCons (cb lenD (asCons (rdB 0) asNil)) asNil)) (t := tgName 2) (c := g_is_row_c1) (e := rd 2) (vs := [2]) (ρ := [some (.d (eR lv)), some (.d (eR t)), none]) (enc := eN) (p := fun _ => false) (g := eN) (List.range lv.length)
    (by
      have hn : lenD [eR lv] = some (.int (lv.length : Int)) := by simp [eR]
      simp only [cb_ap, asCons_ap, asNil_ap, rdB_ap, List.getElem?_cons_zero, Res.bind_ok, Res.map_ok, hn, Res.of_some]
      rw [rng1_N (by have := hw.hi; omega)]
      rfl)
    fun i hi => ⟨[some (.d (eR lv)), some (.d (eR t)), some (.d (eN i))], rfl, by
      have hi' := List.mem_range.mp hi
      have hit : i < t.length := by omega
      obtain ⟨l, e1, e2⟩ := rows_at t ht i hit
      have a1 : atI (t.map eN) (i : Int) = some (eN t[i]) := atR hit
      have a2 : atI (lv.map eN) (i : Int) = some (eN l) := atI_nat (by rw [List.getElem?_map, e1]; rfl)
      have w := m_is_within ((t[i] : Nat) : Int) 0 ((l : Int) - 1)
      rw [decide_eq_true (show (0 : Int) ≤ ((t[i] : Nat) : Int) by omega), decide_eq_true (show ((t[i] : Nat) : Int) ≤ (l : Int) - 1 by omega)] at w
      unfold g_is_row_c1
      rw [show eR lv = .tuple (lv.map eN) from rfl, show eR t = .tuple (t.map eN) from rfl, show eN i = .int (i : Int) from rfl]
      simp only [notT_ap, toTru_ap, callR_ap, asCons_ap, asNil_ap, op2_ap, rdB_ap, kst_ap, List.getElem?_cons_succ, List.getElem?_cons_zero, Res.bind_ok, Res.map_ok, ixD_tup, a1, a2, Res.of_some]
      simp only [eN, intD_int, if_true, Res.of_some, Res.bind_ok, Res.map_ok, List.length_cons, List.length_nil, Nat.zero_add, Nat.reduceAdd, w, res_rt, truD_bool, Bool.and_self, Bool.not_true], fun z => by cases z⟩
  have fe : (List.range lv.length).filter (fun _ => false) = [] := by simp
  rw [fe] at e
  have hn : lenD [eR lv] = some (.int (lv.length : Int)) := by simp [eR]
  have hn2 : lenD [eR t] = some (.int (t.length : Int)) := by simp [eR]
  unfold f_is_row
  rw [runD_eq]
  show ofS (g_is_row [some (.d (eR lv)), some (.d (eR t)), none]) = _
  unfold g_is_row
  have hi : isiD "tuple" (eR t) = some true := rfl
  have hlt : (t.length : Int) = (lv.length : Int) := by omega
  simp only [seqS_ap, ifS_ap, retS_ap, thenS_ap, orT_ap, notT_ap, toTru_ap, toB_ap, isiR_ap, cb_ap, op2_ap, asCons_ap, asNil_ap, rdB_ap, List.getElem?_cons_succ, List.getElem?_cons_zero, Res.bind_ok, Res.map_ok, hi, Option.map_some, Res.of_some, truD_bool, hn, hn2, hlt, neD_int, decide_true, boolD_bool, Bool.not_true, Bool.false_eq_true, if_false, ofB_ap, frz_ap, e]
  rfl
theorem m_look_tests {b : Book} (h : WF b) {ts : List Row} (ht : ∀ t ∈ ts, t ∈ tests b) : f_look_tests [eB b, .list (ts.map eR)] = .rt .none := by
  have hl : ixD (eB b) (.int 0) = some (eR b.1) := by simp [eB]
  have loop : ∃ ρ', forL (tgPair 2 3) g_look_tests_b1 (ts.zipIdx.map fun p => .tuple [.int ((p.2 : Nat) : Int), eR p.1]) [some (.d (eB b)), some (.d (.list (ts.map eR))), none, none] = .nx ρ' ∧ ∃ x y, ρ' = [some (.d (eB b)), some (.d (.list (ts.map eR))), x, y] := by
    refine forL_inv (fun d ρ => ∃ x y, ρ = [some (.d (eB b)), some (.d (.list (ts.map eR))), x, y]) ts.zipIdx ?_ ⟨none, none, rfl⟩
    rintro d p r ρ e ⟨x, y, rfl⟩
    have hp : p.1 ∈ ts := by
      have : p ∈ ts.zipIdx := by rw [e]; simp
      exact List.fst_mem_of_mem_zipIdx this
    have hpt := ht _ hp
    have hr := (List.mem_filter.mp hpt).1
    have ha := (List.mem_filter.mp hpt).2
    refine ⟨_, [some (.d (eB b)), some (.d (.list (ts.map eR))), some (.d (.int ((p.2 : Nat) : Int))), some (.d (eR p.1))], rfl, ?_, _, _, rfl⟩
    show g_look_tests_b1 [some (.d (eB b)), some (.d (.list (ts.map eR))), some (.d (.int ((p.2 : Nat) : Int))), some (.d (eR p.1))] = _
    unfold g_look_tests_b1
    simp only [ifS_ap, thenS_ap, orT_ap, notT_ap, toTru_ap, callR_ap, asCons_ap, asNil_ap, op2_ap, rd_ap, rdB_ap, kst_ap, List.getElem?_cons_succ, List.getElem?_cons_zero, Res.bind_ok, Res.map_ok, hl, Res.of_some, List.length_cons, List.length_nil, Nat.zero_add, Nat.reduceAdd, if_true, m_is_row h.wl hr, m_is_allowed (bans_lt h hr), res_rt, truD_bool, Bool.not_true, Bool.false_eq_true, if_false, ha]
  obtain ⟨ρ', h1, x, y, rfl⟩ := loop
  have he : enumL (ts.map eR) = ts.zipIdx.map fun p => .tuple [.int ((p.2 : Nat) : Int), eR p.1] := by
    unfold enumL
    rw [List.zipIdx_map, List.map_map]
    rfl
  unfold f_look_tests
  rw [runD_eq]
  show ofS (g_look_tests [some (.d (eB b)), some (.d (.list (ts.map eR))), none, none]) = _
  unfold g_look_tests
  simp only [seqS_ap, ifS_ap, forS_ap, thenS_ap, notT_ap, toTru_ap, isiR_ap, rd_ap, rdB_ap, List.getElem?_cons_succ, List.getElem?_cons_zero, Res.bind_ok, Res.map_ok, isi_list_list, Option.map_some, Res.of_some, truD_bool, Bool.not_true, Bool.false_eq_true, if_false, toEnum_ap, seqOf_list, he, h1, ofS_nx]
variable {b : Book} {s : Nat}
theorem m_look_cover (h : WF b) (s1 : 1 ≤ s) (s3 : s ≤ 3) (sl : s ≤ b.1.length) {ts : List Row} (ht : ∀ t ∈ ts, t ∈ tests b) : f_look_cover [eB b, .int (s : Int), .list (ts.map eR)] = .rt .none := by
  unfold f_look_cover
  rw [runD_eq]
  show ofS (g_look_cover [some (.d (eB b)), some (.d (.int (s : Int))), some (.d (.list (ts.map eR)))]) = _
  unfold g_look_cover
  simp only [seqS_ap, dropS_ap, thenS_ap, callR_ap, asCons_ap, asNil_ap, rd_ap, List.getElem?_cons_succ, List.getElem?_cons_zero, Res.bind_ok, Res.map_ok, List.length_cons, List.length_nil, Nat.zero_add, Nat.reduceAdd, if_true, m_look_strength h s1 s3 sl, m_look_tests h ht, res_rt, ofS_nx]
theorem fit_of (h : WF b) (s1 : 1 ≤ s) (s3 : s ≤ 3) {ts : List Row} (ht : ∀ t ∈ ts, t ∈ tests b) (hl : ts.length ≤ 10000) : Fit b.1.length (poss b s) ts := by
  have mf := mf_of h.wl s1 s3
  refine ⟨fun t htt => rows_mem_len b.1 t (List.mem_filter.mp (ht t htt)).1, fun m hm => mf.lt m (MF.memM (poss_iff.mp hm).1), ?_, hl⟩
  have h1 := List.length_filter_le (fun m => (tests b).any fun t => meets t m) (M b.1 s)
  have h2 := mf.few
  have h3 : (M b.1 s).length = (allM b.1 s).length := List.length_mergeSort _
  unfold poss
  omega
theorem m_missing (h : WF b) (s1 : 1 ≤ s) (s3 : s ≤ 3) (sl : s ≤ b.1.length) {ts : List Row} (ht : ∀ t ∈ ts, t ∈ tests b) (hl : ts.length ≤ 10000) : f_missing [eB b, .int (s : Int), .list (ts.map eR)] = .ro ((unmetM (poss b s) ts).map eM) := by
  unfold f_missing
  rw [runD_eq]
  show ofS (g_missing [some (.d (eB b)), some (.d (.int (s : Int))), some (.d (.list (ts.map eR)))]) = _
  unfold g_missing
  simp only [seqS_ap, dropS_ap, retO_ap, thenS_ap, callR_ap, callO_ap, asCons_ap, asNil_ap, rd_ap, List.getElem?_cons_succ, List.getElem?_cons_zero, Res.bind_ok, Res.map_ok, List.length_cons, List.length_nil, Nat.zero_add, Nat.reduceAdd, if_true, m_look_cover h s1 s3 sl ht, m_possible_of h s1 s3, m_unmet (fit_of h s1 s3 ht hl), res_rt, res_ro, own_ro, ofS_ro]
theorem m_is_cover (h : WF b) (s1 : 1 ≤ s) (s3 : s ≤ 3) (sl : s ≤ b.1.length) {ts : List Row} (ht : ∀ t ∈ ts, t ∈ tests b) (hl : ts.length ≤ 10000) : f_is_cover [eB b, .int (s : Int), .list (ts.map eR)] = .rt (.bool (decide (unmetM (poss b s) ts = []))) := by
  unfold f_is_cover
  rw [runD_eq]
  show ofS (g_is_cover [some (.d (eB b)), some (.d (.int (s : Int))), some (.d (.list (ts.map eR)))]) = _
  unfold g_is_cover
  simp only [retS_ap, thenS_ap, ofB_ap, notT_ap, toTru_ap, callR_ap, asCons_ap, asNil_ap, rd_ap, List.getElem?_cons_succ, List.getElem?_cons_zero, Res.bind_ok, Res.map_ok, List.length_cons, List.length_nil, Nat.zero_add, Nat.reduceAdd, if_true, m_missing h s1 s3 sl ht hl, res_ro, truD_list, Res.of_some, isEmpty_map, ofS_rt]
  cases unmetM (poss b s) ts <;> rfl
theorem m_needless (h : WF b) (s1 : 1 ≤ s) (s3 : s ≤ 3) (sl : s ≤ b.1.length) {ts : List Row} (ht : ∀ t ∈ ts, t ∈ tests b) (hl : ts.length ≤ 1000) :
    f_needless [eB b, .int (s : Int), .list (ts.map eR)] = .ro (((List.range ts.length).filter fun i => decide (unmetM (poss b s) (ts.eraseIdx i) = unmetM (poss b s) ts)).map eN) := by
  have hf := fit_of h s1 s3 ht (by omega)
  have e := lc_map (fi := cb rng1 (asCons (cb lenD (asCons (rdB 2) asNil)) asNil)) (t := tgName 5) (c := g_needless_c1) (e := rd 5) (vs := [5])
    (ρ := [some (.d (eB b)), some (.d (.int (s : Int))), some (.d (.list (ts.map eR))), some (.d (.list ((unmetM (poss b s) ts).map eM))), some (.d (.list ((poss b s).map eM))), none]) (enc := eN) (p := fun i => decide (unmetM (poss b s) (ts.eraseIdx i) = unmetM (poss b s) ts)) (g := eN) (List.range ts.length)
    (by
      simp only [cb_ap, asCons_ap, asNil_ap, rdB_ap, List.getElem?_cons_succ, List.getElem?_cons_zero, Res.bind_ok, Res.map_ok, lenD_list, List.length_map, Res.of_some]
      rw [rng1_N (by omega)]
      rfl)
    fun i hi => ⟨[some (.d (eB b)), some (.d (.int (s : Int))), some (.d (.list (ts.map eR))), some (.d (.list ((unmetM (poss b s) ts).map eM))), some (.d (.list ((poss b s).map eM))), some (.d (.int (i : Int)))], rfl, by
      unfold g_needless_c1
      simp only [toB_ap, op2_ap, callR_ap, asCons_ap, asNil_ap, rd_ap, rdB_ap, List.getElem?_cons_succ, List.getElem?_cons_zero, Res.bind_ok, Res.map_ok, List.length_cons, List.length_nil, Nat.zero_add, Nat.reduceAdd, if_true, m_without (ts := ts) (i := i) (by omega), m_unmet (hf.erase i), res_ro, eqMs, Res.of_some, boolD_bool], fun _ => rfl⟩
  unfold f_needless
  rw [runD_eq]
  show ofS (g_needless [some (.d (eB b)), some (.d (.int (s : Int))), some (.d (.list (ts.map eR))), none, none, none]) = _
  unfold g_needless
  simp only [seqS_ap, dropS_ap, setS_ap, retO_ap, thenS_ap, callR_ap, asCons_ap, asNil_ap, rd_ap, List.getElem?_cons_succ, List.getElem?_cons_zero, Res.bind_ok, Res.map_ok, List.length_cons, List.length_nil, Nat.zero_add, Nat.reduceAdd, if_true, m_look_cover h s1 s3 sl ht, m_possible_of h s1 s3, m_unmet hf, res_rt, res_ro, List.set_cons_succ, List.set_cons_zero, e, ofS_ro]
end
end DL

/-! The plain part, 15: trimmed tests; drawn tests. -/
namespace DL
open PySem PySem.Spec PyProof.Rows L2
/-- one step of trimming: the k-th from the end of n -/
def tStep (ms left : List Meet) (n : Nat) (f : List Row) (k : Nat) : List Row := if unmetM ms (f.eraseIdx (n - 1 - k)) = left then f.eraseIdx (n - 1 - k) else f
def trimK (ms : List Meet) (ts : List Row) (d : List Nat) : List Row := d.foldl (tStep ms (unmetM ms ts) ts.length) ts
def trimM (ms : List Meet) (ts : List Row) : List Row := trimK ms ts (List.range ts.length)
theorem trimK_snoc (ms : List Meet) (ts : List Row) (d : List Nat) (k : Nat) : trimK ms ts (d ++ [k]) = tStep ms (unmetM ms ts) ts.length (trimK ms ts d) k := by simp [trimK, List.foldl_append]
theorem trimK_sub (ms : List Meet) (ts : List Row) (d : List Nat) : (∀ t ∈ trimK ms ts d, t ∈ ts) ∧ (trimK ms ts d).length ≤ ts.length ∧ ts.length ≤ (trimK ms ts d).length + d.length := by
  induction d using rows_ind with
  | h0 => simp [trimK]
  | hs d k ih =>
    obtain ⟨h1, h2, h3⟩ := ih
    rw [trimK_snoc]
    unfold tStep
    rw [List.length_append, List.length_singleton]
    split
    · refine ⟨fun t ht => h1 t (List.mem_of_mem_eraseIdx ht), ?_, ?_⟩
      · have := List.length_eraseIdx_le (trimK ms ts d) (ts.length - 1 - k); omega
      · have : (trimK ms ts d).length ≤ ((trimK ms ts d).eraseIdx (ts.length - 1 - k)).length + 1 := by
          rw [List.length_eraseIdx]
          split <;> omega
        omega
    · exact ⟨h1, h2, by omega⟩
theorem downTo {n : Nat} (h : n ≤ 1000) : rng3 [.int ((n : Int) - 1), .int (-1), .int (-1)] = some ((List.range n).map fun k : Nat => .int ((n : Int) - 1 - (k : Int))) := by
  have e : rng3 [.int ((n : Int) - 1), .int (-1), .int (-1)] = if (smallR ((n : Int) - 1) && smallR (-1) && decide ((-1 : Int) = -1)) = true then some (downFrom ((n : Int) - 1) ((n : Int) - 1 - (-1)).toNat) else none := rfl
  rw [e, smallR_of (by omega) (by omega), smallR_of (by omega) (by omega), decide_eq_true rfl]
  simp only [Bool.and_self, if_true]
  rw [show ((n : Int) - 1 - (-1)).toNat = n by omega]
  rfl
theorem down_at {n k : Nat} (h : k < n) : (n : Int) - 1 - (k : Int) = ((n - 1 - k : Nat) : Int) := by omega
theorem popAt_own {i j : Nat} {ρ : Rho} {xs : List D} {y : D} {f : Rho → Res D} (h : ρ[i]? = some (some (.own xs))) (hf : f ρ = .ok (.int (j : Int))) (hj : xs[j]? = some y) : popAtD i f ρ = .ok (y, ρ.set i (some (.own (xs.eraseIdx j)))) := by
  unfold popAtD ownR
  rw [h]
  show ((f ρ).bind _) = _
  rw [hf]
  rw [Res.bind_ok]
  simp only [Int.natCast_nonneg, if_true, Int.toNat_natCast, hj, Res.of_some, Res.map_ok]
theorem flatA_map {α : Type} {f : α → D} (h : ∀ x, flat (f x) = true) (xs : List α) : flatA (xs.map f) = true := by
  induction xs with
  | nil => rfl
  | cons x xs ih => simp [flatA, h, ih]
theorem flat_N (n : Nat) : flat (eN n) = true := rfl
theorem flat_R (r : List Nat) : flat (eR r) = true := by
  show flatA (r.map eN) = true
  exact flatA_map flat_N r
section
open DM
theorem m_trimmed_of {n : Nat} {ms : List Meet} {ts : List Row} (h : Fit n ms ts) (hl : ts.length ≤ 1000) : f_trimmed_of [.list (ms.map eM), .list (ts.map eR)] = .ro ((trimM ms ts).map eR) := by
  have loop : ∃ ρ', forL (tgName 4) g_trimmed_of_b1 ((List.range ts.length).map fun k : Nat => .int ((ts.length : Int) - 1 - (k : Int))) [some (.d (.list (ms.map eM))), some (.d (.list (ts.map eR))), some (.own (ts.map eR)), some (.d (.list ((unmetM ms ts).map eM))), none] = .nx ρ' ∧
      ∃ y, ρ' = [some (.d (.list (ms.map eM))), some (.d (.list (ts.map eR))), some (.own ((trimM ms ts).map eR)), some (.d (.list ((unmetM ms ts).map eM))), y] := by
    refine forL_inv (fun d ρ => ∃ y, ρ = [some (.d (.list (ms.map eM))), some (.d (.list (ts.map eR))), some (.own ((trimK ms ts d).map eR)), some (.d (.list ((unmetM ms ts).map eM))), y]) (List.range ts.length) ?_ ⟨none, rfl⟩
    rintro d k r ρ e ⟨y, rfl⟩
    have hk : k < ts.length := List.mem_range.mp (by rw [e]; simp)
    obtain ⟨t1, t2, t3⟩ := trimK_sub ms ts d
    have hf : Fit n ms (trimK ms ts d) := h.sub t1 (by omega)
    have w := m_without (ts := trimK ms ts d) (i := ts.length - 1 - k) (by omega)
    have hfl : flatA (((trimK ms ts d).eraseIdx (ts.length - 1 - k)).map eR) = true := flatA_map flat_R _
    have w2 : lendO 2 (callO 2 f_without (asCons (rd 2) (asCons (rd 4) asNil))) [some (.d (.list (ms.map eM))), some (.d (.list (ts.map eR))), some (.own ((trimK ms ts d).map eR)), some (.d (.list ((unmetM ms ts).map eM))), some (.d (.int ((ts.length - 1 - k : Nat) : Int)))] = .ok (((trimK ms ts d).eraseIdx (ts.length - 1 - k)).map eR) := by
      rw [lendO_own (xs := (trimK ms ts d).map eR) rfl]
      simp only [frzAt_ap, List.getElem?_cons_succ, List.getElem?_cons_zero, List.set_cons_succ, List.set_cons_zero, callO_ap, asCons_ap, asNil_ap, rd_ap, Res.bind_ok, Res.map_ok, List.length_cons, List.length_nil, Nat.zero_add, Nat.reduceAdd, if_true, w, own_ro, hfl]
    refine ⟨_, [some (.d (.list (ms.map eM))), some (.d (.list (ts.map eR))), some (.own ((trimK ms ts (d ++ [k])).map eR)), some (.d (.list ((unmetM ms ts).map eM))), some (.d (.int ((ts.length - 1 - k : Nat) : Int)))], rfl, ?_, _, rfl⟩
    rw [down_at hk, trimK_snoc]
    show g_trimmed_of_b1 [some (.d (.list (ms.map eM))), some (.d (.list (ts.map eR))), some (.own ((trimK ms ts d).map eR)), some (.d (.list ((unmetM ms ts).map eM))), some (.d (.int ((ts.length - 1 - k : Nat) : Int)))] = _
    unfold g_trimmed_of_b1 tStep
    simp only [ifS_ap, thenS_ap, toB_ap, op2_ap, setO_ap, callR_ap, asCons_ap, asNil_ap, frz_ap, w2, rd_ap, rdB_ap, List.getElem?_cons_succ, List.getElem?_cons_zero, Res.bind_ok, Res.map_ok, List.length_cons, List.length_nil, Nat.zero_add, Nat.reduceAdd, if_true, m_unmet (hf.erase _), res_ro, eqMs, Res.of_some, boolD_bool, List.set_cons_succ, List.set_cons_zero]
    by_cases hc : unmetM ms ((trimK ms ts d).eraseIdx (ts.length - 1 - k)) = unmetM ms ts
    · rw [if_pos (decide_eq_true hc), if_pos hc]
    · rw [if_neg (by rw [decide_eq_false hc]; decide), if_neg hc]
  obtain ⟨ρ', h1, y, rfl⟩ := loop
  unfold f_trimmed_of
  rw [runD_eq]
  show ofS (g_trimmed_of [some (.d (.list (ms.map eM))), some (.d (.list (ts.map eR))), none, none, none]) = _
  unfold g_trimmed_of
  have hd := downTo hl
  simp only [seqS_ap, setS_ap, setO_ap, forS_ap, retS_ap, retV_ap, thenS_ap, frz_ap, cb_ap, callR_ap, asCons_ap, asNil_ap, op2_ap, negR_ap, kst_ap, rd_ap, rdB_ap, List.getElem?_cons_succ, List.getElem?_cons_zero, Res.bind_ok, Res.map_ok, List.length_cons, List.length_nil, List.length_map, Nat.zero_add, Nat.reduceAdd, if_true, toListD_list, lenD_list, intD_int, Res.of_some, m_unmet h, res_ro, List.set_cons_succ, List.set_cons_zero, hd, h1, ofS_ro]
variable {b : Book} {s : Nat}
theorem m_trimmed (h : WF b) (s1 : 1 ≤ s) (s3 : s ≤ 3) (sl : s ≤ b.1.length) {ts : List Row} (ht : ∀ t ∈ ts, t ∈ tests b) (hl : ts.length ≤ 1000) : f_trimmed [eB b, .int (s : Int), .list (ts.map eR)] = .ro ((trimM (poss b s) ts).map eR) := by
  unfold f_trimmed
  rw [runD_eq]
  show ofS (g_trimmed [some (.d (eB b)), some (.d (.int (s : Int))), some (.d (.list (ts.map eR)))]) = _
  unfold g_trimmed
  simp only [seqS_ap, dropS_ap, retO_ap, thenS_ap, callR_ap, callO_ap, asCons_ap, asNil_ap, rd_ap, List.getElem?_cons_succ, List.getElem?_cons_zero, Res.bind_ok, Res.map_ok, List.length_cons, List.length_nil, Nat.zero_add, Nat.reduceAdd, if_true, m_look_cover h s1 s3 sl ht, m_possible_of h s1 s3, m_trimmed_of (fit_of h s1 s3 ht (by omega)) hl, res_rt, res_ro, own_ro, ofS_ro]
theorem tests_len (h : WF b) : (tests b).length ≤ 81 := Nat.le_trans (List.length_filter_le _ _) (rows_le h)
theorem m_l_drawn {ns : List Int} (h : WF b) (at_ : Nat) {most : Nat} (hm : most ≤ 100) : ∃ ts : List Row, (∀ t ∈ ts, t ∈ tests b) ∧ ts.length ≤ most ∧ f_l_drawn [eS ns, .int (at_ : Int), eB b, .int (most : Int)] = .ro (ts.map eR) := by
  have e0 := m_l_cell ns at_
  generalize hc : cellOf ns at_ = cell at e0
  obtain ⟨n, en, hn⟩ := mix_nat cell 9923 (m := most + 1) (by omega)
  have x1 := m_l_mix (c := cell) (p := 9923) (m := ((most + 1 : Nat) : Int)) (by decide) (by omega)
  rw [en, Int.natCast_add, show ((1 : Nat) : Int) = 1 from rfl] at x1
  have q := neD_nm (P := tests b = []) (nmRs (tests b)) nmNil (by decide) (by decide) (by simp)
  by_cases h0 : tests b = []
  · refine ⟨[], by simp, by simp, ?_⟩
    rw [decide_eq_true h0] at q
    unfold f_l_drawn
    rw [runD_eq]
    show ofS (g_l_drawn [some (.d (eS ns)), some (.d (.int (at_ : Int))), some (.d (eB b)), some (.d (.int (most : Int))), none, none, none]) = _
    unfold g_l_drawn
    simp only [seqS_ap, setS_ap, setO_ap, ifS_ap, forS_ap, thenS_ap, toB_ap, op2_ap, frz_ap, disp_ap, callR_ap, asCons_ap, asNil_ap, rd_ap, rdB_ap, List.getElem?_cons_succ, List.getElem?_cons_zero, Res.bind_ok, Res.map_ok, List.length_cons, List.length_nil, Nat.zero_add, Nat.zero_le, if_true, m_l_tests h, res_ro, List.set_cons_succ, List.set_cons_zero, q, Res.of_some, boolD_bool, Bool.not_true, Bool.false_eq_true, if_false, retV_ap, ofS_ro]
    rfl
  · have hpos : 0 < (tests b).length := List.length_pos_iff.mpr h0
    have htl := tests_len h
    rw [decide_eq_false h0] at q
    have loop : ∃ ρ', forL (tgName 6) g_l_drawn_b1 ((List.range n).map eN) [some (.d (eS ns)), some (.d (.int (at_ : Int))), some (.d (eB b)), some (.d (.int (most : Int))), some (.d (.list ((tests b).map eR))), some (.own []), none] = .nx ρ' ∧
        ∃ (ts : List Row) (y : Option B), ρ' = [some (.d (eS ns)), some (.d (.int (at_ : Int))), some (.d (eB b)), some (.d (.int (most : Int))), some (.d (.list ((tests b).map eR))), some (.own (ts.map eR)), y] ∧ ts.length = (List.range n).length ∧ ∀ t ∈ ts, t ∈ tests b := by
      refine forL_inv (fun d ρ => ∃ (ts : List Row) (y : Option B), ρ = [some (.d (eS ns)), some (.d (.int (at_ : Int))), some (.d (eB b)), some (.d (.int (most : Int))), some (.d (.list ((tests b).map eR))), some (.own (ts.map eR)), y] ∧ ts.length = d.length ∧ ∀ t ∈ ts, t ∈ tests b) (List.range n) ?_ ⟨[], none, rfl, rfl, fun _ h => by cases h⟩
      rintro d k r ρ e ⟨ts, y, rfl, hl, hts⟩
      have hk : k < n := List.mem_range.mp (by rw [e]; simp)
      have hd : d.length ≤ n := by
        have := congrArg List.length e
        rw [List.length_range, List.length_append] at this
        omega
      have e1 : mulD (.int 29) (.int (k : Int)) = some (.int (29 * (k : Int))) := mulD_small' (smallI_of (by omega) (by omega))
      have e2 : mulD (.int (29 * (k : Int))) (.int (k : Int)) = some (.int (29 * (k : Int) * (k : Int))) := mulD_small (smallI_of (by omega) (by omega))
      obtain ⟨j, ej, hj⟩ := mix_nat (cell + 29 * (k : Int) * (k : Int) + (k : Int)) 9907 hpos
      have x2 := m_l_mix (c := cell + 29 * (k : Int) * (k : Int) + (k : Int)) (p := 9907) (m := ((tests b).length : Int)) (by decide) (by omega)
      rw [ej] at x2
      have a1 : atI ((tests b).map eR) (j : Int) = some (eR (tests b)[j]) := atI_nat (by rw [List.getElem?_map, List.getElem?_eq_getElem hj]; rfl)
      have hz : ts.length < sizeLine := by have := sizeLine_big; omega
      refine ⟨_, [some (.d (eS ns)), some (.d (.int (at_ : Int))), some (.d (eB b)), some (.d (.int (most : Int))), some (.d (.list ((tests b).map eR))), some (.own ((ts ++ [(tests b)[j]]).map eR)), some (.d (.int (k : Int)))], rfl, ?_, ts ++ [(tests b)[j]], _, rfl, by simp [hl], fun t ht => ?_⟩
      · show g_l_drawn_b1 [some (.d (eS ns)), some (.d (.int (at_ : Int))), some (.d (eB b)), some (.d (.int (most : Int))), some (.d (.list ((tests b).map eR))), some (.own (ts.map eR)), some (.d (.int (k : Int)))] = _
        unfold g_l_drawn_b1
        rw [appS_own (xs := ts.map eR) _ rfl]
        simp only [thenS_ap, op2_ap, callR_ap, cb_ap, asCons_ap, asNil_ap, rd_ap, rdB_ap, kst_ap, List.getElem?_cons_succ, List.getElem?_cons_zero, Res.bind_ok, Res.map_ok, List.length_cons, List.length_nil, List.length_map, Nat.zero_add, Nat.reduceAdd, if_true, e0, e1, e2, res_rt, addD_int, lenD_list, Res.of_some, x2, ixD_list, a1, hz]
        simp
      · rcases List.mem_append.mp ht with ht | ht
        · exact hts t ht
        · rw [List.mem_singleton.mp ht]; exact List.getElem_mem hj
    obtain ⟨ρ', h1, ts, y, rfl, hl, hts⟩ := loop
    rw [List.length_range] at hl
    refine ⟨ts, hts, by omega, ?_⟩
    have r1 : rng1 [.int (n : Int)] = some ((List.range n).map eN) := rng1_N (by omega)
    unfold f_l_drawn
    rw [runD_eq]
    show ofS (g_l_drawn [some (.d (eS ns)), some (.d (.int (at_ : Int))), some (.d (eB b)), some (.d (.int (most : Int))), none, none, none]) = _
    unfold g_l_drawn
    simp only [seqS_ap, setS_ap, setO_ap, ifS_ap, forS_ap, thenS_ap, toB_ap, op2_ap, cb_ap, frz_ap, disp_ap, callR_ap, asCons_ap, asNil_ap, kst_ap, rd_ap, rdB_ap, List.getElem?_cons_succ, List.getElem?_cons_zero, Res.bind_ok, Res.map_ok, List.length_cons, List.length_nil, Nat.zero_add, Nat.reduceAdd, Nat.zero_le, if_true, m_l_tests h, res_ro, res_rt, List.set_cons_succ, List.set_cons_zero, q, Res.of_some, boolD_bool, Bool.not_false, e0, addD_int, x1, r1, h1, retV_ap, ofS_ro]
end
end DL

/-! The plain part, 16: tests in order. -/
namespace DL
open PySem PySem.Spec PyProof.Rows L2
def newsM (left : List Meet) (t : List Nat) : Nat := (left.filter fun m => meets t m).length
def mx (ns : List Nat) : Nat := ns.foldl max 0
def maxAt (ns : List Nat) : Nat := ns.findIdx fun x => x == mx ns
theorem foldl_max_ge (n : Nat) (ns : List Nat) : n ≤ ns.foldl max n ∧ ∀ y ∈ ns, y ≤ ns.foldl max n := by
  induction ns generalizing n with
  | nil => simp
  | cons m ns ih =>
    obtain ⟨h1, h2⟩ := ih (max n m)
    rw [List.foldl_cons]
    refine ⟨by omega, fun y hy => ?_⟩
    rcases List.mem_cons.mp hy with rfl | hy
    · omega
    · exact h2 y hy
theorem foldl_max_mem (n : Nat) (ns : List Nat) : ns.foldl max n ∈ n :: ns := by
  induction ns generalizing n with
  | nil => simp
  | cons m ns ih =>
    rw [List.foldl_cons]
    rcases List.mem_cons.mp (ih (max n m)) with h | h
    · rw [h]
      by_cases hm : n ≤ m
      · rw [Nat.max_eq_right hm]; simp
      · rw [Nat.max_eq_left (by omega)]; simp
    · simp [h]
theorem mx_ge {ns : List Nat} {y : Nat} (h : y ∈ ns) : y ≤ mx ns := (foldl_max_ge 0 ns).2 y h
theorem mx_mem {ns : List Nat} (h : ns ≠ []) : mx ns ∈ ns := by
  cases ns with
  | nil => exact absurd rfl h
  | cons n ns =>
    have := foldl_max_mem n ns
    unfold mx
    rw [List.foldl_cons, Nat.zero_max]
    exact this
theorem maxAt_lt {ns : List Nat} (h : ns ≠ []) : maxAt ns < ns.length := List.findIdx_lt_length_of_exists ⟨_, mx_mem h, by simp⟩
theorem maxAt_get {ns : List Nat} (h : ns ≠ []) : ns[maxAt ns]'(maxAt_lt h) = mx ns := by
  have := List.findIdx_getElem (w := maxAt_lt h)
  unfold maxAt
  simpa using this
theorem maxI_nat (n : Nat) (ns : List Nat) : maxI (n : Int) (ns.map fun x : Nat => (x : Int)) = ((ns.foldl max n : Nat) : Int) := by
  unfold maxI
  induction ns generalizing n with
  | nil => rfl
  | cons m ns ih =>
    rw [List.map_cons, List.foldl_cons, List.foldl_cons, ← ih (max n m)]
    congr 1
    omega
theorem eN_map (ns : List Nat) : ns.map eN = (ns.map fun x : Nat => (x : Int)).map PyData.int := by
  rw [List.map_map]
  rfl
theorem maxLD_N {ns : List Nat} (h : ns ≠ []) : maxLD [.list (ns.map eN)] = some (.int ((mx ns : Nat) : Int)) := by
  cases ns with
  | nil => exact absurd rfl h
  | cons n ns =>
    have e : intsOf ((n :: ns).map eN) = some ((n : Int) :: ns.map fun x : Nat => (x : Int)) := by
      rw [eN_map, intsOf_map]
      rfl
    show (match intsOf ((n :: ns).map eN) with | some (n :: ns) => some (PyData.int (maxI n ns)) | _ => none) = _
    rw [e]
    show some (PyData.int (maxI (n : Int) _)) = _
    rw [maxI_nat]
    unfold mx
    rw [List.foldl_cons, Nat.zero_max]
theorem indexD_N {ns : List Nat} (h : ns ≠ []) : indexD (.list (ns.map eN)) (.int ((mx ns : Nat) : Int)) = some (.int ((maxAt ns : Nat) : Int)) := by
  have h1 : SeqAt.shaped (.list (ns.map eN)) = true := (nmNs ns).shaped (by decide)
  have h2 : SeqAt.shaped (.int ((mx ns : Nat) : Int)) = true := (Nm.int _).shaped (by decide)
  have h3 : (ns.map eN).findIdx? (fun z => PyData.eqv z (.int ((mx ns : Nat) : Int))) = some (maxAt ns) := by
    rw [List.findIdx?_map]
    have e : ((fun z => PyData.eqv z (.int ((mx ns : Nat) : Int))) ∘ eN) = fun x : Nat => x == mx ns := by
      funext x
      show PyData.eqv (.int (x : Int)) (.int ((mx ns : Nat) : Int)) = _
      simp only [PyData.eqv]
      rw [Bool.eq_iff_iff]
      simp
      omega
    rw [e, List.findIdx?_eq_some_of_exists ⟨mx ns, mx_mem h, by simp⟩]
    rfl
  show (if SeqAt.shaped (.list (ns.map eN)) = true ∧ SeqAt.shaped (.int ((mx ns : Nat) : Int)) = true then _ else none) = _
  rw [if_pos ⟨h1, h2⟩, h3]
  rfl
/-- what is left, the rest, what is found -/
structure OS where
  left : List Meet
  rest : List (List Nat)
  found : List (List Nat)
def ordAt (a : OS) : Nat := maxAt (a.rest.map (newsM a.left))
def ordStep (a : OS) : OS := ⟨unmetM a.left [a.rest.getD (ordAt a) []], a.rest.eraseIdx (ordAt a), a.found ++ [a.rest.getD (ordAt a) []]⟩
def ordGo (a : OS) : Bool := !a.rest.isEmpty
theorem ordAt_lt {a : OS} (h : a.rest ≠ []) : ordAt a < a.rest.length := by
  have : a.rest.map (newsM a.left) ≠ [] := fun z => h (List.map_eq_nil_iff.mp z)
  have := maxAt_lt this
  rw [List.length_map] at this
  exact this
theorem ordAt_get {a : OS} (h : a.rest ≠ []) : a.rest[ordAt a]? = some (a.rest.getD (ordAt a) []) := by
  rw [List.getD_eq_getElem?_getD, List.getElem?_eq_getElem (ordAt_lt h)]
  rfl
theorem ord_mem {a : OS} (h : a.rest ≠ []) : a.rest.getD (ordAt a) [] ∈ a.rest := List.mem_of_getElem? (ordAt_get h)
theorem ord_less {a : OS} (h : a.rest ≠ []) : (ordStep a).rest.length < a.rest.length := by
  have := ordAt_lt h
  show (a.rest.eraseIdx (ordAt a)).length < _
  rw [List.length_eraseIdx, if_pos this]
  omega
/-- what a state keeps -/
structure OK (n : Nat) (P : List Meet) (ts : List (List Nat)) (a : OS) : Prop where
  fit : Fit n a.left a.rest
  all : Fit n P ts
  sub : ∀ t ∈ a.found, t ∈ ts
  rsub : ∀ t ∈ a.rest, t ∈ ts
  len : a.found.length + a.rest.length = ts.length
  left : a.left = unmetM P a.found
theorem unmet_nil (P : List Meet) : unmetM P [] = P := List.filter_eq_self.mpr fun _ _ => rfl
theorem unmet_snoc (P : List Meet) (f : List (List Nat)) (t : List Nat) : unmetM (unmetM P f) [t] = unmetM P (f ++ [t]) := by
  unfold unmetM
  rw [List.filter_filter]
  congr 1
  funext m
  simp [Bool.and_comm]
theorem OK.step {n : Nat} {P : List Meet} {ts : List (List Nat)} {a : OS} (h : OK n P ts a) (hr : a.rest ≠ []) : OK n P ts (ordStep a) := by
  have hm := ord_mem hr
  have hl := ordAt_lt hr
  have hlen := h.len
  refine ⟨⟨fun t ht => h.fit.len t (List.mem_of_mem_eraseIdx ht), fun m hm => h.fit.lt m (unmet_sub m hm), ?_, ?_⟩, h.all, fun t ht => ?_, fun t ht => h.rsub t (List.mem_of_mem_eraseIdx ht), ?_, ?_⟩
  · exact Nat.le_trans (List.length_filter_le _ _) h.fit.few
  · have := ord_less hr; have := h.fit.ft; omega
  · rcases List.mem_append.mp ht with ht | ht
    · exact h.sub t ht
    · rw [List.mem_singleton.mp ht]; exact h.rsub _ hm
  · show (a.found ++ [_]).length + (a.rest.eraseIdx (ordAt a)).length = _
    rw [List.length_append, List.length_singleton, List.length_eraseIdx, if_pos hl]
    omega
  · show unmetM a.left [_] = unmetM P (a.found ++ [_])
    rw [h.left, unmet_snoc]
def ordered (P : List Meet) (ts : List (List Nat)) : OS := iter ordGo ordStep ts.length ⟨P, ts, []⟩
theorem iter_keeps {α : Type} {c : α → Bool} {step : α → α} (I : α → Prop) (h : ∀ a, I a → c a = true → I (step a)) : ∀ (n : Nat) (a : α), I a → I (iter c step n a)
  | 0, a, ha => ha
  | n + 1, a, ha => by
    unfold iter
    split
    · rename_i hc; exact iter_keeps I h n _ (h a ha hc)
    · exact ha
theorem go_rest {a : OS} (h : ordGo a = true) : a.rest ≠ [] := fun z => by
  unfold ordGo at h
  rw [z] at h
  cases h
theorem ordered_ok {n : Nat} {P : List Meet} {ts : List (List Nat)} (h : Fit n P ts) : OK n P ts (ordered P ts) :=
  iter_keeps (OK n P ts) (fun a ha hc => ha.step (go_rest hc)) _ _ ⟨h, h, fun _ z => by (cases z), fun _ z => z, by simp, (unmet_nil P).symm⟩
section
open DM
theorem m_new_met {n : Nat} {ms : List Meet} {t : List Nat} (h : Fit n ms [t]) : f_new_met [.list (ms.map eM), eR t] = .rt (.int ((newsM ms t : Nat) : Int)) := by
  have e := lc_map (fi := toSeq (rdB 0)) (t := tgName 2) (c := g_new_met_c1) (e := rd 2) (vs := [2]) (ρ := [some (.d (.list (ms.map eM))), some (.d (eR t)), none]) (enc := eM) (p := fun m => meets t m) (g := eM) ms rfl
    fun m hm => ⟨[some (.d (.list (ms.map eM))), some (.d (eR t)), some (.d (eM m))], rfl, by simp [g_new_met_c1, m_meets (h.at t (by simp) m hm)], fun _ => rfl⟩
  unfold f_new_met
  rw [runD_eq]
  show ofS (g_new_met [some (.d (.list (ms.map eM))), some (.d (eR t)), none]) = _
  unfold g_new_met
  simp only [retS_ap, thenS_ap, cb_ap, asCons_ap, asNil_ap, frz_ap, e, Res.map_ok, Res.bind_ok, lenD_list, Res.of_some, ofS_rt, List.length_map]
  rfl
variable {b : Book} {s : Nat}
theorem m_in_order (h : WF b) (s1 : 1 ≤ s) (s3 : s ≤ 3) (sl : s ≤ b.1.length) {ts : List (List Nat)} (ht : ∀ t ∈ ts, t ∈ tests b) (hl : ts.length ≤ 1000) : f_in_order [eB b, .int (s : Int), .list (ts.map eR)] = .ro ((ordered (poss b s) ts).found.map eR) := by
  have hf := fit_of h s1 s3 ht (by omega)
  generalize hP : poss b s = P at hf
  have loop := while_iter (w := g_in_order_w1) (b := g_in_order_b1) (fun (a : OS) ρ => OK b.1.length P ts a ∧ ∃ x y, ρ = [some (.d (eB b)), some (.d (.int (s : Int))), some (.d (.list (ts.map eR))), some (.d (.list (a.left.map eM))), some (.own (a.rest.map eR)), some (.own (a.found.map eR)), x, y]) ordGo ordStep (fun a => a.rest.length)
    (fun a ρ ⟨_, x, y, e⟩ => by
      subst e
      unfold g_in_order_w1 ordGo
      simp only [toTru_ap, rdB_ap, List.getElem?_cons_succ, List.getElem?_cons_zero, Res.bind_ok, truD_list, Res.of_some, isEmpty_map])
    (fun a ρ ⟨ha, x, y, e⟩ hc => by
      subst e
      have hr := go_rest hc
      refine ⟨ord_less hr, [some (.d (eB b)), some (.d (.int (s : Int))), some (.d (.list (ts.map eR))), some (.d (.list ((ordStep a).left.map eM))), some (.own ((ordStep a).rest.map eR)), some (.own ((ordStep a).found.map eR)), some (.d (eR (a.rest.getD (ordAt a) []))), some (.d (.list ((a.rest.map (newsM a.left)).map eN)))], ?_, ha.step hr, _, _, rfl⟩
      have fit1 : ∀ t ∈ a.rest, Fit b.1.length a.left [t] := fun t htt => ⟨fun t' ht' => by rw [List.mem_singleton.mp ht']; exact ha.fit.len t htt, ha.fit.lt, ha.fit.few, by simp⟩
      have e1 := lc_map (fi := toSeq (rdB 4)) (t := tgName 6) (c := yes) (e := g_in_order_e1) (vs := [6]) (ρ := [some (.d (eB b)), some (.d (.int (s : Int))), some (.d (.list (ts.map eR))), some (.d (.list (a.left.map eM))), some (.own (a.rest.map eR)), some (.own (a.found.map eR)), x, y]) (enc := eR) (p := fun _ => true) (g := fun t => eN (newsM a.left t)) a.rest rfl
        fun t htt => ⟨[some (.d (eB b)), some (.d (.int (s : Int))), some (.d (.list (ts.map eR))), some (.d (.list (a.left.map eM))), some (.own (a.rest.map eR)), some (.own (a.found.map eR)), some (.d (eR t)), y], rfl, rfl, fun _ => by
          unfold g_in_order_e1
          simp only [callR_ap, asCons_ap, asNil_ap, rd_ap, List.getElem?_cons_succ, List.getElem?_cons_zero, Res.bind_ok, Res.map_ok, List.length_cons, List.length_nil, Nat.zero_add, Nat.reduceAdd, if_true, m_new_met (fit1 t htt), res_rt]
          rfl⟩
      rw [List.filter_eq_self.mpr (fun _ _ => rfl)] at e1
      have e1' : a.rest.map (fun t => eN (newsM a.left t)) = (a.rest.map (newsM a.left)).map eN := by rw [List.map_map]; rfl
      rw [e1'] at e1
      have hne : a.rest.map (newsM a.left) ≠ [] := fun z => hr (List.map_eq_nil_iff.mp z)
      have p1 := popAt_own (i := 4) (j := ordAt a) (ρ := [some (.d (eB b)), some (.d (.int (s : Int))), some (.d (.list (ts.map eR))), some (.d (.list (a.left.map eM))), some (.own (a.rest.map eR)), some (.own (a.found.map eR)), x, some (.d (.list ((a.rest.map (newsM a.left)).map eN)))]) (xs := a.rest.map eR) (y := eR (a.rest.getD (ordAt a) [])) (f := idxR (rdB 7) (cb maxLD (asCons (rdB 7) asNil))) rfl
        (by
          unfold idxR
          simp only [rdB_ap, cb_ap, asCons_ap, asNil_ap, List.getElem?_cons_succ, List.getElem?_cons_zero, Res.bind_ok, Res.map_ok, maxLD_N hne, Res.of_some, indexD_N hne]
          rfl) (by rw [List.getElem?_map, ordAt_get hr]; rfl)
      have z1 : (a.rest.map eR).eraseIdx (ordAt a) = (a.rest.eraseIdx (ordAt a)).map eR := by
        rw [← take_drop_erase, ← List.map_take, ← List.map_drop, ← List.map_append, take_drop_erase]
      rw [z1] at p1
      have hz : a.found.length < sizeLine := by have := ha.len; have := sizeLine_big; omega
      have u1 := m_unmet (fit1 _ (ord_mem hr))
      unfold g_in_order_b1 setE thenE
      simp only [seqS_ap, setS_ap, thenS_ap, frz_ap, e1, Res.map_ok, List.set_cons_succ, List.set_cons_zero, p1]
      rw [appS_own (xs := a.found.map eR) _ rfl]
      simp only [thenS_ap, rd_ap, List.getElem?_cons_succ, List.getElem?_cons_zero, List.length_map, hz, if_true, List.set_cons_succ, List.set_cons_zero, callR_ap, asCons_ap, asNil_ap, frz_ap, disp_ap, Res.bind_ok, Res.map_ok, List.length_cons, List.length_nil, Nat.zero_add, Nat.reduceAdd, Nat.reduceLeDiff]
      rw [show ([eR (a.rest.getD (ordAt a) [])] : List D) = [a.rest.getD (ordAt a) []].map eR from rfl, u1]
      simp [ordStep])
  obtain ⟨ρ', w1, ⟨_, x, y, rfl⟩, _⟩ := loop ts.length ⟨P, ts, []⟩ [some (.d (eB b)), some (.d (.int (s : Int))), some (.d (.list (ts.map eR))), some (.d (.list (P.map eM))), some (.own (ts.map eR)), some (.own []), none, none] (Nat.le_refl _)
    ⟨⟨hf, hf, fun _ z => by (cases z), fun _ z => z, by simp, (unmet_nil P).symm⟩, none, none, rfl⟩
  have x5 := m_possible_of h s1 s3
  rw [hP] at x5
  unfold f_in_order
  rw [runD_eq]
  show ofS (g_in_order [some (.d (eB b)), some (.d (.int (s : Int))), some (.d (.list (ts.map eR))), none, none, none, none, none]) = _
  unfold g_in_order
  simp only [seqS_ap, dropS_ap, setS_ap, setO_ap, thenS_ap, cb_ap, disp_ap, callR_ap, asCons_ap, asNil_ap, rd_ap, rdB_ap, List.getElem?_cons_succ, List.getElem?_cons_zero, Res.bind_ok, Res.map_ok, List.length_cons, List.length_nil, Nat.zero_add, Nat.reduceAdd, Nat.zero_le, if_true, m_look_cover h s1 s3 sl ht, x5, res_rt, res_ro, List.set_cons_succ, List.set_cons_zero, toListD_list, Res.of_some, w1, retV_ap, ofS_ro]
  rfl
end
end DL

/-! The plain part, 17: tests filled and built. -/
namespace DL
open PySem PySem.Spec PyProof.Rows L2
theorem last_cut {xs : List D} {x : D} : cutD (.list (xs ++ [x])) (some (-1)) none = some (.list [x]) := by
  show some (PyData.list (cutG (xs ++ [x]) (some (-1)) none)) = _
  unfold cutG
  have e : HT.sIx (xs ++ [x]).length 0 (some (-1)) = xs.length := by
    unfold HT.sIx
    simp
    omega
  rw [e, show HT.sIx (xs ++ [x]).length (xs ++ [x]).length none = (xs ++ [x]).length from rfl, List.drop_left]
  simp
/-- filling: what is left, what is found -/
structure FS where
  left : List Meet
  found : List (List Nat)
def fillAt (ev : List (List Nat)) (a : FS) : List Nat := ev.getD (maxAt (ev.map (newsM a.left))) []
def fillStep (ev : List (List Nat)) (a : FS) : FS := ⟨unmetM a.left [fillAt ev a], a.found ++ [fillAt ev a]⟩
def fillGo (a : FS) : Bool := !a.left.isEmpty
structure FK (n : Nat) (P : List Meet) (ev : List (List Nat)) (f0 : List (List Nat)) (a : FS) : Prop where
  fit : Fit n P ev
  evl : ev.length ≤ 81
  sub : ∀ m ∈ a.left, m ∈ P
  few : a.left.length ≤ P.length
  some_ : ∀ m ∈ P, ∃ t ∈ ev, meets t m = true
  fsub : ∀ t ∈ a.found, t ∈ ev ∨ t ∈ f0
  flen : a.found.length + a.left.length ≤ f0.length + P.length
  left : a.left = unmetM P a.found
theorem fillGo_ne {a : FS} (h : fillGo a = true) : a.left ≠ [] := fun z => by
  unfold fillGo at h
  rw [z] at h
  cases h
theorem FK.ev {n : Nat} {P : List Meet} {ev f0 : List (List Nat)} {a : FS} (h : FK n P ev f0 a) (hc : a.left ≠ []) : ev.map (newsM a.left) ≠ [] ∧ 1 ≤ mx (ev.map (newsM a.left)) := by
  obtain ⟨m, hm⟩ := List.exists_mem_of_ne_nil _ hc
  obtain ⟨t, ht, hmt⟩ := h.some_ m (h.sub m hm)
  have h1 : newsM a.left t ∈ ev.map (newsM a.left) := List.mem_map.mpr ⟨t, ht, rfl⟩
  refine ⟨fun z => by (rw [z] at h1; cases h1), Nat.le_trans ?_ (mx_ge h1)⟩
  unfold newsM
  exact List.length_pos_iff.mpr fun z => by
    have : m ∈ a.left.filter fun m => meets t m := List.mem_filter.mpr ⟨hm, hmt⟩
    rw [z] at this
    cases this
theorem fillAt_get {ev : List (List Nat)} {a : FS} (h : ev.map (newsM a.left) ≠ []) : ev[maxAt (ev.map (newsM a.left))]? = some (fillAt ev a) ∧ newsM a.left (fillAt ev a) = mx (ev.map (newsM a.left)) := by
  have hl := maxAt_lt h
  have hg := maxAt_get h
  rw [List.length_map] at hl
  have e : ev[maxAt (ev.map (newsM a.left))]? = some (fillAt ev a) := by
    unfold fillAt
    rw [List.getD_eq_getElem?_getD, List.getElem?_eq_getElem hl]
    rfl
  refine ⟨e, ?_⟩
  rw [← hg, List.getElem_map]
  rw [List.getElem?_eq_getElem hl] at e
  rw [Option.some.inj e]
theorem met_nat (ms : List Meet) (t : List Nat) : (unmetM ms [t]).length + newsM ms t = ms.length := by
  have : (ms.filter fun m => meets t m).length + (ms.filter fun m => !meets t m).length = ms.length := by
    induction ms with
    | nil => rfl
    | cons m ms ih =>
      cases h : meets t m <;> simp [List.filter_cons, h] <;> omega
  have e : unmetM ms [t] = ms.filter fun m => !meets t m := by
    unfold unmetM
    congr 1
    funext m
    simp
  rw [e]
  unfold newsM
  omega
theorem FK.step {n : Nat} {P : List Meet} {ev f0 : List (List Nat)} {a : FS} (h : FK n P ev f0 a) (hc : a.left ≠ []) : FK n P ev f0 (fillStep ev a) ∧ (fillStep ev a).left.length < a.left.length := by
  obtain ⟨h1, h2⟩ := h.ev hc
  obtain ⟨h3, h4⟩ := fillAt_get h1
  have h5 := met_nat a.left (fillAt ev a)
  have hlt : (unmetM a.left [fillAt ev a]).length < a.left.length := by omega
  have hmem : fillAt ev a ∈ ev := List.mem_of_getElem? h3
  refine ⟨⟨h.fit, h.evl, fun m hm => h.sub m (unmet_sub m hm), ?_, h.some_, fun t ht => ?_, ?_, ?_⟩, hlt⟩
  · have := h.few
    show (unmetM a.left [fillAt ev a]).length ≤ _
    omega
  · rcases List.mem_append.mp ht with ht | ht
    · exact h.fsub t ht
    · rw [List.mem_singleton.mp ht]; exact .inl hmem
  · have := h.flen
    show (a.found ++ [fillAt ev a]).length + (unmetM a.left [fillAt ev a]).length ≤ _
    rw [List.length_append, List.length_singleton]
    omega
  · show unmetM a.left [_] = unmetM P (a.found ++ [_])
    rw [h.left, unmet_snoc]
def fillM (ev : List (List Nat)) (P : List Meet) (f0 : List (List Nat)) : FS := iter fillGo (fillStep ev) P.length ⟨unmetM P f0, f0⟩
end DL

/-! The plain part, 18: filled, built; what trimming leaves. -/
namespace DL
open PySem PySem.Spec PyProof.Rows L2
theorem unmet_iff {P : List Meet} {ts : List (List Nat)} {m : Meet} : m ∈ unmetM P ts ↔ m ∈ P ∧ ∀ t ∈ ts, meets t m = false := by
  unfold unmetM
  rw [List.mem_filter, Bool.not_eq_true', List.any_eq_false]
  constructor
  · rintro ⟨h1, h2⟩
    exact ⟨h1, fun t ht => by simpa using h2 t ht⟩
  · rintro ⟨h1, h2⟩
    exact ⟨h1, fun t ht => by rw [h2 t ht]; simp⟩
/-- more tests leave no more unmet -/
theorem unmet_sandwich {P : List Meet} {a b c : List (List Nat)} (h1 : ∀ t ∈ a, t ∈ b) (h2 : ∀ t ∈ b, t ∈ c) (e : unmetM P a = unmetM P c) : unmetM P b = unmetM P c := by
  have key : ∀ m ∈ P, (b.any fun t => meets t m) = (c.any fun t => meets t m) := fun m hm => by
    rw [Bool.eq_iff_iff]
    constructor
    · intro h
      obtain ⟨t, ht, hmt⟩ := List.any_eq_true.mp h
      exact List.any_eq_true.mpr ⟨t, h2 t ht, hmt⟩
    · intro h
      cases hb : b.any (fun t => meets t m) with
      | true => rfl
      | false =>
        have hm1 : m ∈ unmetM P a := unmet_iff.mpr ⟨hm, fun t ht => by
          have := List.any_eq_false.mp hb t (h1 t ht)
          simpa using this⟩
        rw [e] at hm1
        obtain ⟨t, ht, hmt⟩ := List.any_eq_true.mp h
        rw [(unmet_iff.mp hm1).2 t ht] at hmt
        cases hmt
  unfold unmetM
  exact List.filter_congr fun m hm => by rw [key m hm]
/-- the state of trimming: what is not gone through, what is kept -/
theorem trim_split (P : List Meet) (ts : List (List Nat)) : ∀ k, k ≤ ts.length → ∃ suf : List (List Nat), trimK P ts (List.range k) = ts.take (ts.length - k) ++ suf ∧ (∀ t ∈ suf, t ∈ ts) ∧ unmetM P (ts.take (ts.length - k) ++ suf) = unmetM P ts ∧
    ∀ s1 x s2, suf = s1 ++ x :: s2 → unmetM P (ts.take (ts.length - k) ++ (s1 ++ s2)) ≠ unmetM P ts
  | 0, _ => ⟨[], by simp [trimK], by simp, by simp, fun s1 x s2 e => by simp at e⟩
  | k + 1, hk => by
    obtain ⟨suf, h1, h2, h3, h4⟩ := trim_split P ts k (by omega)
    have hi : ts.length - 1 - k < ts.length := by omega
    have hk1 : ts.length - (k + 1) = ts.length - 1 - k := by omega
    have htake : ts.take (ts.length - k) = ts.take (ts.length - 1 - k) ++ [ts[ts.length - 1 - k]] := by
      rw [show ts.length - k = ts.length - 1 - k + 1 by omega, List.take_add_one, List.getElem?_eq_getElem hi]
      rfl
    have hlen : (ts.take (ts.length - 1 - k)).length = ts.length - 1 - k := by rw [List.length_take]; omega
    have herase : (ts.take (ts.length - k) ++ suf).eraseIdx (ts.length - 1 - k) = ts.take (ts.length - 1 - k) ++ suf := by
      rw [htake, List.append_assoc, List.eraseIdx_append_of_length_le (by omega), hlen, Nat.sub_self]
      rfl
    rw [List.range_succ, trimK_snoc, h1]
    unfold tStep
    rw [herase, hk1]
    have htk : ∀ j, ∀ t ∈ ts.take j, t ∈ ts := fun j t ht => List.mem_of_mem_take ht
    by_cases hc : unmetM P (ts.take (ts.length - 1 - k) ++ suf) = unmetM P ts
    · rw [if_pos hc]
      refine ⟨suf, rfl, h2, hc, fun s1 x s2 e z => h4 s1 x s2 e ?_⟩
      refine unmet_sandwich (a := ts.take (ts.length - 1 - k) ++ (s1 ++ s2)) (fun t ht => ?_) (fun t ht => ?_) z
      · rw [htake]
        rcases List.mem_append.mp ht with ht | ht
        · exact List.mem_append_left _ (List.mem_append_left _ ht)
        · exact List.mem_append_right _ ht
      · rcases List.mem_append.mp ht with ht | ht
        · exact htk _ t ht
        · refine h2 t ?_
          rw [e]
          rcases List.mem_append.mp ht with ht | ht <;> simp [ht]
    · rw [if_neg hc]
      have e1 : ts.take (ts.length - k) ++ suf = ts.take (ts.length - 1 - k) ++ (ts[ts.length - 1 - k] :: suf) := by rw [htake, List.append_assoc]; rfl
      refine ⟨ts[ts.length - 1 - k] :: suf, e1, fun t ht => ?_, by rw [← e1]; exact h3, fun s1 x s2 e => ?_⟩
      · rcases List.mem_cons.mp ht with rfl | ht
        · exact List.getElem_mem hi
        · exact h2 t ht
      · cases s1 with
        | nil =>
          simp only [List.nil_append, List.cons.injEq] at e
          rw [List.nil_append, ← e.2]
          exact hc
        | cons y s1 =>
          simp only [List.cons_append, List.cons.injEq] at e
          have := h4 s1 x s2 e.2
          rw [htake, List.append_assoc, e.1] at this
          exact this
/-- trimmed tests miss as much, none of them is needless -/
theorem trim_facts (P : List Meet) (ts : List (List Nat)) : unmetM P (trimM P ts) = unmetM P ts ∧ ∀ i, i < (trimM P ts).length → unmetM P ((trimM P ts).eraseIdx i) ≠ unmetM P ts := by
  obtain ⟨suf, h1, h2, h3, h4⟩ := trim_split P ts ts.length (Nat.le_refl _)
  have e : trimM P ts = suf := by
    unfold trimM
    rw [h1]
    simp
  rw [e]
  simp only [Nat.sub_self, List.take_zero, List.nil_append] at h3 h4
  refine ⟨h3, fun i hi => ?_⟩
  have := h4 (suf.take i) suf[i] (suf.drop (i + 1)) (by rw [List.getElem_cons_drop, List.take_append_drop])
  rw [take_drop_erase] at this
  exact this
section
open DM
variable {b : Book} {s : Nat}
theorem m_filled {n : Nat} {P : List Meet} (h : WF b) (hf : Fit n P (tests b)) (hs : ∀ m ∈ P, ∃ t ∈ tests b, meets t m = true) : f_filled [eB b, .list (P.map eM), .list []] = .ro ((fillM (tests b) P []).found.map eR) := by
  have hev := tests_len h
  have hP : unmetM P [] = P := unmet_nil P
  have loop := while_iter (w := g_filled_w1) (b := g_filled_b1) (fun (a : FS) ρ => FK n P (tests b) [] a ∧ ∃ x y, ρ = [some (.d (eB b)), some (.d (.list (P.map eM))), some (.d (.list [])), some (.own (a.found.map eR)), some (.d (.list (a.left.map eM))), some (.d (.list ((tests b).map eR))), x, y]) fillGo (fillStep (tests b)) (fun a => a.left.length)
    (fun a ρ ⟨_, x, y, e⟩ => by
      subst e
      unfold g_filled_w1 fillGo
      simp only [toTru_ap, rdB_ap, List.getElem?_cons_succ, List.getElem?_cons_zero, Res.bind_ok, truD_list, Res.of_some, isEmpty_map])
    (fun a ρ ⟨ha, x, y, e⟩ hc => by
      subst e
      have hr := fillGo_ne hc
      obtain ⟨hst, hlt⟩ := ha.step hr
      obtain ⟨hne, _⟩ := ha.ev hr
      obtain ⟨hg, _⟩ := fillAt_get hne
      refine ⟨hlt, [some (.d (eB b)), some (.d (.list (P.map eM))), some (.d (.list [])), some (.own ((fillStep (tests b) a).found.map eR)), some (.d (.list ((fillStep (tests b) a).left.map eM))), some (.d (.list ((tests b).map eR))), x, some (.d (.list (((tests b).map (newsM a.left)).map eN)))], ?_, hst, _, _, rfl⟩
      have fit1 : ∀ t ∈ tests b, Fit n a.left [t] := fun t htt => ⟨fun t' ht' => by rw [List.mem_singleton.mp ht']; exact hf.len t htt, fun m hm => hf.lt m (ha.sub m hm), Nat.le_trans ha.few hf.few, by simp⟩
      have e1 := lc_map (fi := toSeq (rdB 5)) (t := tgName 6) (c := yes) (e := g_filled_e1) (vs := [6]) (ρ := [some (.d (eB b)), some (.d (.list (P.map eM))), some (.d (.list [])), some (.own (a.found.map eR)), some (.d (.list (a.left.map eM))), some (.d (.list ((tests b).map eR))), x, y]) (enc := eR) (p := fun _ => true) (g := fun t => eN (newsM a.left t)) (tests b) rfl
        fun t htt => ⟨[some (.d (eB b)), some (.d (.list (P.map eM))), some (.d (.list [])), some (.own (a.found.map eR)), some (.d (.list (a.left.map eM))), some (.d (.list ((tests b).map eR))), some (.d (eR t)), y], rfl, rfl, fun _ => by
          unfold g_filled_e1
          simp only [callR_ap, asCons_ap, asNil_ap, rd_ap, List.getElem?_cons_succ, List.getElem?_cons_zero, Res.bind_ok, Res.map_ok, List.length_cons, List.length_nil, Nat.zero_add, Nat.reduceAdd, if_true, m_new_met (fit1 t htt), res_rt]
          rfl⟩
      rw [List.filter_eq_self.mpr (fun _ _ => rfl)] at e1
      have e1' : (tests b).map (fun t => eN (newsM a.left t)) = ((tests b).map (newsM a.left)).map eN := by rw [List.map_map]; rfl
      rw [e1'] at e1
      have a1 : atI ((tests b).map eR) ((maxAt ((tests b).map (newsM a.left)) : Nat) : Int) = some (eR (fillAt (tests b) a)) := DL.atI_nat (by rw [List.getElem?_map, hg]; rfl)
      have hz : a.found.length < sizeLine := by
        have h1 := ha.flen
        have h2 := hf.few
        have := sizeLine_big
        rw [List.length_nil] at h1
        omega
      have u1 := m_unmet (fit1 _ (List.mem_of_getElem? hg))
      rw [show ([fillAt (tests b) a].map eR : List D) = [eR (fillAt (tests b) a)] from rfl] at u1
      unfold g_filled_b1
      simp only [seqS_ap, setS_ap, thenS_ap, frz_ap, e1, Res.map_ok, List.set_cons_succ, List.set_cons_zero]
      rw [appS_own (xs := a.found.map eR) _ rfl]
      unfold idxR
      simp only [thenS_ap, op2_ap, rdB_ap, cb_ap, asCons_ap, asNil_ap, List.getElem?_cons_succ, List.getElem?_cons_zero, Res.bind_ok, Res.map_ok, maxLD_N hne, Res.of_some, indexD_N hne, ixD_list, a1, List.length_map, hz, if_true, List.set_cons_succ, List.set_cons_zero, callR_ap, rd_ap, sl3_ap, ptS_ap, ptN_ap, negR_ap, kst_ap, intOf_int, last_cut, List.length_cons, List.length_nil, Nat.zero_add, Nat.reduceAdd, u1, res_ro]
      simp [fillStep])
  obtain ⟨ρ', w1, ⟨_, x, y, rfl⟩, _⟩ := loop P.length ⟨P, []⟩ [some (.d (eB b)), some (.d (.list (P.map eM))), some (.d (.list [])), some (.own []), some (.d (.list (P.map eM))), some (.d (.list ((tests b).map eR))), none, none] (Nat.le_refl _)
    ⟨⟨hf, hev, fun _ z => z, Nat.le_refl _, hs, fun _ z => by (cases z), by simp, hP.symm⟩, none, none, rfl⟩
  have hfit0 : Fit n P [] := ⟨fun _ z => by (cases z), hf.lt, hf.few, by simp⟩
  have u0 := m_unmet hfit0
  rw [hP, show (([] : List (List Nat)).map eR : List D) = [] from rfl] at u0
  have e4 : lendO 3 (callO 2 f_unmet (asCons (rd 1) (asCons (rd 3) asNil))) [some (.d (eB b)), some (.d (.list (P.map eM))), some (.d (.list [])), some (.own []), none, none, none, none] = .ok (P.map eM) := by
    rw [lendO_own (xs := []) rfl]
    simp only [frzAt_ap, List.getElem?_cons_succ, List.getElem?_cons_zero, List.set_cons_succ, List.set_cons_zero, callO_ap, asCons_ap, asNil_ap, rd_ap, Res.bind_ok, Res.map_ok, List.length_cons, List.length_nil, Nat.zero_add, Nat.reduceAdd, if_true, u0, own_ro]
    have : flatA (P.map eM) = true := flatA_map (fun m => by
      show flatA (m.map eP) = true
      exact flatA_map (fun p => rfl) m) P
    rw [this]
    rfl
  unfold f_filled
  rw [runD_eq]
  show ofS (g_filled [some (.d (eB b)), some (.d (.list (P.map eM))), some (.d (.list [])), none, none, none, none, none]) = _
  unfold g_filled
  simp only [seqS_ap, setS_ap, setO_ap, thenS_ap, cb_ap, callR_ap, asCons_ap, asNil_ap, rd_ap, rdB_ap, List.getElem?_cons_succ, List.getElem?_cons_zero, Res.bind_ok, Res.map_ok, List.length_cons, List.length_nil, Nat.zero_add, if_true, toListD_list, Res.of_some, List.set_cons_succ, List.set_cons_zero, frz_ap, e4, m_tests_of h, res_ro, w1, retV_ap, ofS_ro]
  unfold fillM
  rw [hP]
end
end DL

/-! The plain part, 19: built tests; trimming of what has no needless ones; orders are rearrangements; sorted rows; greater meetings. -/
namespace DL
open PySem PySem.Spec PyProof.Rows L2
theorem poss_met {b : Book} {s : Nat} : ∀ m ∈ poss b s, ∃ t ∈ tests b, meets t m = true := fun m hm => (poss_iff.mp hm).2
def builtM (b : Book) (s : Nat) : List (List Nat) := trimM (poss b s) (fillM (tests b) (poss b s) []).found
theorem fill_ok {n : Nat} {P : List Meet} {ev : List (List Nat)} (hf : Fit n P ev) (he : ev.length ≤ 81) (hs : ∀ m ∈ P, ∃ t ∈ ev, meets t m = true) : FK n P ev [] (fillM ev P []) ∧ (fillM ev P []).left = [] := by
  have h0 : FK n P ev [] ⟨unmetM P [], []⟩ := ⟨hf, he, fun m hm => unmet_sub m hm, by rw [unmet_nil]; exact Nat.le_refl _, hs, fun _ z => by (cases z), by simp [unmet_nil], rfl⟩
  have key : ∀ (k : Nat) (a : FS), FK n P ev [] a → a.left.length ≤ k → FK n P ev [] (iter fillGo (fillStep ev) k a) ∧ (iter fillGo (fillStep ev) k a).left = [] := by
    intro k
    induction k with
    | zero => intro a ha hk; exact ⟨ha, List.eq_nil_of_length_eq_zero (show a.left.length = 0 by omega)⟩
    | succ k ih =>
      intro a ha hk
      unfold iter
      split
      · rename_i hc
        obtain ⟨h1, h2⟩ := ha.step (fillGo_ne hc)
        exact ih _ h1 (by omega)
      · rename_i hc
        refine ⟨ha, ?_⟩
        unfold fillGo at hc
        simpa using hc
  exact key P.length _ h0 (by rw [unmet_nil]; exact Nat.le_refl _)
structure Built (b : Book) (s : Nat) (ts : List (List Nat)) : Prop where
  sub : ∀ t ∈ ts, t ∈ tests b
  few : ts.length ≤ 200
  cov : unmetM (poss b s) ts = []
  need : ∀ i, i < ts.length → unmetM (poss b s) (ts.eraseIdx i) ≠ []
theorem built_ok {b : Book} (h : WF b) {s : Nat} (s1 : 1 ≤ s) (s3 : s ≤ 3) : Built b s (builtM b s) := by
  have hf := fit_of h s1 s3 (ts := tests b) (fun t ht => ht) (by have := tests_len h; omega)
  obtain ⟨h1, h2⟩ := fill_ok hf (tests_len h) poss_met
  have h3 : unmetM (poss b s) (fillM (tests b) (poss b s) []).found = [] := by rw [← h1.left, h2]
  obtain ⟨t1, t2⟩ := trim_facts (poss b s) (fillM (tests b) (poss b s) []).found
  obtain ⟨u1, u2, _⟩ := trimK_sub (poss b s) (fillM (tests b) (poss b s) []).found (List.range (fillM (tests b) (poss b s) []).found.length)
  refine ⟨fun t ht => ?_, ?_, ?_, fun i hi => ?_⟩
  · rcases h1.fsub t (u1 t ht) with z | z
    · exact z
    · cases z
  · have h9 := h1.flen
    have := hf.few
    rw [List.length_nil] at h9
    show (trimM _ _).length ≤ 200
    unfold trimM
    omega
  · unfold builtM; rw [t1, h3]
  · have := t2 i hi
    rw [h3] at this
    exact this
/-- where none is needless, trimming leaves all -/
theorem trim_id {P : List Meet} {ts : List (List Nat)} (h : ∀ i, i < ts.length → unmetM P (ts.eraseIdx i) ≠ unmetM P ts) : trimM P ts = ts := by
  have key : ∀ k, k ≤ ts.length → trimK P ts (List.range k) = ts := by
    intro k
    induction k with
    | zero => intro _; simp [trimK]
    | succ k ih =>
      intro hk
      rw [List.range_succ, trimK_snoc, ih (by omega)]
      unfold tStep
      rw [if_neg (h _ (by omega))]
  exact key _ (Nat.le_refl _)
theorem erase_perm {α : Type} : ∀ (l : List α) (i : Nat) (h : i < l.length), ([l[i]] ++ l.eraseIdx i).Perm l
  | [], _, h => by simp at h
  | x :: l, 0, _ => List.Perm.refl _
  | x :: l, i + 1, h => by
    have hi : i < l.length := by simpa using h
    have ih := erase_perm l i hi
    show (l[i] :: x :: l.eraseIdx i).Perm (x :: l)
    exact (List.Perm.swap x l[i] _).trans (ih.cons x)
/-- an order is a rearrangement -/
theorem ordered_perm {n : Nat} {P : List Meet} {ts : List (List Nat)} (h : Fit n P ts) : (ordered P ts).found.Perm ts := by
  have key : ∀ (k : Nat) (a : OS), a.rest.length ≤ k → (a.found ++ a.rest).Perm ts → (iter ordGo ordStep k a).found.Perm ts := by
    intro k
    induction k with
    | zero =>
      intro a ha hp
      rw [List.eq_nil_of_length_eq_zero (show a.rest.length = 0 by omega), List.append_nil] at hp
      exact hp
    | succ k ih =>
      intro a ha hp
      unfold iter
      split
      · rename_i hc
        have hr := go_rest hc
        refine ih _ (by have := ord_less hr; omega) ?_
        refine List.Perm.trans ?_ hp
        show ((a.found ++ [a.rest.getD (ordAt a) []]) ++ a.rest.eraseIdx (ordAt a)).Perm (a.found ++ a.rest)
        rw [List.append_assoc]
        refine List.Perm.append_left _ ?_
        have hl := ordAt_lt hr
        have e : a.rest.getD (ordAt a) [] = a.rest[ordAt a] := by
          have := ordAt_get hr
          rw [List.getElem?_eq_getElem hl] at this
          exact (Option.some.inj this).symm
        rw [e]
        exact erase_perm _ _ hl
      · rename_i hc
        have : a.rest = [] := by
          unfold ordGo at hc
          simpa using hc
        rw [this, List.append_nil] at hp
        exact hp
  exact key ts.length _ (Nat.le_refl _) (by simp)
theorem unmet_perm {P : List Meet} {a b : List (List Nat)} (h : a.Perm b) : unmetM P a = unmetM P b := by
  unfold unmetM
  refine List.filter_congr fun m _ => ?_
  congr 1
  rw [Bool.eq_iff_iff]
  simp only [List.any_eq_true]
  exact ⟨fun ⟨t, ht, hm⟩ => ⟨t, h.mem_iff.mp ht, hm⟩, fun ⟨t, ht, hm⟩ => ⟨t, h.mem_iff.mpr ht, hm⟩⟩
end DL

/-! The plain part, 20: sorted rows; greater meetings that hold a lesser one. -/
namespace DL
open PySem PySem.Spec PyProof.Rows L2
theorem toksR_inj : ∀ a b : List Nat, PySem.W.keyToksAll (a.map eN) = PySem.W.keyToksAll (b.map eN) → a = b
  | [], [], _ => rfl
  | [], _ :: _, e => by simp [PySem.W.keyToksAll] at e
  | _ :: _, [], e => by simp [PySem.W.keyToksAll] at e
  | p :: a, q :: b, e => by
    simp only [List.map_cons, PySem.W.keyToksAll, eN, PySem.W.keyToks, List.cons_append, List.nil_append, List.cons.injEq, Sum.inl.injEq, true_and] at e
    obtain ⟨e1, e3⟩ := e
    have hpq : p = q := by omega
    rw [toksR_inj a b e3, hpq]
def leR (a b : List Nat) : Bool := dle (eR a) (eR b)
theorem leR_eq (a b : List Nat) : leR a b = !PyProof.Rows.lexLt itemOrd (PySem.W.keyToksAll (b.map eN)) (PySem.W.keyToksAll (a.map eN)) := by
  unfold leR dle eR
  rw [PySem.W.dataLt_tuple]
theorem leR_trans (a b c : List Nat) (h1 : leR a b = true) (h2 : leR b c = true) : leR a c = true := by
  rw [leR_eq, Bool.not_eq_true'] at h1 h2 ⊢
  cases h : PyProof.Rows.lexLt itemOrd (PySem.W.keyToksAll (c.map eN)) (PySem.W.keyToksAll (a.map eN)) with
  | false => rfl
  | true =>
    rcases PyProof.Rows.lex_negTrans _ (PySem.W.keyToksAll (b.map eN)) _ h with h | h
    · rw [h2] at h; cases h
    · rw [h1] at h; cases h
theorem leR_total (a b : List Nat) : (leR a b || leR b a) = true := by
  rw [leR_eq, leR_eq]
  cases h : PyProof.Rows.lexLt itemOrd (PySem.W.keyToksAll (b.map eN)) (PySem.W.keyToksAll (a.map eN)) with
  | false => rfl
  | true =>
    cases h' : PyProof.Rows.lexLt itemOrd (PySem.W.keyToksAll (a.map eN)) (PySem.W.keyToksAll (b.map eN)) with
    | false => simp
    | true =>
      have := PyProof.Rows.lex_trans _ _ _ h h'
      rw [PyProof.Rows.lex_irrefl] at this
      cases this
theorem leR_anti (a b : List Nat) (h1 : leR a b = true) (h2 : leR b a = true) : a = b := by
  rw [leR_eq, Bool.not_eq_true'] at h1 h2
  exact toksR_inj _ _ (PyProof.Rows.lex_total _ _ h2 h1)
theorem sortR_perm {a b : List (List Nat)} (h : a.Perm b) : a.mergeSort leR = b.mergeSort leR :=
  List.Perm.eq_of_pairwise (fun x y _ _ h1 h2 => leR_anti x y h1 h2) (List.pairwise_mergeSort leR_trans leR_total a) (List.pairwise_mergeSort leR_trans leR_total b) (((List.mergeSort_perm a leR).trans h).trans (List.mergeSort_perm b leR).symm)
theorem alike_Rs : ∀ a b : List Nat, PySem.W.alikeAll (a.map eN) (b.map eN) = true
  | [], _ => by simp [PySem.W.alikeAll]
  | _ :: _, [] => by simp [PySem.W.alikeAll]
  | p :: a, q :: b => by simp [PySem.W.alikeAll, PySem.W.alike, eN]; exact alike_Rs a b
theorem sorted_Rs {rs : List (List Nat)} (h : ∀ r ∈ rs, r ≠ []) : sortedD [.list (rs.map eR)] = some ((rs.mergeSort leR).map eR) := by
  have e : sortedD [.list (rs.map eR)] = if (allLike (rs.map eR) && sortsD (rs.map eR) && (rs.map eR).all fun d => decide (d.depth ≤ 60)) = true then some ((rs.map eR).mergeSort dle) else none := rfl
  have h1 : allLike (rs.map eR) = true := by
    unfold allLike
    simp only [List.all_eq_true, List.mem_map, forall_exists_index, and_imp, forall_apply_eq_imp_iff₂]
    intro a _ b _
    simpa [eR, PySem.W.alike] using alike_Rs a b
  have h2 : sortsD (rs.map eR) = true := by
    unfold sortsD
    rw [Bool.or_eq_true]
    left
    simp only [List.all_eq_true, List.mem_map, forall_exists_index, and_imp, forall_apply_eq_imp_iff₂]
    intro a ha
    cases a with
    | nil => exact absurd rfl (h _ ha)
    | cons p a => rfl
  have h3 : ((rs.map eR).all fun d => decide (d.depth ≤ 60)) = true := by
    simp only [List.all_eq_true, List.mem_map, forall_exists_index, and_imp, forall_apply_eq_imp_iff₂]
    intro a _
    exact decide_eq_true (Nat.le_trans (nmR a).2 (by decide))
  rw [e, h1, h2, h3]
  simp only [Bool.and_self, if_true]
  congr 1
  exact (PySem.W.sort_maps eR fun a _ b _ => rfl).symm
/-! ### a greater choice -/
def asc : List Nat → Bool
  | a :: b :: r => decide (a < b) && asc (b :: r)
  | _ => true
def chkUp : Bool := [1, 2, 3, 4].all fun n => [1, 2, 3].all fun s => [1, 2, 3].all fun s' => !(decide (s' ≤ s) && decide (s ≤ n)) || (chosenM n 0 s').all fun ts => (chosenM n 0 s).any fun us => ts.all (us.contains ·)
theorem chkUp_ok : chkUp = true := by decide +kernel
theorem chosen_lt {many : Nat} : ∀ (s least : Nat), ∀ ts ∈ chosenM many least s, (∀ t ∈ ts, least ≤ t ∧ t < many) ∧ ts.Pairwise (· < ·)
  | 0, least, ts, h => by
    simp only [chosenM, List.mem_singleton] at h
    subst h
    simp
  | s + 1, least, ts, h => by
    simp only [chosenM, List.mem_flatMap, List.mem_map] at h
    obtain ⟨f, hf, r, hr, rfl⟩ := h
    rw [List.mem_range'_1] at hf
    obtain ⟨h1, h2⟩ := chosen_lt s (f + 1) r hr
    refine ⟨fun t ht => ?_, List.pairwise_cons.mpr ⟨fun t ht => by have := h1 t ht; omega, h2⟩⟩
    rcases List.mem_cons.mp ht with rfl | ht
    · omega
    · have := h1 t ht; omega
theorem up_choice {n s s' : Nat} (h1 : 1 ≤ n) (h4 : n ≤ 4) (a : 1 ≤ s') (b : s' ≤ s) (c : s ≤ 3) (d : s ≤ n) {ts : List Nat} (ht : ts ∈ chosenM n 0 s') : ∃ us ∈ chosenM n 0 s, ∀ t ∈ ts, t ∈ us := by
  have hn : n ∈ [1, 2, 3, 4] := by
    have : n = 1 ∨ n = 2 ∨ n = 3 ∨ n = 4 := by omega
    rcases this with rfl | rfl | rfl | rfl <;> simp
  have hs : s ∈ [1, 2, 3] := by
    have : s = 1 ∨ s = 2 ∨ s = 3 := by omega
    rcases this with rfl | rfl | rfl <;> simp
  have hs' : s' ∈ [1, 2, 3] := by
    have : s' = 1 ∨ s' = 2 ∨ s' = 3 := by omega
    rcases this with rfl | rfl | rfl <;> simp
  have h := List.all_eq_true.mp (List.all_eq_true.mp (List.all_eq_true.mp chkUp_ok n hn) s hs) s' hs'
  rw [decide_eq_true b, decide_eq_true d] at h
  simp only [Bool.and_self, Bool.not_true, Bool.false_or] at h
  have h := List.all_eq_true.mp h ts ht
  obtain ⟨us, hu, h⟩ := List.any_eq_true.mp h
  exact ⟨us, hu, fun t htt => List.contains_iff_mem.mp (List.all_eq_true.mp h t htt)⟩
/-- what M holds are meetings -/
theorem mrows_fst {lv : List Nat} (things : List Nat) : ∀ m ∈ meetRows lv things, m.map (·.1) = things ∧ ∀ p ∈ m, p.2 < lv.getD p.1 0 := by
  induction things using rows_ind with
  | h0 => simp [meetRows]
  | hs things th ih =>
    intro m hm
    rw [mrows_snoc] at hm
    unfold meetStep at hm
    simp only [List.mem_flatMap, List.mem_map, List.mem_range] at hm
    obtain ⟨r, hr, s, hs, rfl⟩ := hm
    obtain ⟨h1, h2⟩ := ih r hr
    refine ⟨by simp [h1], fun p hp => ?_⟩
    rcases List.mem_append.mp hp with hp | hp
    · exact h2 p hp
    · rw [List.mem_singleton.mp hp]; exact hs
theorem M_things {lv : List Nat} {s : Nat} {m : Meet} (h : m ∈ M lv s) : m.map (·.1) ∈ chosenM lv.length 0 s := by
  have := MF.memM h
  unfold allM at this
  obtain ⟨ts, h1, h2⟩ := List.mem_flatMap.mp this
  rw [(mrows_fst ts m h2).1]
  exact h1
/-- a test that meets a lesser meeting meets a greater one that holds it -/
theorem up_meet {b : Book} (h : WF b) {s s' : Nat} (a : 1 ≤ s') (c : s' ≤ s) (s3 : s ≤ 3) (sl : s ≤ b.1.length) {t : List Nat} (ht : t ∈ rows b.1) {m : Meet} (hm : m ∈ M b.1 s') (hmt : meets t m = true) :
    ∃ m' ∈ M b.1 s, meets t m' = true ∧ ∀ p ∈ m, p ∈ m' := by
  obtain ⟨us, hu, hsub⟩ := up_choice h.wl.lo h.wl.hi a c s3 sl (M_things hm)
  obtain ⟨hlt, hinc⟩ := chosen_lt s 0 us hu
  have htl := rows_mem_len b.1 t ht
  have hul := chosen_len _ _ _ us hu
  have hIs : IsMeet b.1 (us.map fun i => (i, t.getD i 0)) := by
    refine ⟨by rw [List.length_map, hul]; omega, by rw [List.length_map, hul]; omega, by rw [List.pairwise_map]; exact hinc, fun p hp => ?_⟩
    obtain ⟨i, hi, rfl⟩ := List.mem_map.mp hp
    have hit : i < t.length := by rw [htl]; exact (hlt i hi).2
    obtain ⟨l, e1, e2⟩ := rows_at t ht i hit
    refine ⟨l, e1, ?_⟩
    rw [List.getD_eq_getElem?_getD, List.getElem?_eq_getElem hit]
    exact e2
  have hM := mem_M hIs
  rw [List.length_map, hul] at hM
  refine ⟨_, hM, meets_iff.mpr fun p hp => ?_, fun p hp => ?_⟩
  · obtain ⟨i, hi, rfl⟩ := List.mem_map.mp hp
    have hit : i < t.length := by rw [htl]; exact (hlt i hi).2
    rw [List.getD_eq_getElem?_getD, List.getElem?_eq_getElem hit]
    rfl
  · have h1 := meets_iff.mp hmt p hp
    refine List.mem_map.mpr ⟨p.1, hsub p.1 (List.mem_map.mpr ⟨p, hp, rfl⟩), ?_⟩
    rw [List.getD_eq_getElem?_getD, h1]
    rfl
end DL

/-! The plain part, 21: built, as the program finds it. -/
namespace DL
open PySem PySem.Spec PyProof.Rows L2
section
open DM
variable {b : Book} {s : Nat}
theorem m_built (h : WF b) (s1 : 1 ≤ s) (s3 : s ≤ 3) (sl : s ≤ b.1.length) : f_built [eB b, .int (s : Int)] = .ro ((builtM b s).map eR) := by
  have hf := fit_of h s1 s3 (ts := tests b) (fun t ht => ht) (by have := tests_len h; omega)
  obtain ⟨h1, h2⟩ := fill_ok hf (tests_len h) poss_met
  have x1 := m_filled h hf poss_met
  have hlen : (fillM (tests b) (poss b s) []).found.length ≤ 200 := by
    have h9 := h1.flen
    have := hf.few
    rw [List.length_nil] at h9
    omega
  have hf2 : Fit b.1.length (poss b s) (fillM (tests b) (poss b s) []).found := hf.sub (fun t ht => (h1.fsub t ht).elim id fun z => by cases z) (by omega)
  have x2 := m_trimmed_of hf2 (by omega)
  unfold f_built
  rw [runD_eq]
  show ofS (g_built [some (.d (eB b)), some (.d (.int (s : Int))), none]) = _
  unfold g_built
  simp only [seqS_ap, dropS_ap, setS_ap, retO_ap, thenS_ap, callR_ap, callO_ap, frz_ap, disp_ap, asCons_ap, asNil_ap, rd_ap, List.getElem?_cons_succ, List.getElem?_cons_zero, Res.bind_ok, Res.map_ok, List.length_cons, List.length_nil, Nat.zero_add, Nat.reduceAdd, Nat.zero_le, if_true, m_look_strength h s1 s3 sl, m_possible_of h s1 s3, res_rt, res_ro, List.set_cons_succ, List.set_cons_zero, x1, x2, own_ro, ofS_ro]
  rfl
/-- all of a strength met: all of a lesser one too -/
theorem cover_less (h : WF b) {s' : Nat} (a : 1 ≤ s') (c : s' ≤ s) (s3 : s ≤ 3) (sl : s ≤ b.1.length) {ts : List (List Nat)} (e : unmetM (poss b s) ts = []) : unmetM (poss b s') ts = [] := by
  rw [List.eq_nil_iff_forall_not_mem]
  intro m hm
  obtain ⟨h1, h2⟩ := unmet_iff.mp hm
  obtain ⟨hM, t, ht, hmt⟩ := poss_iff.mp h1
  obtain ⟨m', hM', hmt', hsub⟩ := up_meet h a c s3 sl (List.mem_filter.mp ht).1 hM hmt
  have hp : m' ∈ poss b s := poss_iff.mpr ⟨hM', t, ht, hmt'⟩
  have hn : m' ∉ unmetM (poss b s) ts := by rw [e]; simp
  have : ∃ u ∈ ts, meets u m' = true := by
    by_cases hc : ∃ u ∈ ts, meets u m' = true
    · exact hc
    · refine absurd (unmet_iff.mpr ⟨hp, fun u hu => ?_⟩) hn
      cases hz : meets u m' with
      | false => rfl
      | true => exact absurd ⟨u, hu, hz⟩ hc
  obtain ⟨u, hu, hum⟩ := this
  have hmu : meets u m = true := meets_iff.mpr fun p hp => meets_iff.mp hum p (hsub p hp)
  rw [h2 u hu] at hmu
  cases hmu
end
end DL

/-! The plain part, 22: the book cut to three things. -/
namespace DL
open PySem PySem.Spec PyProof.Rows L2
def lastThing (m : Meet) : Nat := (m.getLastD (0, 0)).1
def cutB (b : Book) : Book := (b.1.take 3, b.2.filter fun m => decide (lastThing m < 3))
theorem last_max {m : Meet} (h : m.Pairwise fun p q => p.1 < q.1) : ∀ p ∈ m, p.1 ≤ lastThing m := by
  intro p hp
  have hne : m ≠ [] := fun z => by rw [z] at hp; cases hp
  unfold lastThing
  rw [List.getLastD_eq_getLast?, List.getLast?_eq_some_getLast hne]
  show p.1 ≤ (m.getLast hne).1
  have hm : m.dropLast ++ [m.getLast hne] = m := List.dropLast_concat_getLast hne
  rw [← hm] at hp h
  rcases List.mem_append.mp hp with hp | hp
  · exact Nat.le_of_lt ((List.pairwise_append.mp h).2.2 p hp _ (by simp))
  · rw [List.mem_singleton.mp hp]; exact Nat.le_refl _
theorem cutB_wf {b : Book} (h : WF b) : WF (cutB b) := by
  refine ⟨⟨?_, ?_, fun l hl => h.wl.lev l (List.mem_of_mem_take hl)⟩, ?_, fun m hm => ?_⟩
  · show 1 ≤ (b.1.take 3).length
    have := h.wl.lo
    rw [List.length_take]
    omega
  · show (b.1.take 3).length ≤ 4
    rw [List.length_take]
    omega
  · exact Nat.le_trans (List.length_filter_le _ _) h.bans
  · obtain ⟨h1, h2⟩ := List.mem_filter.mp hm
    have hI := h.ban m h1
    refine ⟨hI.lo, hI.hi, hI.inc, fun p hp => ?_⟩
    obtain ⟨l, e, hl⟩ := hI.at_ p hp
    have h3 := last_max hI.inc p hp
    have h4 := of_decide_eq_true h2
    refine ⟨l, ?_, hl⟩
    show (b.1.take 3)[p.1]? = some l
    rw [List.getElem?_take_of_lt (by omega)]
    exact e
end DL

/-! The plain part, 23: results, suspects, next tests. -/
namespace DL
open PySem PySem.Spec PyProof.Rows L2
def eBs (bs : List Bool) : D := .list (bs.map PyData.bool)
def resM (ts : List (List Nat)) (m : Meet) : List Bool := ts.map fun t => !meets t m
theorem eqvBs : ∀ a b : List Bool, PyData.eqvAll (a.map PyData.bool) (b.map PyData.bool) = decide (a = b)
  | [], [] => by simp [PyData.eqvAll]
  | [], _ :: _ => by simp [PyData.eqvAll]
  | _ :: _, [] => by simp [PyData.eqvAll]
  | x :: a, y :: b => by
    simp only [List.map_cons, PyData.eqvAll, PyData.eqv, eqvBs a b]
    rw [Bool.eq_iff_iff]
    simp
theorem shapedBs (a : List Bool) : SeqAt.shaped (eBs a) = true := by
  have h1 : ∀ a : List Bool, PyData.canLayAll0 (a.map PyData.bool) = true := fun a => by
    induction a with
    | nil => rfl
    | cons x a ih => simp [PyData.canLayAll0, PyData.canLay0, ih]
  have h2 : PyData.depthAll (a.map PyData.bool) ≤ 0 := depthAll_le _ 0 fun x hx => by
    obtain ⟨b, _, rfl⟩ := List.mem_map.mp hx
    simp [PyData.depth]
  have h3 : (PyData.list (a.map PyData.bool)).depth ≤ 64 := by
    simp [PyData.depth]
    omega
  have h4 : (PyData.list (a.map PyData.bool)).canLay0 = true := by simpa [PyData.canLay0] using h1 a
  unfold SeqAt.shaped eBs
  rw [h4, decide_eq_true h3]
  rfl
theorem eqBs (a b : List Bool) : eqD (eBs a) (eBs b) = some (.bool (decide (a = b))) := by
  unfold eqD
  rw [if_pos ⟨shapedBs a, shapedBs b⟩]
  show some (PyData.bool (PyData.eqv (.list (a.map PyData.bool)) (.list (b.map PyData.bool)))) = _
  simp only [PyData.eqv, eqvBs]
/-- the best next test: how many stay at the worst, the test -/
def eBest : Option (Nat × List Nat) → D
  | none => .none
  | some (w, t) => .tuple [eN w, eR t]
def nextStep (ms : List Meet) (best : Option (Nat × List Nat)) (t : List Nat) : Option (Nat × List Nat) :=
  if max (newsM ms t) (ms.length - newsM ms t) < ms.length ∧ (∀ q, best = some q → max (newsM ms t) (ms.length - newsM ms t) < q.1) then some (max (newsM ms t) (ms.length - newsM ms t), t) else best
def nextM (ev : List (List Nat)) (ms : List Meet) : Option (Nat × List Nat) := ev.foldl (nextStep ms) none
section
open DM
theorem m_results_by {n : Nat} {ts : List (List Nat)} {m : Meet} (h : Fit n [m] ts) : f_results_by [eM m, .list (ts.map eR)] = .ro ((resM ts m).map PyData.bool) := by
  have e := lc_map (fi := toSeq (rdB 1)) (t := tgName 2) (c := yes) (e := g_results_by_e1) (vs := [2]) (ρ := [some (.d (eM m)), some (.d (.list (ts.map eR))), none]) (enc := eR) (p := fun _ => true) (g := fun t => .bool (!meets t m)) ts rfl
    fun t ht => ⟨[some (.d (eM m)), some (.d (.list (ts.map eR))), some (.d (eR t))], rfl, rfl, fun _ => by
      unfold g_results_by_e1
      simp only [ofB_ap, notT_ap, toTru_ap, callR_ap, asCons_ap, asNil_ap, rd_ap, List.getElem?_cons_succ, List.getElem?_cons_zero, Res.bind_ok, Res.map_ok, List.length_cons, List.length_nil, Nat.zero_add, Nat.reduceAdd, if_true, m_meets (h.at t ht m (by simp)), res_rt, truD_bool, Res.of_some]⟩
  rw [List.filter_eq_self.mpr (fun _ _ => rfl)] at e
  unfold f_results_by
  rw [runD_eq]
  show ofS (g_results_by [some (.d (eM m)), some (.d (.list (ts.map eR))), none]) = _
  unfold g_results_by
  simp only [retO_ap, thenS_ap, e, ofS_ro]
  unfold resM
  rw [List.map_map]
  rfl
end
end DL

/-! The plain part, 24: suspects. -/
namespace DL
open PySem PySem.Spec PyProof.Rows L2
def suspM (b : Book) (s : Nat) (ts : List (List Nat)) (bs : List Bool) : List Meet := (poss b s).filter fun m => decide (resM ts m = bs)
section
open DM
variable {b : Book} {s : Nat}
theorem m_look_results (h : WF b) (s1 : 1 ≤ s) (s3 : s ≤ 3) (sl : s ≤ b.1.length) {ts : List (List Nat)} (ht : ∀ t ∈ ts, t ∈ tests b) {bs : List Bool} (hl : bs.length = ts.length) : f_look_results [eB b, .int (s : Int), .list (ts.map eR), eBs bs] = .rt .none := by
  have e := lc_map (fi := toSeq (rdB 3)) (t := tgName 4) (c := g_look_results_c1) (e := rd 4) (vs := [4]) (ρ := [some (.d (eB b)), some (.d (.int (s : Int))), some (.d (.list (ts.map eR))), some (.d (eBs bs)), none]) (enc := PyData.bool) (p := fun _ => false) (g := PyData.bool) bs rfl
    fun x hx => ⟨[some (.d (eB b)), some (.d (.int (s : Int))), some (.d (.list (ts.map eR))), some (.d (eBs bs)), some (.d (.bool x))], rfl, rfl, fun z => by cases z⟩
  rw [show bs.filter (fun _ => false) = [] by simp] at e
  have hlen : lenD [eBs bs] = some (.int (ts.length : Int)) := by
    show some (PyData.int ((bs.map PyData.bool).length : Int)) = _
    rw [List.length_map, hl]
  have hisi : isiD "list" (eBs bs) = some true := rfl
  unfold f_look_results
  rw [runD_eq]
  show ofS (g_look_results [some (.d (eB b)), some (.d (.int (s : Int))), some (.d (.list (ts.map eR))), some (.d (eBs bs)), none]) = _
  unfold g_look_results
  simp only [seqS_ap, dropS_ap, ifS_ap, thenS_ap, orT_ap, notT_ap, toTru_ap, toB_ap, isiR_ap, cb_ap, op2_ap, frz_ap, e, callR_ap, asCons_ap, asNil_ap, rd_ap, rdB_ap, List.getElem?_cons_succ, List.getElem?_cons_zero, Res.bind_ok, Res.map_ok, List.length_cons, List.length_nil, Nat.zero_add, Nat.reduceAdd, if_true, m_look_strength h s1 s3 sl, m_look_tests h ht, res_rt, hisi, Option.map_some, Res.of_some, truD_bool, Bool.not_true, Bool.false_eq_true, if_false, hlen, lenD_list, List.length_map, neD_int, decide_true, boolD_bool, truD_list, List.map_nil, List.isEmpty_nil, ofS_nx]
theorem m_suspects_of (h : WF b) (s1 : 1 ≤ s) (s3 : s ≤ 3) {ts : List (List Nat)} (ht : ∀ t ∈ ts, t ∈ tests b) (hl : ts.length ≤ 10000) (bs : List Bool) : f_suspects_of [eB b, .int (s : Int), .list (ts.map eR), eBs bs] = .ro ((suspM b s ts bs).map eM) := by
  have hf := fit_of h s1 s3 ht hl
  have hp : callR 2 f_possible_of (asCons (rd 0) (asCons (rd 1) asNil)) [some (.d (eB b)), some (.d (.int (s : Int))), some (.d (.list (ts.map eR))), some (.d (eBs bs)), none] = .ok (.list ((poss b s).map eM)) := by
    simp only [callR_ap, asCons_ap, asNil_ap, rd_ap, List.getElem?_cons_succ, List.getElem?_cons_zero, Res.bind_ok, Res.map_ok, List.length_cons, List.length_nil, Nat.zero_add, Nat.reduceAdd, if_true, m_possible_of h s1 s3, res_ro]
  have e := lc_map (fi := toSeq (callR 2 f_possible_of (asCons (rd 0) (asCons (rd 1) asNil)))) (t := tgName 4) (c := g_suspects_of_c1) (e := rd 4) (vs := [4]) (ρ := [some (.d (eB b)), some (.d (.int (s : Int))), some (.d (.list (ts.map eR))), some (.d (eBs bs)), none]) (enc := eM) (p := fun m => decide (resM ts m = bs)) (g := eM) (poss b s)
    (by rw [toSeq_ap, hp]; rfl) fun m hm => ⟨[some (.d (eB b)), some (.d (.int (s : Int))), some (.d (.list (ts.map eR))), some (.d (eBs bs)), some (.d (eM m))], rfl, by
      have r := m_results_by (ts := ts) (m := m) ⟨hf.len, fun m' hm' => by rw [List.mem_singleton.mp hm']; exact hf.lt m hm, by simp, hf.ft⟩
      have q := eqBs (resM ts m) bs
      unfold g_suspects_of_c1
      simp only [toB_ap, op2_ap, callR_ap, asCons_ap, asNil_ap, rd_ap, rdB_ap, List.getElem?_cons_succ, List.getElem?_cons_zero, Res.bind_ok, Res.map_ok, List.length_cons, List.length_nil, Nat.zero_add, Nat.reduceAdd, if_true, r, res_ro]
      rw [show (PyData.list ((resM ts m).map PyData.bool)) = eBs (resM ts m) from rfl, q]
      rfl, fun _ => rfl⟩
  unfold f_suspects_of
  rw [runD_eq]
  show ofS (g_suspects_of [some (.d (eB b)), some (.d (.int (s : Int))), some (.d (.list (ts.map eR))), some (.d (eBs bs)), none]) = _
  unfold g_suspects_of
  simp only [retO_ap, thenS_ap, e, ofS_ro]
  rfl
theorem m_suspects (h : WF b) (s1 : 1 ≤ s) (s3 : s ≤ 3) (sl : s ≤ b.1.length) {ts : List (List Nat)} (ht : ∀ t ∈ ts, t ∈ tests b) (hl : ts.length ≤ 10000) {bs : List Bool} (hb : bs.length = ts.length) : f_suspects [eB b, .int (s : Int), .list (ts.map eR), eBs bs] = .ro ((suspM b s ts bs).map eM) := by
  unfold f_suspects
  rw [runD_eq]
  show ofS (g_suspects [some (.d (eB b)), some (.d (.int (s : Int))), some (.d (.list (ts.map eR))), some (.d (eBs bs))]) = _
  unfold g_suspects
  simp only [seqS_ap, dropS_ap, retO_ap, thenS_ap, callR_ap, callO_ap, asCons_ap, asNil_ap, rd_ap, List.getElem?_cons_succ, List.getElem?_cons_zero, Res.bind_ok, Res.map_ok, List.length_cons, List.length_nil, Nat.zero_add, Nat.reduceAdd, if_true, m_look_results h s1 s3 sl ht hb, m_suspects_of h s1 s3 ht hl bs, res_rt, own_ro, ofS_ro]
end
end DL

/-! The plain part, 25: the next test. -/
namespace DL
open PySem PySem.Spec PyProof.Rows L2
@[simp] theorem isN_ap (neg : Bool) (f : Rho → Res D) (ρ : Rho) : isN neg f ρ = (f ρ).map fun d => .bool (neg ^^ isNone d) := rfl
theorem isNone_best (q : Option (Nat × List Nat)) : isNone (eBest q) = q.isNone := by cases q <;> rfl
theorem nextM_snoc (ms : List Meet) (d : List (List Nat)) (t : List Nat) : nextM (d ++ [t]) ms = nextStep ms (nextM d ms) t := by simp [nextM, List.foldl_append]
def eNext : Option (Nat × List Nat) → D
  | none => .none
  | some (_, t) => eR t
section
open DM
theorem b1_next {B0 s t0 bs : Option B} {ms : List Meet} {q : Option (Nat × List Nat)} {t : List Nat} (x0 y0 : Option B) (hm : ∀ m ∈ ms, ∀ p ∈ m, p.1 < t.length) : ∃ x y, g_next_test_b1 [B0, s, t0, bs, some (.d (.list (ms.map eM))), some (.d (eBest q)), some (.d (eR t)), none, x0, y0] = .nx [B0, s, t0, bs, some (.d (.list (ms.map eM))), some (.d (eBest (nextStep ms q t))), some (.d (eR t)), none, x, y] := by
  have e := lc_map (fi := toSeq (rdB 4)) (t := tgName 7) (c := g_next_test_c1) (e := rd 7) (vs := [7]) (ρ := [B0, s, t0, bs, some (.d (.list (ms.map eM))), some (.d (eBest q)), some (.d (eR t)), none, x0, y0]) (enc := eM) (p := fun m => meets t m) (g := eM) ms rfl
    fun m hmm => ⟨[B0, s, t0, bs, some (.d (.list (ms.map eM))), some (.d (eBest q)), some (.d (eR t)), some (.d (eM m)), x0, y0], rfl, by
      unfold g_next_test_c1
      simp only [toTru_ap, callR_ap, asCons_ap, asNil_ap, rd_ap, List.getElem?_cons_succ, List.getElem?_cons_zero, Res.bind_ok, Res.map_ok, List.length_cons, List.length_nil, Nat.zero_add, Nat.reduceAdd, if_true, m_meets (hm m hmm), res_rt, truD_bool, Res.of_some], fun _ => rfl⟩
  have hle : newsM ms t ≤ ms.length := List.length_filter_le _ _
  have hmx : (if ((ms.length : Int) - ((newsM ms t : Nat) : Int)) > ((newsM ms t : Nat) : Int) then ((ms.length : Int) - ((newsM ms t : Nat) : Int)) else ((newsM ms t : Nat) : Int)) = ((max (newsM ms t) (ms.length - newsM ms t) : Nat) : Int) := by
    split <;> omega
  generalize hW : max (newsM ms t) (ms.length - newsM ms t) = W at hmx
  refine ⟨some (.d (.int ((newsM ms t : Nat) : Int))), some (.d (.int (W : Int))), ?_⟩
  unfold g_next_test_b1
  simp only [seqS_ap, setS_ap, ifS_ap, thenS_ap, cb_ap, asCons_ap, asNil_ap, frz_ap, e, Res.map_ok, Res.bind_ok, lenD_list, List.length_map, Res.of_some, List.set_cons_succ, List.set_cons_zero, op2_ap, rdB_ap, List.getElem?_cons_succ, List.getElem?_cons_zero, intD_int, if_true, maxD_int]
  rw [show (ms.filter fun m => meets t m).length = newsM ms t from rfl, hmx]
  simp only [andT_ap, orT_ap, toB_ap, op2_ap, rdB_ap, cb_ap, asCons_ap, asNil_ap, List.getElem?_cons_succ, List.getElem?_cons_zero, Res.bind_ok, Res.map_ok, lenD_list, List.length_map, Res.of_some, cmpI_int, boolD_bool, isN_ap, isNone_best, Bool.false_xor]
  by_cases h1 : W < ms.length
  · rw [decide_eq_true (show (W : Int) < (ms.length : Int) by omega)]
    cases q with
    | none =>
      have hs : nextStep ms none t = some (W, t) := by unfold nextStep; rw [hW]; exact if_pos ⟨h1, fun q hq => by cases hq⟩
      rw [hs]
      simp [eBest, eN]
    | some q =>
      obtain ⟨w, u⟩ := q
      simp only [if_true, Option.isNone_some, Bool.false_eq_true, if_false, eBest, kst_ap, ixD_tup, atI_zero, Res.of_some, Res.bind_ok, eN, cmpI_int, boolD_bool]
      by_cases h2 : W < w
      · have hs : nextStep ms (some (w, u)) t = some (W, t) := by unfold nextStep; rw [hW]; exact if_pos ⟨h1, fun q hq => by cases hq; exact h2⟩
        rw [decide_eq_true (show (W : Int) < (w : Int) by omega), hs]
        simp [eN]
      · have hs : nextStep ms (some (w, u)) t = some (w, u) := by unfold nextStep; rw [hW]; exact if_neg fun z => h2 (z.2 _ rfl)
        rw [decide_eq_false (show ¬ (W : Int) < (w : Int) by omega), hs]
        simp [eN]
  · have hs : nextStep ms q t = q := by unfold nextStep; rw [hW]; exact if_neg fun z => h1 z.1
    rw [decide_eq_false (show ¬ (W : Int) < (ms.length : Int) by omega), hs]
    simp
theorem b1_l_next {t0 : Option B} {ms : List Meet} {q : Option (Nat × List Nat)} {t : List Nat} (x0 y0 : Option B) (hm : ∀ m ∈ ms, ∀ p ∈ m, p.1 < t.length) : ∃ x y, g_l_next_b1 [some (.d (.list (ms.map eM))), t0, some (.d (eBest q)), some (.d (eR t)), none, x0, y0] = .nx [some (.d (.list (ms.map eM))), t0, some (.d (eBest (nextStep ms q t))), some (.d (eR t)), none, x, y] := by
  have e := lc_map (fi := toSeq (rdB 0)) (t := tgName 4) (c := g_l_next_c1) (e := rd 4) (vs := [4]) (ρ := [some (.d (.list (ms.map eM))), t0, some (.d (eBest q)), some (.d (eR t)), none, x0, y0]) (enc := eM) (p := fun m => meets t m) (g := eM) ms rfl
    fun m hmm => ⟨[some (.d (.list (ms.map eM))), t0, some (.d (eBest q)), some (.d (eR t)), some (.d (eM m)), x0, y0], rfl, by
      unfold g_l_next_c1
      simp only [toTru_ap, callR_ap, asCons_ap, asNil_ap, rd_ap, List.getElem?_cons_succ, List.getElem?_cons_zero, Res.bind_ok, Res.map_ok, List.length_cons, List.length_nil, Nat.zero_add, Nat.reduceAdd, if_true, m_l_meets (hm m hmm), res_rt, truD_bool, Res.of_some], fun _ => rfl⟩
  have hle : newsM ms t ≤ ms.length := List.length_filter_le _ _
  have hmx : (if ((ms.length : Int) - ((newsM ms t : Nat) : Int)) > ((newsM ms t : Nat) : Int) then ((ms.length : Int) - ((newsM ms t : Nat) : Int)) else ((newsM ms t : Nat) : Int)) = ((max (newsM ms t) (ms.length - newsM ms t) : Nat) : Int) := by
    split <;> omega
  generalize hW : max (newsM ms t) (ms.length - newsM ms t) = W at hmx
  refine ⟨some (.d (.int ((newsM ms t : Nat) : Int))), some (.d (.int (W : Int))), ?_⟩
  unfold g_l_next_b1
  simp only [seqS_ap, setS_ap, ifS_ap, thenS_ap, cb_ap, asCons_ap, asNil_ap, frz_ap, e, Res.map_ok, Res.bind_ok, lenD_list, List.length_map, Res.of_some, List.set_cons_succ, List.set_cons_zero, op2_ap, rdB_ap, List.getElem?_cons_succ, List.getElem?_cons_zero, intD_int, if_true, maxD_int]
  rw [show (ms.filter fun m => meets t m).length = newsM ms t from rfl, hmx]
  simp only [andT_ap, orT_ap, toB_ap, op2_ap, rdB_ap, cb_ap, asCons_ap, asNil_ap, List.getElem?_cons_succ, List.getElem?_cons_zero, Res.bind_ok, Res.map_ok, lenD_list, List.length_map, Res.of_some, cmpI_int, boolD_bool, isN_ap, isNone_best, Bool.false_xor]
  by_cases h1 : W < ms.length
  · rw [decide_eq_true (show (W : Int) < (ms.length : Int) by omega)]
    cases q with
    | none =>
      have hs : nextStep ms none t = some (W, t) := by unfold nextStep; rw [hW]; exact if_pos ⟨h1, fun q hq => by cases hq⟩
      rw [hs]
      simp [eBest, eN]
    | some q =>
      obtain ⟨w, u⟩ := q
      simp only [if_true, Option.isNone_some, Bool.false_eq_true, if_false, eBest, kst_ap, ixD_tup, atI_zero, Res.of_some, Res.bind_ok, eN, cmpI_int, boolD_bool]
      by_cases h2 : W < w
      · have hs : nextStep ms (some (w, u)) t = some (W, t) := by unfold nextStep; rw [hW]; exact if_pos ⟨h1, fun q hq => by cases hq; exact h2⟩
        rw [decide_eq_true (show (W : Int) < (w : Int) by omega), hs]
        simp [eN]
      · have hs : nextStep ms (some (w, u)) t = some (w, u) := by unfold nextStep; rw [hW]; exact if_neg fun z => h2 (z.2 _ rfl)
        rw [decide_eq_false (show ¬ (W : Int) < (w : Int) by omega), hs]
        simp [eN]
  · have hs : nextStep ms q t = q := by unfold nextStep; rw [hW]; exact if_neg fun z => h1 z.1
    rw [decide_eq_false (show ¬ (W : Int) < (ms.length : Int) by omega), hs]
    simp
variable {b : Book} {s : Nat}
theorem m_next_test (h : WF b) (s1 : 1 ≤ s) (s3 : s ≤ 3) (sl : s ≤ b.1.length) {ts : List (List Nat)} (ht : ∀ t ∈ ts, t ∈ tests b) (hl : ts.length ≤ 10000) {bs : List Bool} (hb : bs.length = ts.length) : f_next_test [eB b, .int (s : Int), .list (ts.map eR), eBs bs] = .rt (eNext (nextM (tests b) (suspM b s ts bs))) := by
  generalize hS : suspM b s ts bs = ms
  have hsub : ∀ m ∈ ms, m ∈ poss b s := fun m hm => by rw [← hS] at hm; exact (List.mem_filter.mp hm).1
  have x1 := m_suspects h s1 s3 sl ht hl hb
  rw [hS] at x1
  have loop : ∃ ρ', forL (tgName 6) g_next_test_b1 ((tests b).map eR) [some (.d (eB b)), some (.d (.int (s : Int))), some (.d (.list (ts.map eR))), some (.d (eBs bs)), some (.d (.list (ms.map eM))), some (.d .none), none, none, none, none] = .nx ρ' ∧
      ∃ x y z, ρ' = [some (.d (eB b)), some (.d (.int (s : Int))), some (.d (.list (ts.map eR))), some (.d (eBs bs)), some (.d (.list (ms.map eM))), some (.d (eBest (nextM (tests b) ms))), x, none, y, z] := by
    refine forL_inv (fun d ρ => ∃ x y z, ρ = [some (.d (eB b)), some (.d (.int (s : Int))), some (.d (.list (ts.map eR))), some (.d (eBs bs)), some (.d (.list (ms.map eM))), some (.d (eBest (nextM d ms))), x, none, y, z]) (tests b) ?_ ⟨none, none, none, rfl⟩
    rintro d t r ρ e ⟨x, y, z, rfl⟩
    have htm : t ∈ tests b := by rw [e]; simp
    obtain ⟨y', z', h2⟩ := b1_next (B0 := some (.d (eB b))) (s := some (.d (.int (s : Int)))) (t0 := some (.d (.list (ts.map eR)))) (bs := some (.d (eBs bs))) (ms := ms) (q := nextM d ms) (t := t) y z (fun m hm => test_lt h s1 s3 htm (poss_iff.mp (hsub m hm)).1)
    exact ⟨_, _, rfl, h2, _, _, _, by rw [nextM_snoc]⟩
  obtain ⟨ρ', h1, x, y, z, rfl⟩ := loop
  unfold f_next_test
  rw [runD_eq]
  show ofS (g_next_test [some (.d (eB b)), some (.d (.int (s : Int))), some (.d (.list (ts.map eR))), some (.d (eBs bs)), none, none, none, none, none, none]) = _
  unfold g_next_test
  simp only [seqS_ap, setS_ap, forS_ap, ifS_ap, retS_ap, thenS_ap, toSeq_ap, toB_ap, isN_ap, callR_ap, asCons_ap, asNil_ap, kst_ap, rd_ap, rdB_ap, List.getElem?_cons_succ, List.getElem?_cons_zero, Res.bind_ok, Res.map_ok, List.length_cons, List.length_nil, Nat.zero_add, Nat.reduceAdd, if_true, x1, m_tests_of h, res_ro, List.set_cons_succ, List.set_cons_zero, seqOf_list, Res.of_some, h1, isNone_best, Bool.false_xor, boolD_bool]
  cases nextM (tests b) ms with
  | none => rfl
  | some q =>
    obtain ⟨w, t⟩ := q
    simp [eBest, eNext]
end
end DL

/-! The plain part, 26: the law's next test. -/
namespace DL
open PySem PySem.Spec PyProof.Rows L2
section
open DM
theorem m_l_next {n : Nat} {ms : List Meet} {ts : List (List Nat)} (hf : Fit n ms ts) : f_l_next [.list (ms.map eM), .list (ts.map eR)] = .rt (eNext (nextM ts ms)) := by
  have loop : ∃ ρ', forL (tgName 3) g_l_next_b1 (ts.map eR) [some (.d (.list (ms.map eM))), some (.d (.list (ts.map eR))), some (.d .none), none, none, none, none] = .nx ρ' ∧
      ∃ x y z, ρ' = [some (.d (.list (ms.map eM))), some (.d (.list (ts.map eR))), some (.d (eBest (nextM ts ms))), x, none, y, z] := by
    refine forL_inv (fun d ρ => ∃ x y z, ρ = [some (.d (.list (ms.map eM))), some (.d (.list (ts.map eR))), some (.d (eBest (nextM d ms))), x, none, y, z]) ts ?_ ⟨none, none, none, rfl⟩
    rintro d t r ρ e ⟨x, y, z, rfl⟩
    have htm : t ∈ ts := by rw [e]; simp
    obtain ⟨y', z', h2⟩ := b1_l_next (t0 := some (.d (.list (ts.map eR)))) (ms := ms) (q := nextM d ms) (t := t) y z (hf.at t htm)
    exact ⟨_, _, rfl, h2, _, _, _, by rw [nextM_snoc]⟩
  obtain ⟨ρ', h1, x, y, z, rfl⟩ := loop
  unfold f_l_next
  rw [runD_eq]
  show ofS (g_l_next [some (.d (.list (ms.map eM))), some (.d (.list (ts.map eR))), none, none, none, none, none]) = _
  unfold g_l_next
  simp only [seqS_ap, setS_ap, forS_ap, ifS_ap, retS_ap, thenS_ap, toSeq_ap, toB_ap, isN_ap, kst_ap, rd_ap, rdB_ap, List.getElem?_cons_succ, List.getElem?_cons_zero, Res.bind_ok, Res.map_ok, List.set_cons_succ, List.set_cons_zero, seqOf_list, Res.of_some, h1, isNone_best, Bool.false_xor, boolD_bool]
  cases nextM ts ms with
  | none => rfl
  | some q =>
    obtain ⟨w, t⟩ := q
    simp [eBest, eNext]
end
/-- what a next test is: it parts what is left -/
theorem nextM_spec (ms : List Meet) (ev : List (List Nat)) : ∀ w t, nextM ev ms = some (w, t) → t ∈ ev ∧ newsM ms t < ms.length ∧ ms.length - newsM ms t < ms.length := by
  suffices ∀ d : List (List Nat), ∀ w t, nextM d ms = some (w, t) → t ∈ d ∧ newsM ms t < ms.length ∧ ms.length - newsM ms t < ms.length from this ev
  intro d
  induction d using (fun {P : List (List Nat) → Prop} (h0 : P []) (hs : ∀ d t, P d → P (d ++ [t])) (d : List (List Nat)) => (by
    suffices ∀ r : List (List Nat), P r.reverse by simpa using this d.reverse
    intro r
    induction r with
    | nil => exact h0
    | cons l r ih => rw [List.reverse_cons]; exact hs _ _ ih : P d)) with
  | h0 => intro w t h; cases h
  | hs d u ih =>
    intro w t h
    rw [nextM_snoc] at h
    unfold nextStep at h
    split at h
    · rename_i hc
      cases h
      exact ⟨by simp, by omega, by omega⟩
    · obtain ⟨h1, h2⟩ := ih w t h
      exact ⟨by simp [h1], h2⟩
end DL

/-! The plain part, 27: going on for one meeting at fault. -/
namespace DL
open PySem PySem.Spec PyProof.Rows L2
/-- what was asked, what is suspected still -/
structure LS where
  asked : List (List Nat)
  ms : List Meet
def lkTest (ev : List (List Nat)) (a : LS) : List Nat := match nextM ev a.ms with
  | some (_, t) => t
  | none => []
def lkGo (ev : List (List Nat)) (a : LS) : Bool := (nextM ev a.ms).isSome
def lkStep (ev : List (List Nat)) (one : Meet) (a : LS) : LS := ⟨a.asked ++ [lkTest ev a], a.ms.filter fun m => meets (lkTest ev a) m == meets (lkTest ev a) one⟩
theorem lk_some {ev : List (List Nat)} {a : LS} (h : lkGo ev a = true) : lkTest ev a ∈ ev ∧ newsM a.ms (lkTest ev a) < a.ms.length ∧ a.ms.length - newsM a.ms (lkTest ev a) < a.ms.length := by
  unfold lkGo at h
  unfold lkTest
  cases hn : nextM ev a.ms with
  | none => rw [hn] at h; cases h
  | some q =>
    obtain ⟨w, t⟩ := q
    exact nextM_spec a.ms ev w t hn
theorem lk_less {ev : List (List Nat)} {one : Meet} {a : LS} (h : lkGo ev a = true) : (lkStep ev one a).ms.length < a.ms.length := by
  obtain ⟨_, h1, h2⟩ := lk_some h
  have h3 := met_nat a.ms (lkTest ev a)
  show (a.ms.filter fun m => meets (lkTest ev a) m == meets (lkTest ev a) one).length < _
  cases hv : meets (lkTest ev a) one with
  | true =>
    have : (a.ms.filter fun m => meets (lkTest ev a) m == true) = a.ms.filter fun m => meets (lkTest ev a) m := List.filter_congr fun m _ => by simp
    rw [this]
    exact h1
  | false =>
    have : (a.ms.filter fun m => meets (lkTest ev a) m == false) = unmetM a.ms [lkTest ev a] := List.filter_congr fun m _ => by simp
    rw [this]
    omega
theorem resM_snoc (ts : List (List Nat)) (t : List Nat) (m : Meet) : resM (ts ++ [t]) m = resM ts m ++ [!meets t m] := by simp [resM]
theorem susp_snoc (b : Book) (s : Nat) (ts : List (List Nat)) (t : List Nat) (one : Meet) : suspM b s (ts ++ [t]) (resM (ts ++ [t]) one) = (suspM b s ts (resM ts one)).filter fun m => meets t m == meets t one := by
  unfold suspM
  rw [List.filter_filter]
  refine List.filter_congr fun m _ => ?_
  rw [Bool.eq_iff_iff]
  simp only [resM_snoc, decide_eq_true_eq, Bool.and_eq_true, beq_iff_eq]
  constructor
  · intro h
    have := List.append_inj h (by simp [resM])
    refine ⟨?_, this.1⟩
    have h2 := (List.cons.inj this.2).1
    cases h3 : meets t m <;> cases h4 : meets t one <;> simp_all
  · rintro ⟨h1, h2⟩
    rw [h2, h1]
end DL

/-! The plain part, 28: how many are looked for at the most. -/
namespace DL
open PySem PySem.Spec PyProof.Rows L2
def looked (b : Book) (s : Nat) (ts : List (List Nat)) (one : Meet) : LS := iter (lkGo (tests b)) (lkStep (tests b) one) 300 ⟨ts, suspM b s ts (resM ts one)⟩
def mostM (b : Book) (s : Nat) (ts : List (List Nat)) (d : List Meet) : Nat := d.foldl (fun k one => max k ((looked b s ts one).asked.length - ts.length)) 0
structure LKI (b : Book) (s : Nat) (ts : List (List Nat)) (one : Meet) (a : LS) : Prop where
  sub : ∀ t ∈ a.asked, t ∈ tests b
  eq : a.ms = suspM b s a.asked (resM a.asked one)
  len : a.asked.length + a.ms.length ≤ ts.length + 200
  ge : ts.length ≤ a.asked.length
theorem susp_len {b : Book} (h : WF b) {s : Nat} (s1 : 1 ≤ s) (s3 : s ≤ 3) (ts : List (List Nat)) (bs : List Bool) : (suspM b s ts bs).length ≤ 200 := by
  have h1 := List.length_filter_le (fun m => decide (resM ts m = bs)) (poss b s)
  have h2 := (fit_of h s1 s3 (ts := []) (fun _ z => by cases z) (by simp)).few
  unfold suspM
  omega
theorem LKI.start {b : Book} (h : WF b) {s : Nat} (s1 : 1 ≤ s) (s3 : s ≤ 3) {ts : List (List Nat)} (ht : ∀ t ∈ ts, t ∈ tests b) (one : Meet) : LKI b s ts one ⟨ts, suspM b s ts (resM ts one)⟩ :=
  ⟨ht, rfl, by have := susp_len h s1 s3 ts (resM ts one); show ts.length + (suspM b s ts (resM ts one)).length ≤ ts.length + 200; omega, Nat.le_refl _⟩
theorem LKI.step {b : Book} {s : Nat} {ts : List (List Nat)} {one : Meet} {a : LS} (h : LKI b s ts one a) (hc : lkGo (tests b) a = true) : LKI b s ts one (lkStep (tests b) one a) := by
  obtain ⟨h1, _, _⟩ := lk_some hc
  have h2 := lk_less (one := one) hc
  have hl := h.len
  refine ⟨fun t ht => ?_, ?_, ?_, ?_⟩
  · rcases List.mem_append.mp ht with ht | ht
    · exact h.sub t ht
    · rw [List.mem_singleton.mp ht]; exact h1
  · show a.ms.filter _ = suspM b s (a.asked ++ [lkTest (tests b) a]) (resM (a.asked ++ [lkTest (tests b) a]) one)
    rw [susp_snoc, ← h.eq]
  · show (a.asked ++ [_]).length + (lkStep (tests b) one a).ms.length ≤ _
    rw [List.length_append, List.length_singleton]
    omega
  · show ts.length ≤ (a.asked ++ [_]).length
    rw [List.length_append]
    have := h.ge
    omega
theorem resM_len (ts : List (List Nat)) (m : Meet) : (resM ts m).length = ts.length := by simp [resM]
theorem flat_best (q : Option (Nat × List Nat)) : flat (eNext q) = true := by
  cases q with
  | none => rfl
  | some q => exact flat_R q.2
section
open DM
variable {b : Book} {s : Nat}
/-- one asking: results, the next test -/
theorem ask_next (h : WF b) (s1 : 1 ≤ s) (s3 : s ≤ 3) (sl : s ≤ b.1.length) {one : Meet} (ho : one ∈ poss b s) {xs : List (List Nat)} (hx : ∀ t ∈ xs, t ∈ tests b) (hl : xs.length ≤ 5000) {t0 m0 y : Option B} :
    lendD 5 (callR 4 f_next_test (asCons (rd 0) (asCons (rd 1) (asCons (rd 5) (asCons (frz (lendO 5 (callO 2 f_results_by (asCons (rd 4) (asCons (rd 5) asNil))))) asNil))))) [some (.d (eB b)), some (.d (.int (s : Int))), t0, m0, some (.d (eM one)), some (.own (xs.map eR)), y] = .ok (eNext (nextM (tests b) (suspM b s xs (resM xs one)))) := by
  have hf := fit_of h s1 s3 hx (by omega)
  have r := m_results_by (ts := xs) (m := one) ⟨hf.len, fun m' hm' => by rw [List.mem_singleton.mp hm']; exact hf.lt one ho, by simp, hf.ft⟩
  have q := m_next_test h s1 s3 sl hx (by omega) (resM_len xs one)
  rw [lendD_own (xs := xs.map eR) rfl]
  have e1 : lendO 5 (callO 2 f_results_by (asCons (rd 4) (asCons (rd 5) asNil))) [some (.d (eB b)), some (.d (.int (s : Int))), t0, m0, some (.d (eM one)), some (.d (.list (xs.map eR))), y] = .ok ((resM xs one).map PyData.bool) := by
    show callO 2 f_results_by (asCons (rd 4) (asCons (rd 5) asNil)) _ = _
    simp only [callO_ap, asCons_ap, asNil_ap, rd_ap, List.getElem?_cons_succ, List.getElem?_cons_zero, Res.bind_ok, Res.map_ok, List.length_cons, List.length_nil, Nat.zero_add, Nat.reduceAdd, if_true, r, own_ro]
  rw [show eBs (resM xs one) = .list ((resM xs one).map PyData.bool) from rfl] at q
  simp only [frzAt_ap, List.getElem?_cons_succ, List.getElem?_cons_zero, List.set_cons_succ, List.set_cons_zero, callR_ap, asCons_ap, asNil_ap, frz_ap, e1, rd_ap, Res.bind_ok, Res.map_ok, List.length_cons, List.length_nil, Nat.zero_add, Nat.reduceAdd, if_true, q, res_rt, flat_best]
end
end DL

/-! The plain part, 29: most_looked. -/
namespace DL
open PySem PySem.Spec PyProof.Rows L2
theorem isNone_next (q : Option (Nat × List Nat)) : isNone (eNext q) = !q.isSome := by
  cases q with
  | none => rfl
  | some q => rfl
section
open DM
variable {b : Book} {s : Nat}
theorem m_most_looked (h : WF b) (s1 : 1 ≤ s) (s3 : s ≤ 3) (sl : s ≤ b.1.length) {ts : List (List Nat)} (ht : ∀ t ∈ ts, t ∈ tests b) (hl : ts.length ≤ 1000) : f_most_looked [eB b, .int (s : Int), .list (ts.map eR)] = .rt (.int ((mostM b s ts (poss b s) : Nat) : Int)) := by
  have loop1 : ∀ one ∈ poss b s, ∀ k : Nat, ∃ ρ', whileS g_most_looked_w1 g_most_looked_b1 [some (.d (eB b)), some (.d (.int (s : Int))), some (.d (.list (ts.map eR))), some (.d (.int (k : Int))), some (.d (eM one)), some (.own (ts.map eR)), some (.d (eNext (nextM (tests b) (suspM b s ts (resM ts one)))))] = .nx ρ' ∧
      ∃ y, ρ' = [some (.d (eB b)), some (.d (.int (s : Int))), some (.d (.list (ts.map eR))), some (.d (.int (k : Int))), some (.d (eM one)), some (.own ((looked b s ts one).asked.map eR)), y] ∧ ts.length ≤ (looked b s ts one).asked.length := by
    intro one ho k
    obtain ⟨ρ', w1, ⟨hi, rfl⟩, _⟩ := while_iter (w := g_most_looked_w1) (b := g_most_looked_b1) (fun (a : LS) ρ => LKI b s ts one a ∧ ρ = [some (.d (eB b)), some (.d (.int (s : Int))), some (.d (.list (ts.map eR))), some (.d (.int (k : Int))), some (.d (eM one)), some (.own (a.asked.map eR)), some (.d (eNext (nextM (tests b) a.ms)))]) (lkGo (tests b)) (lkStep (tests b) one) (fun a => a.ms.length)
      (fun a ρ ⟨_, e⟩ => by
        subst e
        unfold g_most_looked_w1 lkGo
        simp only [toB_ap, isN_ap, rdB_ap, List.getElem?_cons_succ, List.getElem?_cons_zero, Res.bind_ok, Res.map_ok, isNone_next, boolD_bool, Res.of_some, Bool.true_xor, Bool.not_not])
      (fun a ρ ⟨ha, e⟩ hc => by
        subst e
        have hst := ha.step hc
        have hlen := hst.len
        refine ⟨lk_less hc, _, ?_, hst, rfl⟩
        have hz : a.asked.length < sizeLine := by have := ha.len; have := sizeLine_big; omega
        have he : eNext (nextM (tests b) a.ms) = eR (lkTest (tests b) a) := by
          unfold lkGo at hc
          unfold lkTest
          cases hn : nextM (tests b) a.ms with
          | none => rw [hn] at hc; cases hc
          | some q => rfl
        have q := ask_next h s1 s3 sl ho (xs := (lkStep (tests b) one a).asked) hst.sub (by omega) (t0 := some (.d (.list (ts.map eR)))) (m0 := some (.d (.int (k : Int)))) (y := some (.d (eR (lkTest (tests b) a))))
        rw [← hst.eq] at q
        unfold g_most_looked_b1
        rw [he, seqS_ap, appS_own (xs := a.asked.map eR) _ rfl]
        simp only [thenS_ap, rd_ap, List.getElem?_cons_succ, List.getElem?_cons_zero, List.length_map, hz, if_true, List.set_cons_succ, List.set_cons_zero, setS_ap]
        rw [show (a.asked.map eR ++ [eR (lkTest (tests b) a)]) = (lkStep (tests b) one a).asked.map eR by simp [lkStep], q]) 300 ⟨ts, suspM b s ts (resM ts one)⟩ _ (by have := susp_len h s1 s3 ts (resM ts one); show (suspM b s ts (resM ts one)).length ≤ 300; omega) ⟨LKI.start h s1 s3 ht one, rfl⟩
    exact ⟨_, w1, _, rfl, hi.ge⟩
  have loop2 : ∃ ρ', forL (tgName 4) g_most_looked_b2 ((poss b s).map eM) [some (.d (eB b)), some (.d (.int (s : Int))), some (.d (.list (ts.map eR))), some (.d (.int 0)), none, none, none] = .nx ρ' ∧
      ∃ x y z, ρ' = [some (.d (eB b)), some (.d (.int (s : Int))), some (.d (.list (ts.map eR))), some (.d (.int ((mostM b s ts (poss b s) : Nat) : Int))), x, y, z] := by
    refine forL_inv (fun d ρ => ∃ x y z, ρ = [some (.d (eB b)), some (.d (.int (s : Int))), some (.d (.list (ts.map eR))), some (.d (.int ((mostM b s ts d : Nat) : Int))), x, y, z]) (poss b s) ?_ ⟨none, none, none, rfl⟩
    rintro d one r ρ e ⟨x, y, z, rfl⟩
    have ho : one ∈ poss b s := by rw [e]; simp
    obtain ⟨ρ', w1, y', rfl, hge⟩ := loop1 one ho (mostM b s ts d)
    have q := ask_next h s1 s3 sl ho (xs := ts) ht (by omega) (t0 := some (.d (.list (ts.map eR)))) (m0 := some (.d (.int ((mostM b s ts d : Nat) : Int)))) (y := z)
    refine ⟨_, [some (.d (eB b)), some (.d (.int (s : Int))), some (.d (.list (ts.map eR))), some (.d (.int ((mostM b s ts (d ++ [one]) : Nat) : Int))), some (.d (eM one)), some (.own ((looked b s ts one).asked.map eR)), y'], rfl, ?_, _, _, _, rfl⟩
    show g_most_looked_b2 [some (.d (eB b)), some (.d (.int (s : Int))), some (.d (.list (ts.map eR))), some (.d (.int ((mostM b s ts d : Nat) : Int))), some (.d (eM one)), y, z] = _
    have hm : mostM b s ts (d ++ [one]) = max (mostM b s ts d) ((looked b s ts one).asked.length - ts.length) := by simp [mostM, List.foldl_append]
    have hmx : maxD [.int ((mostM b s ts d : Nat) : Int), .int (((looked b s ts one).asked.length : Int) - (ts.length : Int))] = some (.int ((mostM b s ts (d ++ [one]) : Nat) : Int)) := by
      rw [maxD_int, hm]
      congr 2
      split <;> omega
    unfold g_most_looked_b2
    simp only [seqS_ap, setO_ap, setS_ap, thenS_ap, cb_ap, asCons_ap, asNil_ap, rdB_ap, List.getElem?_cons_succ, List.getElem?_cons_zero, Res.bind_ok, Res.map_ok, toListD_list, Res.of_some, List.set_cons_succ, List.set_cons_zero, q, w1, op2_ap, lenD_list, List.length_map, intD_int, if_true, hmx]
  obtain ⟨ρ', h1, x, y, z, rfl⟩ := loop2
  unfold f_most_looked
  rw [runD_eq]
  show ofS (g_most_looked [some (.d (eB b)), some (.d (.int (s : Int))), some (.d (.list (ts.map eR))), none, none, none, none]) = _
  unfold g_most_looked
  simp only [seqS_ap, dropS_ap, setS_ap, forS_ap, retS_ap, thenS_ap, toSeq_ap, callR_ap, asCons_ap, asNil_ap, kst_ap, rd_ap, List.getElem?_cons_succ, List.getElem?_cons_zero, Res.bind_ok, Res.map_ok, List.length_cons, List.length_nil, Nat.zero_add, Nat.reduceAdd, if_true, m_look_strength h s1 s3 sl, m_look_tests h ht, m_possible_of h s1 s3, res_rt, res_ro, List.set_cons_succ, List.set_cons_zero, seqOf_list, Res.of_some, h1, ofS_rt]
end
end DL

/-! The plain part, 30: bits for the law on next tests. -/
namespace DL
open PySem PySem.Spec PyProof.Rows L2
def mineM (ts : List (List Nat)) (m : Meet) : List Bool := ts.map fun t => meets t m
theorem mine_res (ts : List (List Nat)) (a b : Meet) : mineM ts a = mineM ts b ↔ resM ts a = resM ts b := by
  have e : ∀ m, resM ts m = (mineM ts m).map not := fun m => by simp [resM, mineM]
  have e' : ∀ m, mineM ts m = (resM ts m).map not := fun m => by simp [resM, mineM]
  constructor
  · intro h; rw [e, e, h]
  · intro h; rw [e', e', h]
theorem ne_next (q : Option (Nat × List Nat)) : neD (eNext q) (eNext q) = some (.bool false) := by
  cases q with
  | none =>
    have h : SeqAt.shaped .none = true := by simp [SeqAt.shaped, PyData.canLay0, PyData.depth]
    show neD .none .none = _
    unfold neD
    rw [if_pos ⟨h, h⟩]
    simp [PyData.eqv]
  | some q => exact ne_same (nmR q.2) (by decide)
section
open DM
theorem l_lists {n : Nat} {ts : List (List Nat)} {m : Meet} (h : Fit n [m] ts) : ∀ t ∈ ts, f_l_meets [eR t, eM m] = .rt (.bool (meets t m)) := fun t ht => m_l_meets (h.at t ht m (by simp))
end
end DL

/-! The plain part, 31: the book cut to some things, by the law's text; what is drawn out of a list. -/
namespace DL
open PySem PySem.Spec PyProof.Rows L2
def cutN (k : Nat) (b : Book) : Book := (b.1.take k, b.2.filter fun m => decide (lastThing m < k))
theorem cutN_wf {b : Book} (h : WF b) {k : Nat} (hk : 1 ≤ k) : WF (cutN k b) := by
  refine ⟨⟨?_, ?_, fun l hl => h.wl.lev l (List.mem_of_mem_take hl)⟩, ?_, fun m hm => ?_⟩
  · show 1 ≤ (b.1.take k).length
    have := h.wl.lo
    rw [List.length_take]
    omega
  · show (b.1.take k).length ≤ 4
    have := h.wl.hi
    rw [List.length_take]
    omega
  · exact Nat.le_trans (List.length_filter_le _ _) h.bans
  · obtain ⟨h1, h2⟩ := List.mem_filter.mp hm
    have hI := h.ban m h1
    refine ⟨hI.lo, hI.hi, hI.inc, fun p hp => ?_⟩
    obtain ⟨l, e, hl⟩ := hI.at_ p hp
    have h3 := last_max hI.inc p hp
    have h4 := of_decide_eq_true h2
    refine ⟨l, ?_, hl⟩
    show (b.1.take k)[p.1]? = some l
    rw [List.getElem?_take_of_lt (by omega)]
    exact e
theorem eB_cutN (k : Nat) (b : Book) : PyData.tuple [.tuple ((b.1.map eN).take k), .tuple ((b.2.filter fun m => decide (lastThing m < k)).map eM)] = eB (cutN k b) := by
  simp [eB, cutN, eR, List.map_take]
theorem last_ix {m : Meet} (h : m ≠ []) : ixD (eM m) (.int (-1)) = some (eP (m.getLastD (0, 0))) := by
  have e : m.dropLast ++ [m.getLast h] = m := List.dropLast_concat_getLast h
  have e2 : m.getLastD (0, 0) = m.getLast h := by rw [List.getLastD_eq_getLast?, List.getLast?_eq_some_getLast h]; rfl
  rw [e2]
  show atI (m.map eP) (-1) = _
  conv => lhs; rw [← e]
  rw [List.map_append]
  exact L2.atI_last _ _
theorem ixP0 (p : Nat × Nat) : ixD (eP p) (.int 0) = some (.int (p.1 : Int)) := by simp [eP, eN]
theorem ixP1 (p : Nat × Nat) : ixD (eP p) (.int 1) = some (.int (p.2 : Int)) := by simp [eP, eN]
theorem IsMeet.ne {lv : List Nat} {m : Meet} (h : IsMeet lv m) : m ≠ [] := fun z => by
  have := h.lo
  rw [z] at this
  exact absurd this (by decide)
theorem eB0 (b : Book) : ixD (eB b) (.int 0) = some (.tuple (b.1.map eN)) := by simp [eB, eR]
theorem eB1 (b : Book) : ixD (eB b) (.int 1) = some (.tuple (b.2.map eM)) := by simp [eB]
theorem cutD_tup_to (xs : List D) (i : Nat) : cutD (.tuple xs) none (some (i : Int)) = some (.tuple (xs.take i)) := by
  show some (PyData.tuple (cutG xs none (some (i : Int)))) = _
  rw [cut_to]
theorem pick {α : Type} (xs : List α) (h : xs ≠ []) (c : Int) : ∃ (i : Nat) (x : α), xs[i]? = some x ∧ x ∈ xs ∧ modD (.int c) (.int (xs.length : Int)) = some (.int (i : Int)) := by
  have hl : 0 < xs.length := List.length_pos_iff.mpr h
  have a := Int.emod_nonneg c (show (xs.length : Int) ≠ 0 by omega)
  have d := Int.emod_lt_of_pos c (show (0 : Int) < (xs.length : Int) by omega)
  obtain ⟨i, hi⟩ : ∃ i : Nat, c % (xs.length : Int) = (i : Int) := ⟨(c % (xs.length : Int)).toNat, by omega⟩
  have hlt : i < xs.length := by omega
  refine ⟨i, xs[i], List.getElem?_eq_getElem hlt, List.getElem_mem hlt, ?_⟩
  rw [← hi]
  show (if (decide ((0 : Int) < (xs.length : Int))) = true then some (PyData.int (c % (xs.length : Int))) else none) = _
  rw [if_pos (by simpa using hl)]
theorem nextM_nil (ev : List (List Nat)) : nextM ev [] = none := by
  cases h : nextM ev [] with
  | none => rfl
  | some q =>
    obtain ⟨w, t⟩ := q
    have := (nextM_spec [] ev w t h).2.1
    exact absurd this (by simp)
end DL

/-! The plain part, 32: dicts by mirror: keys of any kind, values of any kind. -/
namespace DL
open PySem PySem.Spec PyProof.Rows L2
@[simp] theorem dctR_dct {α : Type} {i : Nat} {ρ : Rho} {kvs : List (D × D)} (k : List (D × D) → Rho → Res α) (h : ρ[i]? = some (some (.dct kvs))) : dctR i k ρ = k kvs ρ := by
  unfold dctR
  rw [h]
structure KeyOK {κ : Type} (ek : κ → D) : Prop where
  inj : ∀ a b, keyOf (ek a) = keyOf (ek b) ↔ a = b
  ok : ∀ a, okKey (ek a) = true
section
variable {κ α : Type} [DecidableEq κ]
def encE (ek : κ → D) (ev : α → D) (c : κ × α) : D × D := (ek c.1, ev c.2)
def valE (cs : List (κ × α)) (k : κ) : Option α := (cs.find? fun c => decide (c.1 = k)).map (·.2)
def putE (cs : List (κ × α)) (k : κ) (v : α) : List (κ × α) := if (cs.any fun c => decide (c.1 = k)) = true then cs.map (fun c => if c.1 = k then (c.1, v) else c) else cs ++ [(k, v)]
variable {ek : κ → D} {ev : α → D}
theorem get_enc (h : KeyOK ek) (cs : List (κ × α)) (k : κ) : getK (cs.map (encE ek ev)) (ek k) = (valE cs k).map ev := by
  unfold getK valE
  induction cs with
  | nil => rfl
  | cons c cs ih =>
    rw [List.map_cons, List.find?_cons, List.find?_cons]
    have e : decide (keyOf (encE ek ev c).1 = keyOf (ek k)) = decide (c.1 = k) := decide_eq_decide.mpr (h.inj _ _)
    rw [e]
    cases decide (c.1 = k) with
    | true => rfl
    | false => exact ih
theorem has_enc (h : KeyOK ek) (cs : List (κ × α)) (k : κ) : hasK (cs.map (encE ek ev)) (ek k) = cs.any fun c => decide (c.1 = k) := by
  unfold hasK
  rw [List.any_map]
  congr 1
  funext c
  exact decide_eq_decide.mpr (h.inj _ _)
theorem put_enc (h : KeyOK ek) (cs : List (κ × α)) (k : κ) (v : α) : putK (cs.map (encE ek ev)) (ek k) (ev v) = (putE cs k v).map (encE ek ev) := by
  unfold putK putE
  rw [has_enc h]
  cases (cs.any fun c => decide (c.1 = k)) with
  | true =>
    rw [if_pos rfl, if_pos rfl, List.map_map, List.map_map]
    apply List.map_congr_left
    intro c _
    show (if keyOf (ek c.1) = keyOf (ek k) then (ek c.1, ev v) else (ek c.1, ev c.2)) = encE ek ev (if c.1 = k then (c.1, v) else c)
    by_cases e : c.1 = k
    · rw [if_pos ((h.inj _ _).mpr e), if_pos e]; rfl
    · rw [if_neg (fun z => e ((h.inj _ _).mp z)), if_neg e]; rfl
  | false => rw [if_neg (by decide), if_neg (by decide), List.map_append]; rfl
theorem putE_len (cs : List (κ × α)) (k : κ) (v : α) : (putE cs k v).length ≤ cs.length + 1 := by
  unfold putE
  split
  · rw [List.length_map]; omega
  · rw [List.length_append]; simp
theorem putE_mem {cs : List (κ × α)} {k : κ} {v : α} {c : κ × α} (h : c ∈ putE cs k v) : c = (k, v) ∨ (c ∈ cs ∧ c.1 ≠ k) := by
  unfold putE at h
  split at h
  · obtain ⟨c', hc, rfl⟩ := List.mem_map.mp h
    by_cases e : c'.1 = k
    · rw [if_pos e]; exact .inl (by rw [e])
    · rw [if_neg e]; exact .inr ⟨hc, e⟩
  · rename_i hn
    rcases List.mem_append.mp h with h | h
    · refine .inr ⟨h, fun e => hn ?_⟩
      exact List.any_eq_true.mpr ⟨c, h, decide_eq_true e⟩
    · exact .inl (List.mem_singleton.mp h)
theorem valE_mem {cs : List (κ × α)} {k : κ} {v : α} (h : valE cs k = some v) : (k, v) ∈ cs := by
  unfold valE at h
  obtain ⟨c, hc, rfl⟩ := Option.map_eq_some_iff.mp h
  have h1 := List.mem_of_find?_eq_some hc
  have h2 : c.1 = k := by simpa using List.find?_some hc
  rw [← h2]
  exact h1
theorem valE_has {cs : List (κ × α)} {c : κ × α} (h : c ∈ cs) : ∃ v, valE cs c.1 = some v := by
  unfold valE
  cases hf : cs.find? fun c' => decide (c'.1 = c.1) with
  | none => exact absurd (decide_eq_true rfl) (List.find?_eq_none.mp hf c h)
  | some c' => exact ⟨c'.2, rfl⟩
end
theorem keysOf_N : ∀ r : List Nat, keysOf (r.map eN) = some (r.map fun n : Nat => NestedKey.num (n : Int))
  | [] => rfl
  | n :: r => by rw [List.map_cons, keysOf, keysOf_N r]; rfl
theorem depthAll_num : ∀ xs : List Int, NestedKey.depthAll (xs.map NestedKey.num) = 0
  | [] => rfl
  | x :: xs => by rw [List.map_cons, NestedKey.depthAll, depthAll_num xs]; rfl
theorem keyR : KeyOK eR := ⟨fun a b => by
  have e : ∀ r, keyOf (eR r) = some (.tup (r.map fun n : Nat => NestedKey.num (n : Int))) := fun r => by unfold eR; rw [keyOf, keysOf_N]; rfl
  rw [e, e]
  constructor
  · intro h
    have h := NestedKey.tup.inj (Option.some.inj h)
    exact map_inj (fun x y z => by have := NestedKey.num.inj z; omega) h
  · rintro rfl; rfl, fun a => by
  show (match keysOf (a.map eN) with
    | some ks => decide ((NestedKey.tup ks).depth ≤ 8)
    | none => false) = true
  rw [keysOf_N]
  have : (a.map fun n : Nat => NestedKey.num (n : Int)) = (a.map fun n : Nat => (n : Int)).map NestedKey.num := by rw [List.map_map]; rfl
  rw [this]
  refine decide_eq_true ?_
  rw [NestedKey.depth, depthAll_num]
  omega⟩
def eBk (bs : List Bool) : D := .tuple (bs.map PyData.bool)
theorem keysOf_B : ∀ r : List Bool, keysOf (r.map PyData.bool) = some (r.map fun b => NestedKey.num (if b = true then 1 else 0))
  | [] => rfl
  | n :: r => by rw [List.map_cons, keysOf, keysOf_B r]; rfl
theorem keyB : KeyOK eBk := ⟨fun a b => by
  have e : ∀ r, keyOf (eBk r) = some (.tup (r.map fun b => NestedKey.num (if b = true then 1 else 0))) := fun r => by unfold eBk; rw [keyOf, keysOf_B]; rfl
  rw [e, e]
  constructor
  · intro h
    have h := NestedKey.tup.inj (Option.some.inj h)
    exact map_inj (fun x y z => by have := NestedKey.num.inj z; cases x <;> cases y <;> simp at this ⊢) h
  · rintro rfl; rfl, fun a => by
  show (match keysOf (a.map PyData.bool) with
    | some ks => decide ((NestedKey.tup ks).depth ≤ 8)
    | none => false) = true
  rw [keysOf_B]
  have : (a.map fun b => NestedKey.num (if b = true then 1 else 0)) = (a.map fun b => if b = true then (1 : Int) else 0).map NestedKey.num := by rw [List.map_map]; rfl
  rw [this]
  refine decide_eq_true ?_
  rw [NestedKey.depth, depthAll_num]
  omega⟩
/-! ### greatest of a list -/
theorem maxD_mem (x : D) (xs : List D) : PySem.W.maxD x xs ∈ x :: xs := by
  unfold PySem.W.maxD
  induction xs generalizing x with
  | nil => simp
  | cons y xs ih =>
    rw [List.foldl_cons]
    rcases List.mem_cons.mp (ih (if PySem.W.dataLt x y = true then y else x)) with h | h
    · rw [h]; split <;> simp
    · simp [h]
theorem minD_mem (x : D) (xs : List D) : PySem.W.minD x xs ∈ x :: xs := by
  unfold PySem.W.minD
  induction xs generalizing x with
  | nil => simp
  | cons y xs ih =>
    rw [List.foldl_cons]
    rcases List.mem_cons.mp (ih (if PySem.W.dataLt y x = true then y else x)) with h | h
    · rw [h]; split <;> simp
    · simp [h]
theorem fit_N (ns : List Nat) : fitMin (ns.map eN) = true := by
  unfold fitMin
  rw [Bool.and_eq_true, Bool.and_eq_true]
  refine ⟨⟨?_, ?_⟩, ?_⟩
  · unfold allLike
    simp only [List.all_eq_true, List.mem_map]
    rintro _ ⟨a, _, rfl⟩ _ ⟨b, _, rfl⟩
    rfl
  · simp only [List.all_eq_true, List.mem_map]
    rintro _ ⟨a, _, rfl⟩
    rfl
  · simp only [List.all_eq_true, List.mem_map]
    rintro _ ⟨a, _, rfl⟩
    simp [eN, PyData.depth]
/-- max(ns, default=0) is some number; no more than all are -/
theorem maxDef_N {g h : Rho → Res D} {ρ : Rho} {ns : List Nat} {c : Nat} (hg : g ρ = .ok (.list (ns.map eN))) (hh : h ρ = .ok (.int 0)) (hc : ∀ n ∈ ns, n ≤ c) : ∃ m : Nat, m ≤ c ∧ maxDefR g h ρ = .ok (.int (m : Int)) := by
  unfold maxDefR
  rw [hg, Res.bind_ok, hh, Res.bind_ok]
  simp only [fit_N, if_true]
  cases ns with
  | nil => exact ⟨0, Nat.zero_le _, rfl⟩
  | cons n ns =>
    have h1 := maxD_mem (eN n) (ns.map eN)
    rw [← List.map_cons, List.mem_map] at h1
    obtain ⟨m, hm, e⟩ := h1
    exact ⟨m, hc m hm, by rw [List.map_cons]; simp only; rw [← e]; rfl⟩
end DL

/-! The plain part, 33: no fewer tests than meetings that are apart. -/
namespace DL
open PySem PySem.Spec PyProof.Rows L2
theorem putM_nodup {ks : List Meet} (h : ks.Nodup) (m : Meet) : (putM ks m).Nodup := by
  unfold putM
  by_cases hc : ks.contains m = true
  · rw [if_pos hc]; exact h
  · rw [if_neg hc]
    rw [List.nodup_append]
    refine ⟨h, by simp, fun a ha b hb e => ?_⟩
    rw [List.mem_singleton.mp hb] at e
    subst e
    exact hc (List.contains_iff_mem.mpr ha)
theorem foldl_nodup (xs : List Meet) : ∀ {ks : List Meet}, ks.Nodup → (xs.foldl putM ks).Nodup := by
  induction xs with
  | nil => exact fun h => h
  | cons x xs ih => exact fun h => ih (putM_nodup h x)
theorem lawKeys_nodup (lv : List Nat) (s : Nat) : (lawKeys lv s).Nodup := by
  unfold lawKeys
  suffices ∀ (rs : List Row) (ks : List Meet), ks.Nodup → (rs.foldl (fun ks r => ((subs r).filter fun m => m.length == s).foldl putM ks) ks).Nodup from this _ _ List.nodup_nil
  intro rs
  induction rs with
  | nil => exact fun ks h => h
  | cons r rs ih => exact fun ks h => ih _ (foldl_nodup _ h)
theorem M_nodup {lv : List Nat} (h : WL lv) {s : Nat} (s1 : 1 ≤ s) (s3 : s ≤ 3) : (M lv s).Nodup :=
  (List.mergeSort_perm _ _).nodup_iff.mpr ((mf_of h s1 s3).perm.nodup_iff.mpr (lawKeys_nodup lv s))
theorem poss_nodup {b : Book} (h : WF b) {s : Nat} (s1 : 1 ≤ s) (s3 : s ≤ 3) : (poss b s).Nodup := (M_nodup h.wl s1 s3).filter _
/-- two meetings that no test of some meets both -/
def Apart (ts : List (List Nat)) (m m' : Meet) : Prop := ∀ t ∈ ts, meets t m = true → meets t m' = false
theorem apart_le : ∀ (C : List Meet) (ts : List (List Nat)), C.Pairwise (Apart ts) → (∀ m ∈ C, ∃ t ∈ ts, meets t m = true) → C.length ≤ ts.length
  | [], _, _, _ => Nat.zero_le _
  | m :: C, ts, h, hm => by
    obtain ⟨t, ht, hmt⟩ := hm m (by simp)
    rw [List.pairwise_cons] at h
    have ih := apart_le C (ts.erase t) (h.2.imp fun hh t' ht' => hh t' (List.mem_of_mem_erase ht')) fun m' hm' => by
      obtain ⟨t', ht', hmt'⟩ := hm m' (List.mem_cons_of_mem _ hm')
      refine ⟨t', ?_, hmt'⟩
      have hne : t' ≠ t := fun e => by
        have := h.1 m' hm' t ht hmt
        rw [← e, hmt'] at this
        cases this
      exact (List.mem_erase_of_ne hne).mpr ht'
    rw [List.length_erase_of_mem ht] at ih
    have : 0 < ts.length := List.length_pos_of_mem ht
    rw [List.length_cons]
    omega
theorem same_things {t : List Nat} : ∀ {a b : Meet}, a.map (·.1) = b.map (·.1) → meets t a = true → meets t b = true → a = b
  | [], [], _, _, _ => rfl
  | [], _ :: _, h, _, _ => by simp at h
  | _ :: _, [], h, _, _ => by simp at h
  | p :: a, q :: b, h, ha, hb => by
    simp only [List.map_cons, List.cons.injEq] at h
    have h1 := meets_iff.mp ha
    have h2 := meets_iff.mp hb
    have e1 := h1 p (by simp)
    have e2 := h2 q (by simp)
    rw [h.1] at e1
    rw [e1] at e2
    have e3 : p = q := Prod.ext h.1 (Option.some.inj e2)
    rw [e3, same_things h.2 (meets_iff.mpr fun x hx => h1 x (by simp [hx])) (meets_iff.mpr fun x hx => h2 x (by simp [hx]))]
theorem cov_all {P : List Meet} {ts : List (List Nat)} (h : unmetM P ts = []) : ∀ m ∈ P, ∃ t ∈ ts, meets t m = true := fun m hm => by
  cases hc : ts.any fun t => meets t m with
  | true =>
    obtain ⟨t, ht, h2⟩ := List.any_eq_true.mp hc
    exact ⟨t, ht, h2⟩
  | false =>
    have : m ∈ unmetM P ts := unmet_iff.mpr ⟨hm, fun t ht => by
      rw [List.any_eq_false] at hc
      have := hc t ht
      cases hb : meets t m with
      | true => exact absurd hb this
      | false => rfl⟩
    rw [h] at this
    cases this
def ofThings (P : List Meet) (k : List Nat) : Nat := (P.filter fun m => decide (m.map (·.1) = k)).length
theorem class_le {b : Book} (h : WF b) {s : Nat} (s1 : 1 ≤ s) (s3 : s ≤ 3) {ts : List (List Nat)} (cov : unmetM (poss b s) ts = []) (k : List Nat) : ofThings (poss b s) k ≤ ts.length := by
  refine apart_le _ ts ?_ fun m hm => cov_all cov m (List.mem_filter.mp hm).1
  have hn : ((poss b s).filter fun m => decide (m.map (·.1) = k)).Nodup := (poss_nodup h s1 s3).filter _
  refine List.Pairwise.imp_of_mem ?_ hn
  intro a c ha hc hne t _ hta
  cases htc : meets t c with
  | false => rfl
  | true =>
    have e1 := of_decide_eq_true (List.mem_filter.mp ha).2
    have e2 := of_decide_eq_true (List.mem_filter.mp hc).2
    exact absurd (same_things (e1.trans e2.symm) hta htc) hne
theorem ofThings_snoc (d : List Meet) (m : Meet) (k : List Nat) : ofThings (d ++ [m]) k = ofThings d k + if m.map (·.1) = k then 1 else 0 := by
  unfold ofThings
  rw [List.filter_append, List.length_append]
  congr 1
  by_cases e : m.map (·.1) = k
  · rw [if_pos e, List.filter_cons_of_pos (by simpa using e)]; rfl
  · rw [if_neg e, List.filter_cons_of_neg (by simpa using e)]; rfl
end DL

/-! The plain part, 34: what is a book, of any data. -/
namespace DL
open PySem PySem.Spec PyProof.Rows L2
/-- not a dict -/
def nd : D → Bool
  | .dict _ => false
  | _ => true
def withinB (d : D) (lo hi : Int) : Bool := match d with
  | .int i => decide (lo ≤ i) && decide (i ≤ hi)
  | _ => false
/-- a meeting's pair, beyond a thing: its thing -/
def stepB (lv : List Nat) (last : Int) (d : D) : Option Int := match d with
  | .tuple ps => (match ps with
    | [a, y] => (match a with
      | .int i => if ((decide (last + 1 ≤ i) && decide (i ≤ (lv.length : Int) - 1)) && withinB y 0 (((lv.getD i.toNat 0 : Nat) : Int) - 1)) = true then some i else none
      | _ => none)
    | _ => none)
  | _ => none
def pairsB (lv : List Nat) : Int → List D → Bool
  | _, [] => true
  | last, d :: r => match stepB lv last d with
    | some i => pairsB lv i r
    | none => false
def meetingB (lv : List Nat) (d : D) (least most : Int) : Bool := match d with
  | .tuple xs => (decide (least ≤ (xs.length : Int)) && decide ((xs.length : Int) ≤ most)) && pairsB lv (-1) xs
  | _ => false
theorem isi_tuple {d : D} (h : nd d = true) : isiD "tuple" d = some (match d with | .tuple _ => true | _ => false) := by
  cases d <;> first | rfl | cases h
theorem isi_int {d : D} (h : nd d = true) : isiD "int" d = some (match d with | .int _ => true | .bool _ => true | _ => false) := by
  cases d <;> first | rfl | cases h
theorem isi_bool {d : D} (h : nd d = true) : isiD "bool" d = some (match d with | .bool _ => true | _ => false) := by
  cases d <;> first | rfl | cases h
theorem isi_list {d : D} (h : nd d = true) : isiD "list" d = some (match d with | .list _ => true | _ => false) := by
  cases d <;> first | rfl | cases h
theorem nd_of {d : D} (h : noDct d = true) : nd d = true := by cases d <;> first | rfl | (simp [noDct] at h)
theorem noDctA_mem {ds : List D} (h : noDctA ds = true) : ∀ d ∈ ds, noDct d = true := by
  induction ds with
  | nil => intro d hd; cases hd
  | cons x xs ih =>
    simp only [noDctA, Bool.and_eq_true] at h
    intro d hd
    rcases List.mem_cons.mp hd with rfl | hd
    · exact h.1
    · exact ih h.2 d hd
theorem len2 (xs : List D) : (!decide ((xs.length : Int) = 2)) = true ∨ ∃ a b, xs = [a, b] := by
  match xs with
  | [] => exact .inl rfl
  | [_] => exact .inl rfl
  | [a, b] => exact .inr ⟨a, b, rfl⟩
  | _ :: _ :: _ :: r => exact .inl (by simp; omega)
section
open DM
theorem m_within {d : D} (h : nd d = true) (lo hi : Int) : f_is_within [d, .int lo, .int hi] = .rt (.bool (withinB d lo hi)) := by
  unfold f_is_within
  rw [runD_eq]
  show ofS (g_is_within [some (.d d), some (.d (.int lo)), some (.d (.int hi))]) = _
  unfold g_is_within withinB
  cases d with
  | int x => by_cases h1 : lo ≤ x <;> by_cases h2 : x ≤ hi <;> simp [h1, h2]
  | bool b => simp [isiD, tyN]
  | none => simp [isiD, tyN]
  | str x => simp [isiD, tyN]
  | list x => simp [isiD, tyN]
  | tuple x => simp [isiD, tyN]
  | dict x => cases h
theorem loop_pairs {lv : List Nat} {T L M : Option B} : ∀ (xs : List D) (last : Int) (y : Option B), -1 ≤ last → noDctA xs = true →
    (pairsB lv last xs = true ∧ ∃ l' y', forL (tgName 5) g_is_meeting_b1 xs [some (.d (eR lv)), T, L, M, some (.d (.int last)), y] = .nx [some (.d (eR lv)), T, L, M, some (.d (.int l')), y']) ∨
    (pairsB lv last xs = false ∧ forL (tgName 5) g_is_meeting_b1 xs [some (.d (eR lv)), T, L, M, some (.d (.int last)), y] = .rt (.bool false))
  | [], last, y, _, _ => .inl ⟨rfl, last, y, rfl⟩
  | d :: xs, last, y, hl, hn => by
    simp only [noDctA, Bool.and_eq_true] at hn
    have hnd := nd_of hn.1
    have h22 : decide (((2 : Nat) : Int) = 2) = true := rfl
    have hlen : lenD [eR lv] = some (.int (lv.length : Int)) := by simp [eR]
    unfold forL
    simp only [tgName_run, List.set_cons_succ, List.set_cons_zero]
    have bad : (stepB lv last d = none ∧ g_is_meeting_b1 [some (.d (eR lv)), T, L, M, some (.d (.int last)), some (.d d)] = .rt (.bool false)) ∨ ∃ (i : Int) (z : D), d = .tuple [.int i, z] ∧ stepB lv last d = some i ∧ -1 ≤ i ∧
        g_is_meeting_b1 [some (.d (eR lv)), T, L, M, some (.d (.int last)), some (.d d)] = .nx [some (.d (eR lv)), T, L, M, some (.d (.int i)), some (.d d)] := by
      unfold g_is_meeting_b1
      have ht := isi_tuple hnd
      cases d with
      | tuple ps =>
        rcases len2 ps with h2 | ⟨a, b, rfl⟩
        · refine .inl ⟨?_, ?_⟩
          · match ps, h2 with
            | [], _ => rfl
            | [_], _ => rfl
            | [_, _], h2 => simp at h2
            | _ :: _ :: _ :: _, _ => rfl
          · simp only [seqS_ap, ifS_ap, thenS_ap, orT_ap, notT_ap, toTru_ap, toB_ap, isiR_ap, cb_ap, op2_ap, asCons_ap, asNil_ap, rdB_ap, kst_ap, retS_ap, List.getElem?_cons_succ, List.getElem?_cons_zero, Res.bind_ok, Res.map_ok, ht, Option.map_some, Res.of_some, truD_bool, Bool.not_true, Bool.false_eq_true, if_false, lenD_tup, neD_int, boolD_bool, h2, if_true]
        · have hab : noDct a = true ∧ noDct b = true := by
            have := hn.1
            simp only [noDct, noDctA, Bool.and_eq_true] at this
            exact ⟨this.1, this.2.1⟩
          have w1 := m_within (nd_of hab.1) (last + 1) ((lv.length : Int) - 1)
          have hneg : ∀ (r : D) (hw : withinB r (last + 1) ((lv.length : Int) - 1) = false), a = r → stepB lv last (.tuple [a, b]) = none := by
            intro r hw e
            subst e
            cases a with
            | int i =>
              have hw : (decide (last + 1 ≤ i) && decide (i ≤ (lv.length : Int) - 1)) = false := hw
              show (if ((decide (last + 1 ≤ i) && decide (i ≤ (lv.length : Int) - 1)) && withinB b 0 (((lv.getD i.toNat 0 : Nat) : Int) - 1)) = true then some i else none) = none
              rw [hw, Bool.false_and, if_neg (by decide)]
            | _ => rfl
          by_cases hw : withinB a (last + 1) ((lv.length : Int) - 1) = true
          · obtain ⟨i, rfl⟩ : ∃ i, a = .int i := by cases a <;> first | exact ⟨_, rfl⟩ | (simp [withinB] at hw)
            have hi : last + 1 ≤ i ∧ i ≤ (lv.length : Int) - 1 := by
              unfold withinB at hw
              rw [Bool.and_eq_true] at hw
              exact ⟨of_decide_eq_true hw.1, of_decide_eq_true hw.2⟩
            obtain ⟨n, rfl⟩ : ∃ n : Nat, i = (n : Int) := ⟨i.toNat, by omega⟩
            have hlt : n < lv.length := by omega
            have hat : ixD (eR lv) (.int (n : Int)) = some (.int (((lv.getD n 0 : Nat) : Int))) := by
              show atI (lv.map eN) (n : Int) = _
              rw [atR hlt]
              simp [eN, List.getD, hlt]
            have w2 := m_within (nd_of hab.2) 0 (((lv.getD n 0 : Nat) : Int) - 1)
            have hp : stepB lv last (.tuple [.int (n : Int), b]) = if withinB b 0 (((lv.getD n 0 : Nat) : Int) - 1) = true then some (n : Int) else none := by
              have h0 : (decide (last + 1 ≤ (n : Int)) && decide ((n : Int) ≤ (lv.length : Int) - 1)) = true := by
                rw [decide_eq_true hi.1, decide_eq_true hi.2]; rfl
              show (if ((decide (last + 1 ≤ (n : Int)) && decide ((n : Int) ≤ (lv.length : Int) - 1)) && withinB b 0 (((lv.getD (n : Int).toNat 0 : Nat) : Int) - 1)) = true then some (n : Int) else none) = _
              rw [h0, Bool.true_and, Int.toNat_natCast]
            rw [hw] at w1
            by_cases hb : withinB b 0 (((lv.getD n 0 : Nat) : Int) - 1) = true
            · refine .inr ⟨n, b, rfl, by rw [hp, if_pos hb], by omega, ?_⟩
              rw [hb] at w2
              simp only [seqS_ap, ifS_ap, thenS_ap, orT_ap, notT_ap, toTru_ap, toB_ap, isiR_ap, cb_ap, op2_ap, callR_ap, asCons_ap, asNil_ap, rdB_ap, kst_ap, setS_ap, List.getElem?_cons_succ, List.getElem?_cons_zero, Res.bind_ok, Res.map_ok, ht, Option.map_some, Res.of_some, truD_bool, Bool.not_true, Bool.false_eq_true, if_false, lenD_tup, neD_int, boolD_bool, List.length_cons, List.length_nil, Nat.zero_add, Nat.reduceAdd, h22, ixD_tup, atI_zero, atI_one, addD_int, intD_int, hlen, if_true, w1, res_rt, hat, w2, List.set_cons_succ, List.set_cons_zero]
            · have hb' : withinB b 0 (((lv.getD n 0 : Nat) : Int) - 1) = false := by simpa using hb
              refine .inl ⟨by rw [hp, if_neg hb], ?_⟩
              rw [hb'] at w2
              simp only [seqS_ap, ifS_ap, thenS_ap, orT_ap, notT_ap, toTru_ap, toB_ap, isiR_ap, cb_ap, op2_ap, callR_ap, asCons_ap, asNil_ap, rdB_ap, kst_ap, retS_ap, List.getElem?_cons_succ, List.getElem?_cons_zero, Res.bind_ok, Res.map_ok, ht, Option.map_some, Res.of_some, truD_bool, Bool.not_true, Bool.not_false, Bool.false_eq_true, if_false, lenD_tup, neD_int, boolD_bool, List.length_cons, List.length_nil, Nat.zero_add, Nat.reduceAdd, h22, ixD_tup, atI_zero, atI_one, addD_int, intD_int, hlen, if_true, w1, res_rt, hat, w2]
          · have hw' : withinB a (last + 1) ((lv.length : Int) - 1) = false := by simpa using hw
            refine .inl ⟨hneg a hw' rfl, ?_⟩
            rw [hw'] at w1
            simp only [seqS_ap, ifS_ap, thenS_ap, orT_ap, notT_ap, toTru_ap, toB_ap, isiR_ap, cb_ap, op2_ap, callR_ap, asCons_ap, asNil_ap, rdB_ap, kst_ap, retS_ap, List.getElem?_cons_succ, List.getElem?_cons_zero, Res.bind_ok, Res.map_ok, ht, Option.map_some, Res.of_some, truD_bool, Bool.not_true, Bool.not_false, Bool.false_eq_true, if_false, lenD_tup, neD_int, boolD_bool, List.length_cons, List.length_nil, Nat.zero_add, Nat.reduceAdd, h22, ixD_tup, atI_zero, addD_int, intD_int, hlen, if_true, w1, res_rt]
      | _ =>
        refine .inl ⟨rfl, ?_⟩
        simp only [seqS_ap, ifS_ap, thenS_ap, orT_ap, notT_ap, toTru_ap, isiR_ap, rdB_ap, retS_ap, kst_ap, List.getElem?_cons_succ, List.getElem?_cons_zero, Res.bind_ok, Res.map_ok, ht, Option.map_some, Res.of_some, truD_bool, Bool.not_false, if_true]
    rcases bad with ⟨h1, h2⟩ | ⟨i, z, rfl, h1, h2, h3⟩
    · exact .inr ⟨by unfold pairsB; rw [h1], by rw [h2]⟩
    · have e : pairsB lv last (PyData.tuple [.int i, z] :: xs) = pairsB lv i xs := by
        conv => lhs; unfold pairsB
        rw [h1]
      rw [h3, e]
      exact loop_pairs xs i _ h2 hn.2
end
end DL

/-! The plain part, 35: what is a book, a strength, a row, tests, of any data. -/
namespace DL
open PySem PySem.Spec PyProof.Rows L2
theorem filter_isE {α : Type} (p : α → Bool) (xs : List α) : (xs.filter p).isEmpty = xs.all fun x => !p x := not_filter_empty p xs
/-- a comprehension that keeps some -/
theorem lc_keep {fi : Rho → Res (List D)} {t : Tg} {c : Rho → Res Bool} {e : Rho → Res D} {vs : List Nat} {ρ : Rho} {p : D → Bool} (xs : List D) (hf : fi ρ = .ok xs)
    (h : ∀ x ∈ xs, ∃ ρ1, t.run x (wipeR ρ vs) = .ok ρ1 ∧ c ρ1 = .ok (p x) ∧ (p x = true → e ρ1 = .ok x)) : lc fi t c e vs ρ = .ok (xs.filter p) := by
  have := lc_map (fi := fi) (t := t) (c := c) (e := e) (vs := vs) (ρ := ρ) (enc := fun x : D => x) (p := p) (g := fun x : D => x) xs (by rw [hf, List.map_id']) h
  rw [this, List.map_id']
def prodN (lv : List Nat) : Nat := lv.foldl (· * ·) 1
def lvB (ds : List D) : Option (List Nat) := if (ds.all fun d => withinB d 1 4) = true then some (ds.map fun d => match d with | .int i => i.toNat | _ => 0) else none
theorem lvB_ok {ds : List D} {lv : List Nat} (h : lvB ds = some lv) : ds = lv.map eN ∧ ∀ l ∈ lv, 1 ≤ l ∧ l ≤ 4 := by
  unfold lvB at h
  by_cases hc : (ds.all fun d => withinB d 1 4) = true
  · rw [if_pos hc] at h
    cases h
    induction ds with
    | nil => exact ⟨rfl, by simp⟩
    | cons d ds ih =>
      rw [List.all_cons, Bool.and_eq_true] at hc
      obtain ⟨h1, h2⟩ := ih hc.2
      cases d with
      | int i =>
        have hw := hc.1
        unfold withinB at hw
        rw [Bool.and_eq_true] at hw
        have a := of_decide_eq_true hw.1
        have b := of_decide_eq_true hw.2
        refine ⟨?_, fun l hl => ?_⟩
        · rw [List.map_cons, List.map_cons, ← h1]
          congr 1
          show PyData.int i = PyData.int _
          congr 1
          exact (Int.toNat_of_nonneg (by omega)).symm
        · rw [List.map_cons] at hl
          rcases List.mem_cons.mp hl with rfl | hl
          · show 1 ≤ i.toNat ∧ i.toNat ≤ 4
            omega
          · exact h2 l hl
      | _ => have := hc.1; cases this
  · rw [if_neg hc] at h; cases h
theorem lvB_eN {lv : List Nat} (h : ∀ l ∈ lv, 1 ≤ l ∧ l ≤ 4) : lvB (lv.map eN) = some lv := by
  unfold lvB
  rw [if_pos]
  · rw [List.map_map]
    congr 1
    conv => rhs; rw [← List.map_id lv]
    apply List.map_congr_left
    intro l _
    exact Int.toNat_natCast l
  · rw [List.all_eq_true]
    intro d hd
    obtain ⟨l, hl, rfl⟩ := List.mem_map.mp hd
    have := h l hl
    show (decide ((1 : Int) ≤ (l : Int)) && decide ((l : Int) ≤ 4)) = true
    rw [decide_eq_true (by omega), decide_eq_true (by omega)]
    rfl
def isBookB (d : D) : Bool := match d with
  | .tuple xs => (match xs with
    | [a, bs] => (match a with
      | .tuple ls => (decide ((1 : Int) ≤ (ls.length : Int)) && decide ((ls.length : Int) ≤ 6)) && (match lvB ls with
        | none => false
        | some lv => decide (prodN lv ≤ 400) && (match bs with
          | .tuple ms => decide (ms.length ≤ 12) && ms.all fun m => meetingB lv m 1 3
          | _ => false))
      | _ => false)
    | _ => false)
  | _ => false
theorem isBookB_len {xs : List D} (h : (!decide ((xs.length : Int) = 2)) = true) : isBookB (.tuple xs) = false := by
  match xs, h with
  | [], _ => rfl
  | [_], _ => rfl
  | [_, _], h2 => simp at h2
  | _ :: _ :: _ :: _, _ => rfl
theorem isBookB_tt (ls : List D) (bs : D) : isBookB (.tuple [.tuple ls, bs]) = ((decide ((1 : Int) ≤ (ls.length : Int)) && decide ((ls.length : Int) ≤ 6)) && (match lvB ls with
        | none => false
        | some lv => decide (prodN lv ≤ 400) && (match bs with
          | .tuple ms => decide (ms.length ≤ 12) && ms.all fun m => meetingB lv m 1 3
          | _ => false))) := rfl
section
open DM
theorem m_meeting_any {lv : List Nat} {d : D} (h : noDct d = true) (least most : Int) : f_is_meeting [eR lv, d, .int least, .int most] = .rt (.bool (meetingB lv d least most)) := by
  have ht := isi_tuple (nd_of h)
  unfold f_is_meeting
  rw [runD_eq]
  show ofS (g_is_meeting [some (.d (eR lv)), some (.d d), some (.d (.int least)), some (.d (.int most)), none, none]) = _
  unfold g_is_meeting meetingB
  cases d with
  | tuple xs =>
    have hx : noDctA xs = true := by simpa [noDct] using h
    rcases loop_pairs (lv := lv) (T := some (.d (.tuple xs))) (L := some (.d (.int least))) (M := some (.d (.int most))) xs (-1) none (by omega) hx with ⟨p1, l', y', p2⟩ | ⟨p1, p2⟩
    · by_cases h1 : least ≤ (xs.length : Int) <;> by_cases h2 : (xs.length : Int) ≤ most <;>
        simp [ht, h1, h2, p1, p2]
    · by_cases h1 : least ≤ (xs.length : Int) <;> by_cases h2 : (xs.length : Int) ≤ most <;>
        simp [ht, h1, h2, p1, p2]
  | _ => simp [ht]
theorem prodN_snoc (lv : List Nat) (l : Nat) : prodN (lv ++ [l]) = prodN lv * l := by simp [prodN, List.foldl_append]
theorem m_rows_in_any {lv : List Nat} (h : ∀ l ∈ lv, l ≤ 1000) : f_rows_in [eR lv] = .rt (.int ((prodN lv : Nat) : Int)) := by
  have loop : ∃ ρ', forL (tgName 2) g_rows_in_b1 (lv.map eN) [some (.d (eR lv)), some (.d (.int 1)), none] = .nx ρ' ∧ ∃ y, ρ' = [some (.d (eR lv)), some (.d (.int ((prodN lv : Nat) : Int))), y] := by
    refine forL_inv (fun d ρ => ∃ y, ρ = [some (.d (eR lv)), some (.d (.int ((prodN d : Nat) : Int))), y]) lv ?_ ⟨none, rfl⟩
    rintro d l r ρ e ⟨y, rfl⟩
    have hl : l ≤ 1000 := h l (by rw [e]; simp)
    refine ⟨[some (.d (eR lv)), some (.d (.int ((prodN d : Nat) : Int))), some (.d (eN l))], [some (.d (eR lv)), some (.d (.int ((prodN (d ++ [l]) : Nat) : Int))), some (.d (eN l))], by simp, ?_, _, rfl⟩
    have e : mulD (.int ((prodN d : Nat) : Int)) (eN l) = some (.int ((prodN (d ++ [l]) : Nat) : Int)) := (mulD_small (smallI_of (by omega) (by omega))).trans (by rw [prodN_snoc, Int.natCast_mul])
    unfold g_rows_in_b1
    rw [setS_ap, thenS_ap, op2_ap]
    simp only [rdB_ap, List.getElem?_cons_succ, List.getElem?_cons_zero, Res.bind_ok]
    rw [e]
    rfl
  obtain ⟨ρ', h1, y, rfl⟩ := loop
  unfold f_rows_in
  rw [runD_eq]
  show ofS (g_rows_in [some (.d (eR lv)), none, none]) = _
  unfold g_rows_in
  rw [show eR lv = .tuple (lv.map eN) from rfl] at h1 ⊢
  simp [h1]
theorem m_book_any {d : D} (h : noDct d = true) : f_is_book [d] = .rt (.bool (isBookB d)) := by
  have ht := isi_tuple (nd_of h)
  unfold f_is_book
  rw [runD_eq]
  show ofS (g_is_book [some (.d d), none, none, none, none]) = _
  unfold g_is_book
  cases d with
  | tuple xs =>
    rcases len2 xs with h2 | ⟨a, bs, rfl⟩
    · rw [isBookB_len h2]
      simp only [seqS_ap, ifS_ap, thenS_ap, orT_ap, notT_ap, toTru_ap, toB_ap, isiR_ap, cb_ap, op2_ap, asCons_ap, asNil_ap, rdB_ap, kst_ap, retS_ap, List.getElem?_cons_succ, List.getElem?_cons_zero, Res.bind_ok, Res.map_ok, ht, Option.map_some, Res.of_some, truD_bool, Bool.not_true, Bool.false_eq_true, if_false, lenD_tup, neD_int, boolD_bool, h2, if_true, ofS_rt]
    · have hab : noDct a = true ∧ noDct bs = true := by
        simp only [noDct, noDctA, Bool.and_eq_true] at h
        exact ⟨h.1, h.2.1⟩
      have h22 : decide (((2 : Nat) : Int) = 2) = true := rfl
      have hta := isi_tuple (nd_of hab.1)
      have htb := isi_tuple (nd_of hab.2)
      cases a with
      | tuple ls =>
        rw [isBookB_tt]
        have hls : noDctA ls = true := by simpa [noDct] using hab.1
        have e1 := lc_keep (fi := toSeq (rdB 1)) (t := tgName 3) (c := g_is_book_c1) (e := rd 3) (vs := [3]) (ρ := [some (.d (.tuple [.tuple ls, bs])), some (.d (.tuple ls)), some (.d bs), none, none]) (p := fun d => !withinB d 1 4) ls (by simp)
          fun x hx => ⟨[some (.d (.tuple [.tuple ls, bs])), some (.d (.tuple ls)), some (.d bs), some (.d x), none], rfl, by
            have w := m_within (nd_of (noDctA_mem hls x hx)) 1 4
            simp [g_is_book_c1, w], fun _ => rfl⟩
        have hall : (ls.filter fun d => !withinB d 1 4).isEmpty = ls.all fun d => withinB d 1 4 := by rw [filter_isE]; simp
        by_cases h1 : (1 : Int) ≤ (ls.length : Int)
        · by_cases h6 : (ls.length : Int) ≤ 6
          · cases hlv : lvB ls with
            | none =>
              have : (ls.all fun d => withinB d 1 4) = false := by
                unfold lvB at hlv
                cases hc : ls.all fun d => withinB d 1 4 with
                | false => rfl
                | true => rw [if_pos hc] at hlv; cases hlv
              rw [this] at hall
              simp [ht, hta, h1, h6, e1, hall, hlv]
            | some lv =>
              obtain ⟨hlv1, hlv2⟩ := lvB_ok hlv
              have hT : (ls.all fun d => withinB d 1 4) = true := by
                unfold lvB at hlv
                cases hc : ls.all fun d => withinB d 1 4 with
                | true => rfl
                | false => rw [hc, if_neg (by decide)] at hlv; cases hlv
              rw [hT] at hall
              have e3 := m_rows_in_any (lv := lv) fun l hl => by have := (hlv2 l hl).2; omega
              have hls2 : PyData.tuple ls = eR lv := by rw [hlv1]; rfl
              have e3' : f_rows_in [.tuple ls] = .rt (.int ((prodN lv : Nat) : Int)) := by rw [hls2]; exact e3
              by_cases hp : prodN lv ≤ 400
              · have hp' : ¬ (400 < ((prodN lv : Nat) : Int)) := by omega
                cases bs with
                | tuple ms =>
                  have hms : noDctA ms = true := by simpa [noDct] using hab.2
                  have e2 := lc_keep (fi := toSeq (rdB 2)) (t := tgName 4) (c := g_is_book_c2) (e := rd 4) (vs := [4]) (ρ := [some (.d (.tuple [.tuple ls, .tuple ms])), some (.d (.tuple ls)), some (.d (.tuple ms)), none, none]) (p := fun d => !meetingB lv d 1 3) ms (by simp)
                    fun x hx => ⟨[some (.d (.tuple [.tuple ls, .tuple ms])), some (.d (.tuple ls)), some (.d (.tuple ms)), none, some (.d x)], rfl, by
                      have w := m_meeting_any (lv := lv) (noDctA_mem hms x hx) 1 3
                      rw [← hls2] at w
                      simp [g_is_book_c2, w], fun _ => rfl⟩
                  have hall2 : (ms.filter fun d => !meetingB lv d 1 3).isEmpty = ms.all fun d => meetingB lv d 1 3 := by rw [filter_isE]; simp
                  by_cases h12 : ms.length ≤ 12
                  · have h12' : ¬ (12 < (ms.length : Int)) := by omega
                    simp [ht, hta, htb, h1, h6, e1, hall, e3', hp, hp', h12, h12', e2, hall2, hlv]
                  · have h12' : 12 < (ms.length : Int) := by omega
                    simp [ht, hta, htb, h1, h6, e1, hall, e3', hp, hp', h12, h12', hlv]
                | _ => simp [ht, hta, htb, h1, h6, e1, hall, e3', hp, hp', hlv]
              · have hp' : 400 < ((prodN lv : Nat) : Int) := by omega
                simp [ht, hta, h1, h6, e1, hall, e3', hp, hp', hlv]
          · simp [ht, hta, h1, h6]
        · simp [ht, hta, h1]
      | _ =>
        rw [show isBookB (.tuple [_, bs]) = false from rfl]
        simp [ht, hta]
  | _ =>
    rw [show isBookB _ = false from rfl]
    simp [ht]
theorem m_checked_any {d : D} (h : noDct d = true) : f_checked [d] = if isBookB d = true then .rt d else .ex ⟨"BadBook", none⟩ := by
  unfold f_checked
  rw [runD_eq]
  show ofS (g_checked [some (.d d)]) = _
  unfold g_checked raiseS
  cases hb : isBookB d <;> simp [m_book_any h, hb]
end
end DL

/-! The plain part, 36: books that are books. -/
namespace DL
open PySem PySem.Spec PyProof.Rows L2
theorem noDctA_map {α : Type} {f : α → D} (h : ∀ x, noDct (f x) = true) (xs : List α) : noDctA (xs.map f) = true := noDctA_of fun d hd => by
  obtain ⟨x, _, rfl⟩ := List.mem_map.mp hd
  exact h x
theorem noDct_N (n : Nat) : noDct (eN n) = true := rfl
theorem noDct_R (r : List Nat) : noDct (eR r) = true := by show noDctA (r.map eN) = true; exact noDctA_map noDct_N r
theorem noDct_P (p : Nat × Nat) : noDct (eP p) = true := rfl
theorem noDct_M (m : Meet) : noDct (eM m) = true := by show noDctA (m.map eP) = true; exact noDctA_map noDct_P m
theorem noDct_Ms (ms : List Meet) : noDctA (ms.map eM) = true := noDctA_map noDct_M ms
theorem noDct_Rs (ms : List (List Nat)) : noDctA (ms.map eR) = true := noDctA_map noDct_R ms
theorem noDct_B (b : Book) : noDct (eB b) = true := by
  show noDctA [eR b.1, .tuple (b.2.map eM)] = true
  simp [noDctA, noDct_R, noDct, noDct_Ms]
theorem meeting_ok {lv : List Nat} {m : Meet} (h : IsMeet lv m) : meetingB lv (eM m) 1 3 = true := by
  have h1 := m_is_meeting h
  have h2 := m_meeting_any (lv := lv) (noDct_M m) 1 3
  rw [h1] at h2
  injection h2 with h3
  injection h3 with h4
  exact h4.symm
theorem isBook_parts {lv : List Nat} {ms : List D} (l1 : 1 ≤ lv.length) (l6 : lv.length ≤ 6) (hl : ∀ l ∈ lv, 1 ≤ l ∧ l ≤ 4) (hp : prodN lv ≤ 400) : isBookB (.tuple [eR lv, .tuple ms]) = (decide (ms.length ≤ 12) && ms.all fun m => meetingB lv m 1 3) := by
  show isBookB (.tuple [.tuple (lv.map eN), .tuple ms]) = _
  rw [isBookB_tt, lvB_eN hl, List.length_map]
  have a : (1 : Int) ≤ (lv.length : Int) := by omega
  have b : (lv.length : Int) ≤ 6 := by omega
  simp [a, b, hp]
theorem isBook_big {lv : List Nat} {bs : D} (h : prodN lv > 400 ∨ (∃ l ∈ lv, 4 < l) ∨ 6 < lv.length) : isBookB (.tuple [eR lv, bs]) = false := by
  show isBookB (.tuple [.tuple (lv.map eN), bs]) = _
  rw [isBookB_tt, List.length_map]
  by_cases hl : (((lv.map eN).all fun d => withinB d 1 4) = true)
  · have hb : ∀ l ∈ lv, 1 ≤ l ∧ l ≤ 4 := fun l hl' => by
      have := List.all_eq_true.mp hl (eN l) (List.mem_map.mpr ⟨l, hl', rfl⟩)
      have w : (decide ((1 : Int) ≤ (l : Int)) && decide ((l : Int) ≤ 4)) = true := this
      rw [Bool.and_eq_true] at w
      have w1 := of_decide_eq_true w.1
      have w2 := of_decide_eq_true w.2
      omega
    rw [lvB_eN hb]
    rcases h with h | ⟨l, hm, h⟩ | h
    · have : decide (prodN lv ≤ 400) = false := decide_eq_false (by omega)
      simp [this]
    · have := (hb l hm).2; omega
    · have : decide ((lv.length : Int) ≤ 6) = false := decide_eq_false (by omega)
      simp [this]
  · have : lvB (lv.map eN) = none := by unfold lvB; rw [if_neg hl]
    rw [this]
    simp
theorem prodN_cons (l : Nat) (lv : List Nat) : prodN (l :: lv) = l * prodN lv := by
  have : ∀ (xs : List Nat) (a : Nat), xs.foldl (· * ·) a = a * xs.foldl (· * ·) 1 := by
    intro xs
    induction xs with
    | nil => simp
    | cons x xs ih => intro a; rw [List.foldl_cons, List.foldl_cons, ih (a * x), ih (1 * x)]; simp [Nat.mul_assoc]
  unfold prodN
  rw [List.foldl_cons, this]
  simp
theorem prodN_le {k : Nat} : ∀ {lv : List Nat}, (∀ l ∈ lv, l ≤ k) → prodN lv ≤ k ^ lv.length
  | [], _ => by simp [prodN]
  | l :: lv, h => by
    rw [prodN_cons, List.length_cons, Nat.pow_succ, Nat.mul_comm]
    exact Nat.mul_le_mul (prodN_le fun x hx => h x (by simp [hx])) (h l (by simp))
theorem wl_prod {lv : List Nat} (h : WL lv) : prodN lv ≤ 81 := by
  have h1 := prodN_le (k := 3) (lv := lv) fun l hl => (h.lev l hl).2
  have h2 : 3 ^ lv.length ≤ 3 ^ 4 := Nat.pow_le_pow_right (by decide) h.hi
  omega
theorem wf_isBook {b : Book} (h : WF b) : isBookB (eB b) = true := by
  show isBookB (.tuple [eR b.1, .tuple (b.2.map eM)]) = true
  rw [isBook_parts h.wl.lo (by have := h.wl.hi; omega) (fun l hl => ⟨(h.wl.lev l hl).1, by have := (h.wl.lev l hl).2; omega⟩) (by have := wl_prod h.wl; omega), List.length_map, decide_eq_true (by have := h.bans; omega), Bool.true_and, List.all_eq_true]
  intro d hd
  obtain ⟨m, hm, rfl⟩ := List.mem_map.mp hd
  exact meeting_ok (h.ban m hm)
section
open DM
theorem m_look_strength_any {b : Book} (h : WF b) {d : D} (hd : noDct d = true) : f_look_strength [eB b, d] = if withinB d 1 (if (b.1.length : Int) < 3 then (b.1.length : Int) else 3) = true then .rt .none else .ex ⟨"BadStrength", none⟩ := by
  have w := m_within (nd_of hd) 1 (if (b.1.length : Int) < 3 then (b.1.length : Int) else 3)
  have hl : ixD (eB b) (.int 0) = some (eR b.1) := by simp [eB]
  have hl2 : lenD [eR b.1] = some (.int (b.1.length : Int)) := by simp [eR]
  unfold f_look_strength
  rw [runD_eq]
  show ofS (g_look_strength [some (.d (eB b)), some (.d d)]) = _
  unfold g_look_strength raiseS
  cases hb : withinB d 1 (if (b.1.length : Int) < 3 then (b.1.length : Int) else 3) with
  | true =>
    rw [hb] at w
    simp only [seqS_ap, dropS_ap, ifS_ap, thenS_ap, notT_ap, toTru_ap, callR_ap, cb_ap, op2_ap, asCons_ap, asNil_ap, rd_ap, rdB_ap, kst_ap, List.getElem?_cons_succ, List.getElem?_cons_zero, Res.bind_ok, Res.map_ok, List.length_cons, List.length_nil, Nat.zero_add, Nat.reduceAdd, if_true, m_checked h, res_rt, hl, hl2, Res.of_some, minD_int, w, truD_bool, Bool.not_true, Bool.false_eq_true, if_false, ofS_nx]
  | false =>
    rw [hb] at w
    simp only [seqS_ap, dropS_ap, ifS_ap, thenS_ap, notT_ap, toTru_ap, callR_ap, cb_ap, op2_ap, asCons_ap, asNil_ap, rd_ap, rdB_ap, kst_ap, List.getElem?_cons_succ, List.getElem?_cons_zero, Res.bind_ok, Res.map_ok, List.length_cons, List.length_nil, Nat.zero_add, Nat.reduceAdd, if_true, m_checked h, res_rt, hl, hl2, Res.of_some, minD_int, w, truD_bool, Bool.not_false, Bool.false_eq_true, if_false, ofS_ex]
end
end DL

/-! The plain part, 37: results that are none; the blurred lists. -/
namespace DL
open PySem PySem.Spec PyProof.Rows L2
theorem gtD_int (i j : Int) : gtD (.int i) (.int j) = some (.bool (decide (j < i))) := rfl
def isBoolD : D → Bool
  | .bool _ => true
  | _ => false
/-- so many results -/
def resB (n : Nat) (d : D) : Bool := match d with
  | .list xs => decide (xs.length = n) && xs.all isBoolD
  | _ => false
section
open DM
variable {b : Book} {s : Nat}
theorem m_look_results_any (h : WF b) (s1 : 1 ≤ s) (s3 : s ≤ 3) (sl : s ≤ b.1.length) {ts : List (List Nat)} (ht : ∀ t ∈ ts, t ∈ tests b) {d : D} (hd : noDct d = true) : f_look_results [eB b, .int (s : Int), .list (ts.map eR), d] = if resB ts.length d = true then .rt .none else .ex ⟨"BadResults", none⟩ := by
  unfold f_look_results
  rw [runD_eq]
  show ofS (g_look_results [some (.d (eB b)), some (.d (.int (s : Int))), some (.d (.list (ts.map eR))), some (.d d), none]) = _
  unfold g_look_results raiseS
  have i0 := isi_list (nd_of hd)
  by_cases hl : ∃ xs, d = .list xs
  · obtain ⟨xs, rfl⟩ := hl
    have hx : noDctA xs = true := hd
    have e := lc_keep (fi := toSeq (rdB 3)) (t := tgName 4) (c := g_look_results_c1) (e := rd 4) (vs := [4]) (ρ := [some (.d (eB b)), some (.d (.int (s : Int))), some (.d (.list (ts.map eR))), some (.d (.list xs)), none]) (p := fun x => !isBoolD x) xs rfl
      fun x hx' => ⟨[some (.d (eB b)), some (.d (.int (s : Int))), some (.d (.list (ts.map eR))), some (.d (.list xs)), some (.d x)], rfl, by
        have i := isi_bool (nd_of (noDctA_mem hx x hx'))
        unfold g_look_results_c1
        simp only [notT_ap, toTru_ap, isiR_ap, rdB_ap, List.getElem?_cons_succ, List.getElem?_cons_zero, Res.bind_ok, i, Option.map_some, Res.of_some, truD_bool, Res.map_ok]
        cases x <;> rfl, fun _ => rfl⟩
    have hl1 : lenD [.list (ts.map eR)] = some (.int (ts.length : Int)) := by rw [lenD_list, List.length_map]
    have hl2 : lenD [.list xs] = some (.int (xs.length : Int)) := lenD_list _
    have hn : truD (.list (xs.filter fun x => !isBoolD x)) = some (!xs.all isBoolD) := by
      rw [truD_list, filter_isE]
      simp
    have hq : decide ((xs.length : Int) = (ts.length : Int)) = decide (xs.length = ts.length) := decide_eq_decide.mpr ⟨fun z => by omega, fun z => by omega⟩
    unfold resB
    cases hc : decide (xs.length = ts.length) with
    | false =>
      simp only [seqS_ap, dropS_ap, ifS_ap, thenS_ap, orT_ap, notT_ap, toTru_ap, toB_ap, isiR_ap, cb_ap, op2_ap, frz_ap, callR_ap, asCons_ap, asNil_ap, rd_ap, rdB_ap, List.getElem?_cons_succ, List.getElem?_cons_zero, Res.bind_ok, Res.map_ok, List.length_cons, List.length_nil, Nat.zero_add, Nat.reduceAdd, if_true, m_look_strength h s1 s3 sl, m_look_tests h ht, res_rt, i0, Option.map_some, Res.of_some, truD_bool, Bool.not_true, Bool.false_eq_true, if_false, hl1, hl2, neD_int, boolD_bool, hq, hc, Bool.not_false, if_true, Bool.false_and, ofS_ex]
    | true =>
      simp only [seqS_ap, dropS_ap, ifS_ap, thenS_ap, orT_ap, notT_ap, toTru_ap, toB_ap, isiR_ap, cb_ap, op2_ap, frz_ap, callR_ap, asCons_ap, asNil_ap, rd_ap, rdB_ap, List.getElem?_cons_succ, List.getElem?_cons_zero, Res.bind_ok, Res.map_ok, List.length_cons, List.length_nil, Nat.zero_add, Nat.reduceAdd, if_true, m_look_strength h s1 s3 sl, m_look_tests h ht, res_rt, i0, Option.map_some, Res.of_some, truD_bool, Bool.not_true, Bool.false_eq_true, if_false, hl1, hl2, neD_int, boolD_bool, hq, hc, e, hn, Bool.true_and]
      cases xs.all isBoolD <;> rfl
  · have i1 : isiD "list" d = some false := by
      rw [i0]
      cases d <;> first | rfl | exact absurd ⟨_, rfl⟩ hl
    have r : resB ts.length d = false := by cases d <;> first | rfl | exact absurd ⟨_, rfl⟩ hl
    simp only [seqS_ap, dropS_ap, ifS_ap, thenS_ap, orT_ap, notT_ap, toTru_ap, isiR_ap, callR_ap, asCons_ap, asNil_ap, rd_ap, rdB_ap, List.getElem?_cons_succ, List.getElem?_cons_zero, Res.bind_ok, Res.map_ok, List.length_cons, List.length_nil, Nat.zero_add, Nat.reduceAdd, if_true, m_look_strength h s1 s3 sl, m_look_tests h ht, res_rt, i1, Option.map_some, Res.of_some, truD_bool, Bool.not_false, r, Bool.false_eq_true, if_false, ofS_ex]
theorem m_suspects_bad (h : WF b) (s1 : 1 ≤ s) (s3 : s ≤ 3) (sl : s ≤ b.1.length) {ts : List (List Nat)} (ht : ∀ t ∈ ts, t ∈ tests b) {d : D} (hd : noDct d = true) (hb : resB ts.length d = false) : f_suspects [eB b, .int (s : Int), .list (ts.map eR), d] = .ex ⟨"BadResults", none⟩ := by
  have e := m_look_results_any h s1 s3 sl ht hd
  rw [hb] at e
  unfold f_suspects
  rw [runD_eq]
  show ofS (g_suspects [some (.d (eB b)), some (.d (.int (s : Int))), some (.d (.list (ts.map eR))), some (.d d)]) = _
  unfold g_suspects
  simp only [seqS_ap, dropS_ap, thenS_ap, callR_ap, asCons_ap, asNil_ap, rd_ap, List.getElem?_cons_succ, List.getElem?_cons_zero, Res.bind_ok, Res.map_ok, List.length_cons, List.length_nil, Nat.zero_add, Nat.reduceAdd, if_true, e, Bool.false_eq_true, if_false, res_ex, ofS_ex]
theorem m_next_bad (h : WF b) (s1 : 1 ≤ s) (s3 : s ≤ 3) (sl : s ≤ b.1.length) {ts : List (List Nat)} (ht : ∀ t ∈ ts, t ∈ tests b) {d : D} (hd : noDct d = true) (hb : resB ts.length d = false) : f_next_test [eB b, .int (s : Int), .list (ts.map eR), d] = .ex ⟨"BadResults", none⟩ := by
  have e := m_suspects_bad h s1 s3 sl ht hd hb
  unfold f_next_test
  rw [runD_eq]
  show ofS (g_next_test [some (.d (eB b)), some (.d (.int (s : Int))), some (.d (.list (ts.map eR))), some (.d d), none, none, none, none, none, none]) = _
  unfold g_next_test
  simp only [seqS_ap, setS_ap, thenS_ap, callR_ap, asCons_ap, asNil_ap, rd_ap, List.getElem?_cons_succ, List.getElem?_cons_zero, Res.bind_ok, Res.map_ok, List.length_cons, List.length_nil, Nat.zero_add, Nat.reduceAdd, if_true, e, res_ex]
  rfl
end
/-! ### the blurred lists -/
def eMs (ms : List Meet) : D := .list (ms.map eM)
def grpS (ts : List (List Nat)) (cs : List (List Bool × List Meet)) (m : Meet) : List (List Bool × List Meet) := putE cs (resM ts m) ((valE cs (resM ts m)).getD [] ++ [m])
def grpM (ts : List (List Nat)) (ms : List Meet) : List (List Bool × List Meet) := ms.foldl (grpS ts) []
theorem grpM_app (ts : List (List Nat)) (ms : List Meet) (m : Meet) : grpM ts (ms ++ [m]) = grpS ts (grpM ts ms) m := by simp [grpM, List.foldl_append]
theorem grpM_len (ts : List (List Nat)) (ms : List Meet) : (grpM ts ms).length ≤ ms.length := by
  suffices h : ∀ (ms : List Meet) (cs : List (List Bool × List Meet)), (ms.foldl (grpS ts) cs).length ≤ cs.length + ms.length by have := h ms []; simpa [grpM] using this
  intro ms
  induction ms with
  | nil => intro cs; simp
  | cons m ms ih =>
    intro cs
    rw [List.foldl_cons, List.length_cons]
    have := ih (grpS ts cs m)
    have := putE_len cs (resM ts m) ((valE cs (resM ts m)).getD [] ++ [m])
    unfold grpS at *
    omega
theorem grpM_val (ts : List (List Nat)) (ms : List Meet) : ∀ c ∈ grpM ts ms, c.2.length ≤ ms.length := by
  suffices h : ∀ (ms : List Meet) (cs : List (List Bool × List Meet)) (n : Nat), (∀ c ∈ cs, c.2.length ≤ n) → ∀ c ∈ ms.foldl (grpS ts) cs, c.2.length ≤ n + ms.length by
    have := h ms [] 0 (fun c hc => by cases hc)
    simpa [grpM] using this
  intro ms
  induction ms with
  | nil => intro cs n hn c hc; exact Nat.le_trans (hn c hc) (by simp)
  | cons m ms ih =>
    intro cs n hn c hc
    rw [List.foldl_cons] at hc
    have := ih (grpS ts cs m) (n + 1) (fun c hc => by
      rcases putE_mem hc with rfl | ⟨hc, _⟩
      · show (_ ++ _ : List Meet).length ≤ _
        rw [List.length_append]
        cases hv : valE cs (resM ts m) with
        | none => simp
        | some v =>
          have := hn _ (valE_mem hv)
          simp at this ⊢
          omega
      · have := hn c hc; omega) c hc
    rw [List.length_cons]
    omega
theorem val_len (ts : List (List Nat)) (ms : List Meet) (k : List Bool) : ((valE (grpM ts ms) k).getD []).length ≤ ms.length := by
  cases hv : valE (grpM ts ms) k with
  | none => simp
  | some v => exact grpM_val ts ms _ (valE_mem hv)
/-- the lists of two and more, as data, unsorted -/
def manyL (ts : List (List Nat)) (ms : List Meet) : List (List Meet) := ((grpM ts ms).filter fun c => decide (1 < ((valE (grpM ts ms) c.1).getD []).length)).map fun c => (valE (grpM ts ms) c.1).getD []
def blurD (ts : List (List Nat)) (ms : List Meet) : List D := ((manyL ts ms).map eMs).mergeSort dle
theorem nmMs' (ms : List Meet) : Nm 3 (eMs ms) := nmMs ms
theorem alike_MM : ∀ a b : List Meet, PySem.W.alikeAll (a.map eM) (b.map eM) = true
  | [], _ => by simp [PySem.W.alikeAll]
  | _ :: _, [] => by simp [PySem.W.alikeAll]
  | p :: a, q :: b => by
    have := alike_Ms p q
    simp only [List.map_cons, PySem.W.alikeAll, alike_MM a b, Bool.and_true]
    simpa [eM, PySem.W.alike] using this
theorem sorted_MMs (xs : List (List Meet)) : sortedD [.list (xs.map eMs)] = some ((xs.map eMs).mergeSort dle) := by
  have e : sortedD [.list (xs.map eMs)] = if (allLike (xs.map eMs) && sortsD (xs.map eMs) && (xs.map eMs).all fun d => decide (d.depth ≤ 60)) = true then some ((xs.map eMs).mergeSort dle) else none := rfl
  have h1 : allLike (xs.map eMs) = true := by
    unfold allLike
    simp only [List.all_eq_true, List.mem_map, forall_exists_index, and_imp, forall_apply_eq_imp_iff₂]
    intro a _ b _
    simpa [eMs, PySem.W.alike] using alike_MM a b
  have h2 : sortsD (xs.map eMs) = true := by
    unfold sortsD
    rw [Bool.or_eq_true]
    right
    simp only [List.all_eq_true, List.mem_map, forall_exists_index, and_imp, forall_apply_eq_imp_iff₂]
    intro a _
    rfl
  have h3 : ((xs.map eMs).all fun d => decide (d.depth ≤ 60)) = true := by
    simp only [List.all_eq_true, List.mem_map, forall_exists_index, and_imp, forall_apply_eq_imp_iff₂]
    intro a _
    exact decide_eq_true (Nat.le_trans (nmMs' a).2 (by decide))
  rw [e, h1, h2, h3]
  simp only [Bool.and_self, if_true]
theorem nm_blur (ts : List (List Nat)) (ms : List Meet) : Nm 4 (.list (blurD ts ms)) := .list fun x hx => by
  have hx := List.mem_mergeSort.mp hx
  obtain ⟨m, _, rfl⟩ := List.mem_map.mp hx
  exact nmMs' m
theorem eqBlur (ts : List (List Nat)) (ms : List Meet) : eqD (.list (blurD ts ms)) (.list (blurD ts ms)) = some (.bool true) := eq_same (nm_blur ts ms) (by decide)
section
open DM
theorem dput_grp {i : Nat} {ρ : Rho} {ts : List (List Nat)} {ms : List Meet} {m : Meet} {fk fv : Rho → Res D} (h : ρ[i]? = some (some (.dct ((grpM ts ms).map (encE eBk eMs))))) (hk : fk ρ = .ok (eBk (resM ts m))) (hm : fv ρ = .ok (.list [eM m])) (hz : ms.length ≤ 1000) :
    dputS i fk (op2 addD (dgetR i fk (frz (disp asNil))) fv) ρ = .nx (ρ.set i (some (.dct ((grpM ts (ms ++ [m])).map (encE eBk eMs))))) := by
  have hg := get_enc (ev := eMs) keyB (grpM ts ms) (resM ts m)
  have hp := put_enc (ev := eMs) keyB (grpM ts ms) (resM ts m) ((valE (grpM ts ms) (resM ts m)).getD [] ++ [m])
  have sz := sizeLine_big
  have hgd : (getK ((grpM ts ms).map (encE eBk eMs)) (eBk (resM ts m))).getD (.list []) = eMs ((valE (grpM ts ms) (resM ts m)).getD []) := by
    rw [hg]
    cases valE (grpM ts ms) (resM ts m) <;> rfl
  have hln : ((grpM ts ms).map (encE eBk eMs)).length < sizeLine := by rw [List.length_map]; have := grpM_len ts ms; omega
  have hla := val_len ts ms (resM ts m)
  have had : addD (eMs ((valE (grpM ts ms) (resM ts m)).getD [])) (.list [eM m]) = some (eMs ((valE (grpM ts ms) (resM ts m)).getD [] ++ [m])) := by
    show (if _ then some (PyData.list (((valE (grpM ts ms) (resM ts m)).getD []).map eM ++ [eM m])) else none) = _
    rw [if_pos (by rw [List.length_map]; show _ + 1 ≤ _; omega)]
    simp [eMs]
  rw [dputS_at (kvs := (grpM ts ms).map (encE eBk eMs)) (k := eBk (resM ts m)) (v := eMs ((valE (grpM ts ms) (resM ts m)).getD [] ++ [m])) h ?_ hk (keyB.ok _) hln, hp, grpM_app]
  · rfl
  · unfold dgetR
    rw [op2_ap, dctR_dct (kvs := (grpM ts ms).map (encE eBk eMs)) _ h]
    simp only [hk, hm, frz_ap, disp_ap, asNil_ap, Res.bind_ok, Res.map_ok, List.length_nil, Nat.zero_le, keyB.ok, if_true, hgd, had, Res.of_some]
theorem dget_grp {i : Nat} {ρ : Rho} {ts : List (List Nat)} {ms : List Meet} {c : List Bool × List Meet} (hc : c ∈ grpM ts ms) {fk : Rho → Res D} (h : ρ[i]? = some (some (.dct ((grpM ts ms).map (encE eBk eMs))))) (hk : fk ρ = .ok (eBk c.1)) :
    dgetIR i fk ρ = .ok (eMs ((valE (grpM ts ms) c.1).getD [])) := by
  obtain ⟨v, hv⟩ := valE_has hc
  have hg := get_enc (ev := eMs) keyB (grpM ts ms) c.1
  rw [hv] at hg
  unfold dgetIR
  rw [dctR_dct (kvs := (grpM ts ms).map (encE eBk eMs)) _ h]
  simp only [hk, Res.bind_ok, keyB.ok, if_true, hg, hv, Option.map_some, Option.getD_some, Res.of_some]
variable {b : Book} {s : Nat}
theorem blur_b1 {z0 z1 z4 z5 : Option B} {ts : List (List Nat)} {ms : List Meet} {m : Meet} (q : f_results_by [eM m, .list (ts.map eR)] = .ro ((resM ts m).map PyData.bool)) (hz : ms.length ≤ 1000) :
    g_blurred_b1 [z0, z1, some (.d (.list (ts.map eR))), some (.dct ((grpM ts ms).map (encE eBk eMs))), some (.d (eM m)), z5] = .nx [z0, z1, some (.d (.list (ts.map eR))), some (.dct ((grpM ts (ms ++ [m])).map (encE eBk eMs))), some (.d (eM m)), some (.d (eBk (resM ts m)))] := by
  unfold g_blurred_b1
  simp only [seqS_ap, setS_ap, thenS_ap, cb_ap, callR_ap, asCons_ap, asNil_ap, rd_ap, List.getElem?_cons_succ, List.getElem?_cons_zero, Res.bind_ok, Res.map_ok, List.length_cons, List.length_nil, Nat.zero_add, Nat.reduceAdd, if_true, q, res_ro, toTupD_list, Res.of_some, List.set_cons_succ, List.set_cons_zero]
  rw [show PyData.tuple ((resM ts m).map PyData.bool) = eBk (resM ts m) from rfl]
  rw [dput_grp (m := m) rfl rfl rfl hz]
  rfl
theorem m_blurred (h : WF b) (s1 : 1 ≤ s) (s3 : s ≤ 3) (sl : s ≤ b.1.length) {ts : List (List Nat)} (ht : ∀ t ∈ ts, t ∈ tests b) (hl : ts.length ≤ 10000) : f_blurred [eB b, .int (s : Int), .list (ts.map eR)] = .ro (blurD ts (poss b s)) := by
  have hf := fit_of h s1 s3 ht hl
  obtain ⟨ρ', w1, y4, y5, rfl⟩ : ∃ ρ', forL (tgName 4) g_blurred_b1 ((poss b s).map eM) [some (.d (eB b)), some (.d (.int (s : Int))), some (.d (.list (ts.map eR))), some (.dct []), none, none] = .nx ρ' ∧
      ∃ y4 y5, ρ' = [some (.d (eB b)), some (.d (.int (s : Int))), some (.d (.list (ts.map eR))), some (.dct ((grpM ts (poss b s)).map (encE eBk eMs))), y4, y5] := by
    refine forL_inv (fun d ρ => ∃ y4 y5, ρ = [some (.d (eB b)), some (.d (.int (s : Int))), some (.d (.list (ts.map eR))), some (.dct ((grpM ts d).map (encE eBk eMs))), y4, y5]) (poss b s) ?_ ⟨none, none, rfl⟩
    rintro d m r ρ e ⟨y4, y5, rfl⟩
    have hm : m ∈ poss b s := by rw [e]; simp
    have hd : d.length ≤ 200 := by have := hf.few; rw [e, List.length_append] at this; omega
    have q := m_results_by (m := m) (ts := ts) ⟨hf.len, fun x hx => by rw [List.mem_singleton.mp hx]; exact hf.lt m hm, by simp, hl⟩
    exact ⟨_, _, rfl, blur_b1 (z0 := some (.d (eB b))) (z1 := some (.d (.int (s : Int)))) (z4 := none) (z5 := y5) q (by omega), _, _, rfl⟩
  have hkeys := lc_map (fi := keysR 3) (t := tgName 5) (c := g_blurred_c1) (e := g_blurred_e1) (vs := [5]) (ρ := [some (.d (eB b)), some (.d (.int (s : Int))), some (.d (.list (ts.map eR))), some (.dct ((grpM ts (poss b s)).map (encE eBk eMs))), y4, y5]) (enc := fun c : List Bool × List Meet => eBk c.1) (p := fun c => decide (1 < ((valE (grpM ts (poss b s)) c.1).getD []).length)) (g := fun c => eMs ((valE (grpM ts (poss b s)) c.1).getD [])) (grpM ts (poss b s))
    (by unfold keysR; rw [dctR_dct (kvs := (grpM ts (poss b s)).map (encE eBk eMs)) _ rfl, List.map_map]; rfl) fun c hc => by
      have q := dget_grp (i := 3) (ρ := [some (.d (eB b)), some (.d (.int (s : Int))), some (.d (.list (ts.map eR))), some (.dct ((grpM ts (poss b s)).map (encE eBk eMs))), y4, some (.d (eBk c.1))]) (fk := rd 5) hc rfl rfl
      refine ⟨[some (.d (eB b)), some (.d (.int (s : Int))), some (.d (.list (ts.map eR))), some (.dct ((grpM ts (poss b s)).map (encE eBk eMs))), y4, some (.d (eBk c.1))], rfl, ?_, fun _ => q⟩
      unfold g_blurred_c1
      have hn : lenD [eMs ((valE (grpM ts (poss b s)) c.1).getD [])] = some (.int (((valE (grpM ts (poss b s)) c.1).getD []).length : Int)) := by unfold eMs; rw [lenD_list, List.length_map]
      simp only [toB_ap, op2_ap, cb_ap, asCons_ap, asNil_ap, kst_ap, q, Res.bind_ok, Res.map_ok, hn, Res.of_some, gtD_int, boolD_bool]
      congr 1
      exact decide_eq_decide.mpr ⟨fun z => by omega, fun z => by omega⟩
  have hp : f_possible_of [eB b, .int (s : Int)] = .ro ((poss b s).map eM) := m_possible_of h s1 s3
  have hs := sorted_MMs (manyL ts (poss b s))
  have hk2 : ((grpM ts (poss b s)).filter fun c => decide (1 < ((valE (grpM ts (poss b s)) c.1).getD []).length)).map (fun c => eMs ((valE (grpM ts (poss b s)) c.1).getD [])) = (manyL ts (poss b s)).map eMs := by
    unfold manyL
    rw [List.map_map]
    rfl
  rw [hk2] at hkeys
  unfold f_blurred
  rw [runD_eq]
  show ofS (g_blurred [some (.d (eB b)), some (.d (.int (s : Int))), some (.d (.list (ts.map eR))), none, none, none]) = _
  unfold g_blurred
  simp only [seqS_ap, dropS_ap, dnewS_ap, forS_ap, retO_ap, thenS_ap, toSeq_ap, cb_ap, frz_ap, callR_ap, asCons_ap, asNil_ap, rd_ap, List.getElem?_cons_succ, List.getElem?_cons_zero, Res.bind_ok, Res.map_ok, List.length_cons, List.length_nil, Nat.zero_add, Nat.reduceAdd, if_true, m_look_strength h s1 s3 sl, m_look_tests h ht, res_rt, res_ro, List.set_cons_succ, List.set_cons_zero, hp, seqOf_list, Res.of_some, w1, hkeys, hs, ofS_ro]
  rfl
end
end DL

/-! The plain part, 38: what no test parts; the blurred list of a meeting. -/
namespace DL
open PySem PySem.Spec PyProof.Rows L2
theorem step_some {ms : List Meet} {ev : List (List Nat)} {q : Nat × List Nat} : (ev.foldl (nextStep ms) (some q)) ≠ none := by
  induction ev generalizing q with
  | nil => simp
  | cons t ev ih =>
    rw [List.foldl_cons]
    unfold nextStep
    split
    · exact ih
    · exact ih
theorem next_none {ms : List Meet} {ev : List (List Nat)} (h : nextM ev ms = none) : ∀ t ∈ ev, ¬ (max (newsM ms t) (ms.length - newsM ms t) < ms.length) := by
  unfold nextM at h
  induction ev with
  | nil => intro t ht; cases ht
  | cons t ev ih =>
    rw [List.foldl_cons] at h
    have hs : nextStep ms none t = none := by
      cases hq : nextStep ms none t with
      | none => rfl
      | some q => rw [hq] at h; exact absurd h step_some
    intro t' ht'
    rcases List.mem_cons.mp ht' with rfl | ht'
    · intro hlt
      unfold nextStep at hs
      rw [if_pos ⟨hlt, fun q z => by cases z⟩] at hs
      cases hs
    · rw [hs] at h
      exact ih h t' ht'
theorem news_alike {ms : List Meet} {t : List Nat} (h : ¬ (max (newsM ms t) (ms.length - newsM ms t) < ms.length)) {m m' : Meet} (hm : m ∈ ms) (hm' : m' ∈ ms) : meets t m = meets t m' := by
  have hle : newsM ms t ≤ ms.length := List.length_filter_le _ _
  have : newsM ms t = ms.length ∨ newsM ms t = 0 := by omega
  rcases this with e | e
  · have := List.length_filter_eq_length_iff.mp e
    rw [this m hm, this m' hm']
  · have e : (ms.filter fun m => meets t m) = [] := List.length_eq_zero_iff.mp e
    have := List.filter_eq_nil_iff.mp e
    have h1 := this m hm
    have h2 := this m' hm'
    rw [Bool.not_eq_true] at h1 h2
    rw [h1, h2]
theorem resM_eq {ts : List (List Nat)} {m m' : Meet} : resM ts m = resM ts m' ↔ ∀ t ∈ ts, meets t m = meets t m' := by
  unfold resM
  constructor
  · intro h t ht
    have := List.map_inj_left.mp h t ht
    simpa using this
  · intro h
    exact List.map_congr_left fun t ht => by rw [h t ht]
/-- suspects that no test parts are a class of all tests -/
theorem susp_class {b : Book} {s : Nat} {ts : List (List Nat)} {one : Meet} (ht : ∀ t ∈ ts, t ∈ tests b) (ho : one ∈ poss b s) (hn : nextM (tests b) (suspM b s ts (resM ts one)) = none) : suspM b s ts (resM ts one) = (poss b s).filter fun m => decide (resM (tests b) m = resM (tests b) one) := by
  have hin : one ∈ suspM b s ts (resM ts one) := List.mem_filter.mpr ⟨ho, by simp⟩
  have hp := next_none hn
  refine List.filter_congr fun m hm => ?_
  rw [decide_eq_decide]
  constructor
  · intro h
    exact resM_eq.mpr fun t htt => news_alike (hp t htt) (List.mem_filter.mpr ⟨hm, by simpa using h⟩) hin
  · intro h
    exact resM_eq.mpr fun t htt => resM_eq.mp h t (ht t htt)
section
variable {κ α : Type} [DecidableEq κ]
theorem valE_put (cs : List (κ × α)) (k k' : κ) (v : α) : valE (putE cs k v) k' = if k = k' then some v else valE cs k' := by
  unfold putE
  by_cases hh : (cs.any fun c => decide (c.1 = k)) = true
  · rw [if_pos hh]
    unfold valE
    induction cs with
    | nil => simp at hh
    | cons c cs ih =>
      rw [List.map_cons, List.find?_cons, List.find?_cons]
      by_cases hc : c.1 = k
      · rw [if_pos hc]
        by_cases hk : k = k'
        · rw [if_pos hk]
          have : decide ((c.1, v).1 = k') = true := decide_eq_true (by show c.1 = k'; rw [hc, hk])
          rw [this]
          rfl
        · rw [if_neg hk]
          have h1 : decide ((c.1, v).1 = k') = false := decide_eq_false (by show ¬ c.1 = k'; rw [hc]; exact hk)
          have h2 : decide (c.1 = k') = false := h1
          rw [h1]
          by_cases hh2 : (cs.any fun c => decide (c.1 = k)) = true
          · have := ih hh2
            rw [if_neg hk] at this
            exact this
          · have : cs.map (fun c => if c.1 = k then (c.1, v) else c) = cs := by
              conv => rhs; rw [← List.map_id' cs]
              refine List.map_congr_left fun x hx => ?_
              rw [if_neg fun z => hh2 (List.any_eq_true.mpr ⟨x, hx, decide_eq_true z⟩)]
            rw [this]
      · rw [if_neg hc]
        have hh2 : (cs.any fun c => decide (c.1 = k)) = true := by
          rw [List.any_cons, decide_eq_false hc, Bool.false_or] at hh
          exact hh
        have := ih hh2
        cases hd : decide (c.1 = k') with
        | true =>
          have e : c.1 = k' := of_decide_eq_true hd
          have hk : ¬ k = k' := fun z => hc (by rw [e, z])
          rw [if_neg hk]
        | false => exact this
  · rw [if_neg hh]
    unfold valE
    rw [List.find?_append]
    by_cases hk : k = k'
    · subst hk
      have : cs.find? (fun c => decide (c.1 = k)) = none := List.find?_eq_none.mpr fun x hx hd => hh (List.any_eq_true.mpr ⟨x, hx, hd⟩)
      rw [this, if_pos rfl]
      simp
    · rw [if_neg hk]
      cases cs.find? fun c => decide (c.1 = k') with
      | none => simp [hk]
      | some c => rfl
end
theorem grp_val (ts : List (List Nat)) (ms : List Meet) (k : List Bool) : (valE (grpM ts ms) k).getD [] = ms.filter fun m => decide (resM ts m = k) := by
  suffices h : ∀ n : Nat, ∀ ms : List Meet, ms.length = n → (valE (grpM ts ms) k).getD [] = ms.filter fun m => decide (resM ts m = k) from h _ ms rfl
  intro n
  induction n with
  | zero =>
    intro ms hl
    rw [List.length_eq_zero_iff.mp hl]
    rfl
  | succ n ih =>
    intro ms hl
    have hne : ms ≠ [] := fun z => by rw [z] at hl; cases hl
    obtain ⟨ms', m, rfl⟩ : ∃ ms' m, ms = ms' ++ [m] := ⟨ms.dropLast, ms.getLast hne, (List.dropLast_concat_getLast hne).symm⟩
    rw [List.length_append, List.length_singleton] at hl
    have i := ih ms' (by omega)
    rw [grpM_app]
    unfold grpS
    rw [valE_put, List.filter_append]
    by_cases hk : resM ts m = k
    · rw [if_pos hk, hk, Option.getD_some, i]
      simp [hk]
    · rw [if_neg hk, i]
      simp [hk]
/-- a class of two and more is among the blurred lists -/
theorem blur_has {ts : List (List Nat)} {ms : List Meet} {one : Meet} (h2 : 1 < (ms.filter fun m => decide (resM ts m = resM ts one)).length) : eMs (ms.filter fun m => decide (resM ts m = resM ts one)) ∈ blurD ts ms := by
  unfold blurD
  rw [List.mem_mergeSort]
  have hg := grp_val ts ms (resM ts one)
  cases hv : valE (grpM ts ms) (resM ts one) with
  | none => rw [hv] at hg; rw [← hg] at h2; simp at h2
  | some v =>
    refine List.mem_map.mpr ⟨_, ?_, rfl⟩
    unfold manyL
    refine List.mem_map.mpr ⟨(resM ts one, v), List.mem_filter.mpr ⟨valE_mem hv, ?_⟩, hg⟩
    show decide (1 < ((valE (grpM ts ms) (resM ts one)).getD []).length) = true
    rw [hg]
    exact decide_eq_true h2
theorem eMs_inj (a b : List Meet) (h : eMs a = eMs b) : a = b := map_inj (fun _ _ => eM_inj) (PyData.list.inj h)
theorem blur_enc (ts : List (List Nat)) (ms : List Meet) : ∃ zs : List (List Meet), blurD ts ms = zs.map eMs := by
  have h : ∀ ds : List D, (∀ d ∈ ds, ∃ z : List Meet, d = eMs z) → ∃ zs : List (List Meet), ds = zs.map eMs := by
    intro ds
    induction ds with
    | nil => intro _; exact ⟨[], rfl⟩
    | cons d ds ih =>
      intro h
      obtain ⟨z, rfl⟩ := h d (by simp)
      obtain ⟨zs, rfl⟩ := ih fun d hd => h d (by simp [hd])
      exact ⟨z :: zs, rfl⟩
  refine h _ fun d hd => ?_
  obtain ⟨z, _, rfl⟩ := List.mem_map.mp (List.mem_mergeSort.mp hd)
  exact ⟨z, rfl⟩
theorem in_blur (neg : Bool) (ts : List (List Nat)) (ms z : List Meet) : ∃ c : Bool, inD neg (eMs z) (.list (blurD ts ms)) = some (.bool (neg ^^ c)) ∧ (eMs z ∈ blurD ts ms → c = true) := by
  obtain ⟨zs, e⟩ := blur_enc ts ms
  refine ⟨zs.contains z, ?_, fun h => ?_⟩
  · rw [e]
    exact (in_g nmMs' (by decide) eMs_inj neg z zs).1
  · rw [e] at h
    obtain ⟨z', hz, e'⟩ := List.mem_map.mp h
    rw [← eMs_inj _ _ e']
    exact List.contains_iff_mem.mpr hz
/-! ### how far the asking goes -/
theorem asked_ge {ev : List (List Nat)} {one : Meet} (n : Nat) (a : LS) : a.asked.length ≤ (iter (lkGo ev) (lkStep ev one) n a).asked.length :=
  iter_keeps (fun x => a.asked.length ≤ x.asked.length) (fun x hx _ => by
    show a.asked.length ≤ (x.asked ++ [_]).length
    rw [List.length_append]
    omega) n a (Nat.le_refl _)
theorem most_ge {b : Book} {s : Nat} {ts : List (List Nat)} {one : Meet} {d : List Meet} (h : one ∈ d) : (looked b s ts one).asked.length - ts.length ≤ mostM b s ts d := by
  have mono : ∀ (d : List Meet) (k : Nat), k ≤ d.foldl (fun k one => max k ((looked b s ts one).asked.length - ts.length)) k := by
    intro d
    induction d with
    | nil => intro k; exact Nat.le_refl _
    | cons m d ih => intro k; rw [List.foldl_cons]; exact Nat.le_trans (Nat.le_max_left _ _) (ih _)
  have all : ∀ (d : List Meet) (k : Nat), one ∈ d → (looked b s ts one).asked.length - ts.length ≤ d.foldl (fun k one => max k ((looked b s ts one).asked.length - ts.length)) k := by
    intro d
    induction d with
    | nil => intro k h; cases h
    | cons m d ih =>
      intro k h
      rw [List.foldl_cons]
      rcases List.mem_cons.mp h with rfl | h
      · exact Nat.le_trans (Nat.le_max_right _ _) (mono _ _)
      · exact ih _ h
  exact all d 0 h
end DL

/-! The plain part, 39: rows of any kind; filling from given tests. -/
namespace DL
open PySem PySem.Spec PyProof.Rows L2
theorem rows_of {lv : List Nat} : ∀ r : List Nat, r.length = lv.length → (∀ i (h : i < r.length), ∃ l, lv[i]? = some l ∧ r[i] < l) → r ∈ rows lv := by
  induction lv using rows_ind with
  | h0 =>
    intro r hl _
    rw [List.length_eq_zero_iff.mp hl]
    simp [rows]
  | hs lv l ih =>
    intro r hl h
    rw [List.length_append, List.length_singleton] at hl
    have hne : r ≠ [] := fun z => by rw [z] at hl; simp at hl
    obtain ⟨r', x, rfl⟩ : ∃ r' x, r = r' ++ [x] := ⟨r.dropLast, r.getLast hne, (List.dropLast_concat_getLast hne).symm⟩
    rw [List.length_append, List.length_singleton] at hl
    rw [rows_snoc]
    unfold stepRows
    refine List.mem_flatMap.mpr ⟨r', ih r' (by omega) fun i hi => ?_, List.mem_map.mpr ⟨x, ?_, rfl⟩⟩
    · obtain ⟨l', e, hlt⟩ := h i (by rw [List.length_append]; omega)
      rw [List.getElem?_append_left (by omega)] at e
      rw [List.getElem_append_left hi] at hlt
      exact ⟨l', e, hlt⟩
    · obtain ⟨l', e, hlt⟩ := h r'.length (by rw [List.length_append]; simp)
      rw [List.getElem?_append_right (by omega), show r'.length - lv.length = 0 by omega] at e
      have e : l = l' := by simpa using e
      rw [List.getElem_append_right (by omega)] at hlt
      have hlt : x < l' := by simpa using hlt
      rw [List.mem_range, e]
      exact hlt
section
open DM
theorem m_is_row_N {lv : List Nat} (hw : WL lv) (t : List Nat) : f_is_row [eR lv, eR t] = .rt (.bool (decide (t ∈ rows lv))) := by
  by_cases ht : t ∈ rows lv
  · rw [decide_eq_true ht]
    exact m_is_row hw ht
  · rw [decide_eq_false ht]
    have hn : lenD [eR lv] = some (.int (lv.length : Int)) := by simp [eR]
    have hn2 : lenD [eR t] = some (.int (t.length : Int)) := by simp [eR]
    have hi : isiD "tuple" (eR t) = some true := rfl
    unfold f_is_row
    rw [runD_eq]
    show ofS (g_is_row [some (.d (eR lv)), some (.d (eR t)), none]) = _
    unfold g_is_row
    by_cases hl : t.length = lv.length
    · have hlt : (t.length : Int) = (lv.length : Int) := by omega
      have e := lc_map (fi := cb rng1 (asCons (cb lenD (asCons (rdB 0) asNil)) asNil)) (t := tgName 2) (c := g_is_row_c1) (e := rd 2) (vs := [2]) (ρ := [some (.d (eR lv)), some (.d (eR t)), none]) (enc := eN) (p := fun i => !decide (t.getD i 0 < lv.getD i 0)) (g := eN) (List.range lv.length)
        (by
          simp only [cb_ap, asCons_ap, asNil_ap, rdB_ap, List.getElem?_cons_zero, Res.bind_ok, Res.map_ok, hn, Res.of_some]
          rw [rng1_N (by have := hw.hi; omega)]
          rfl)
        fun i hi => ⟨[some (.d (eR lv)), some (.d (eR t)), some (.d (eN i))], rfl, by
          have hi' := List.mem_range.mp hi
          have hit : i < t.length := by omega
          have a1 : atI (t.map eN) (i : Int) = some (eN t[i]) := atR hit
          have a2 : atI (lv.map eN) (i : Int) = some (eN lv[i]) := atR hi'
          have w := m_is_within ((t[i] : Nat) : Int) 0 ((lv[i] : Int) - 1)
          have hp : (!decide (t.getD i 0 < lv.getD i 0)) = !(decide ((0 : Int) ≤ ((t[i] : Nat) : Int)) && decide (((t[i] : Nat) : Int) ≤ (lv[i] : Int) - 1)) := by
            rw [List.getD_eq_getElem?_getD, List.getD_eq_getElem?_getD, List.getElem?_eq_getElem hit, List.getElem?_eq_getElem hi', decide_eq_true (show (0 : Int) ≤ ((t[i] : Nat) : Int) by omega), Bool.true_and]
            congr 1
            rw [decide_eq_decide]
            show t[i] < lv[i] ↔ _
            omega
          rw [hp]
          unfold g_is_row_c1
          rw [show eR lv = .tuple (lv.map eN) from rfl, show eR t = .tuple (t.map eN) from rfl, show eN i = .int (i : Int) from rfl]
          simp only [notT_ap, toTru_ap, callR_ap, asCons_ap, asNil_ap, op2_ap, rdB_ap, kst_ap, List.getElem?_cons_succ, List.getElem?_cons_zero, Res.bind_ok, Res.map_ok, ixD_tup, a1, a2, Res.of_some]
          simp only [eN, intD_int, if_true, Res.of_some, Res.bind_ok, Res.map_ok, List.length_cons, List.length_nil, Nat.zero_add, Nat.reduceAdd, w, res_rt, truD_bool], fun _ => rfl⟩
      have hne : ((List.range lv.length).filter fun i => !decide (t.getD i 0 < lv.getD i 0)) ≠ [] := fun z => ht (rows_of t hl fun i hi => by
        have hi' : i < lv.length := by omega
        have := List.filter_eq_nil_iff.mp z i (List.mem_range.mpr hi')
        have this : t.getD i 0 < lv.getD i 0 := by simpa using this
        rw [List.getD_eq_getElem?_getD, List.getD_eq_getElem?_getD, List.getElem?_eq_getElem hi, List.getElem?_eq_getElem hi'] at this
        exact ⟨lv[i], List.getElem?_eq_getElem hi', this⟩)
      have htr : truD (.list (((List.range lv.length).filter fun i => !decide (t.getD i 0 < lv.getD i 0)).map eN)) = some true := by
        rw [truD_list]
        cases hq : ((List.range lv.length).filter fun i => !decide (t.getD i 0 < lv.getD i 0)) with
        | nil => exact absurd hq hne
        | cons x xs => rfl
      simp only [seqS_ap, ifS_ap, retS_ap, thenS_ap, orT_ap, notT_ap, toTru_ap, toB_ap, isiR_ap, cb_ap, op2_ap, asCons_ap, asNil_ap, rdB_ap, List.getElem?_cons_succ, List.getElem?_cons_zero, Res.bind_ok, Res.map_ok, hi, Option.map_some, Res.of_some, truD_bool, hn, hn2, hlt, neD_int, decide_true, boolD_bool, Bool.not_true, Bool.false_eq_true, if_false, ofB_ap, frz_ap, e, htr]
      rfl
    · have hq : decide ((t.length : Int) = (lv.length : Int)) = false := decide_eq_false (by omega)
      simp only [seqS_ap, ifS_ap, retS_ap, thenS_ap, orT_ap, notT_ap, toTru_ap, toB_ap, isiR_ap, cb_ap, op2_ap, asCons_ap, asNil_ap, rdB_ap, kst_ap, List.getElem?_cons_succ, List.getElem?_cons_zero, Res.bind_ok, Res.map_ok, hi, Option.map_some, Res.of_some, truD_bool, hn, hn2, neD_int, hq, boolD_bool, Bool.not_true, Bool.not_false, Bool.false_eq_true, if_false, if_true]
      rfl
/-! ### rows that may be tests of another book -/
def rowOK (d : D) : Bool := match d with
  | .tuple xs => xs.all fun x => withinB x 0 99
  | _ => false
def firstBad : List D → Nat → Option Nat
  | [], _ => none
  | d :: r, n => if rowOK d = true then firstBad r (n + 1) else some n
theorem look_b1 {d : D} (hd : noDct d = true) {z0 z3 : Option B} (n : Int) : ∃ z, g_look_rows_b1 [z0, some (.d (.int n)), some (.d d), z3] = if rowOK d = true then .nx [z0, some (.d (.int n)), some (.d d), z] else .ex ⟨"BadTests", some n⟩ := by
  refine ⟨z3, ?_⟩
  unfold g_look_rows_b1
  have i0 := isi_tuple (nd_of hd)
  by_cases hl : ∃ xs, d = .tuple xs
  · obtain ⟨xs, rfl⟩ := hl
    have hx : noDctA xs = true := hd
    have e := lc_keep (fi := toSeq (rdB 2)) (t := tgName 3) (c := g_look_rows_c1) (e := rd 3) (vs := [3]) (ρ := [z0, some (.d (.int n)), some (.d (.tuple xs)), z3]) (p := fun x => !withinB x 0 99) xs rfl
      fun x hx' => ⟨[z0, some (.d (.int n)), some (.d (.tuple xs)), some (.d x)], rfl, by
        have w := m_within (nd_of (noDctA_mem hx x hx')) 0 99
        unfold g_look_rows_c1
        simp only [notT_ap, toTru_ap, callR_ap, asCons_ap, asNil_ap, rd_ap, kst_ap, List.getElem?_cons_succ, List.getElem?_cons_zero, Res.bind_ok, Res.map_ok, List.length_cons, List.length_nil, Nat.zero_add, Nat.reduceAdd, if_true, w, res_rt, truD_bool, Res.of_some], fun _ => rfl⟩
    have hn : truD (.list (xs.filter fun x => !withinB x 0 99)) = some (!rowOK (.tuple xs)) := by
      rw [truD_list, filter_isE]
      simp [rowOK]
    simp only [ifS_ap, thenS_ap, orT_ap, notT_ap, toTru_ap, isiR_ap, frz_ap, rdB_ap, List.getElem?_cons_succ, List.getElem?_cons_zero, Res.bind_ok, Res.map_ok, i0, Option.map_some, Res.of_some, truD_bool, Bool.not_true, Bool.false_eq_true, if_false, e, hn]
    cases rowOK (.tuple xs) <;> rfl
  · have i1 : isiD "tuple" d = some false := by
      rw [i0]
      cases d <;> first | rfl | exact absurd ⟨_, rfl⟩ hl
    have r : rowOK d = false := by cases d <;> first | rfl | exact absurd ⟨_, rfl⟩ hl
    simp only [ifS_ap, thenS_ap, orT_ap, notT_ap, toTru_ap, isiR_ap, rdB_ap, List.getElem?_cons_succ, List.getElem?_cons_zero, Res.bind_ok, Res.map_ok, i1, Option.map_some, Res.of_some, truD_bool, Bool.not_false, if_true, r, Bool.false_eq_true, if_false]
    rfl
theorem look_loop {z0 : Option B} : ∀ (ds : List D) (n : Nat) (z1 z2 z3 : Option B), noDctA ds = true → ∃ y1 y2 y3, forL (tgPair 1 2) g_look_rows_b1 ((ds.zipIdx n).map fun p => .tuple [.int ((p.2 : Nat) : Int), p.1]) [z0, z1, z2, z3] = match firstBad ds n with
    | none => .nx [z0, y1, y2, y3]
    | some j => .ex ⟨"BadTests", some (j : Int)⟩
  | [], n, z1, z2, z3, _ => ⟨z1, z2, z3, rfl⟩
  | d :: r, n, z1, z2, z3, h => by
    simp only [noDctA, Bool.and_eq_true] at h
    obtain ⟨z, e⟩ := look_b1 h.1 (z0 := z0) (z3 := z3) (n : Int)
    obtain ⟨y1, y2, y3, e2⟩ := look_loop r (n + 1) (some (.d (.int (n : Int)))) (some (.d d)) z h.2
    refine ⟨y1, y2, y3, ?_⟩
    have cons : forL (tgPair 1 2) g_look_rows_b1 (((d :: r).zipIdx n).map fun p : D × Nat => .tuple [.int ((p.2 : Nat) : Int), p.1]) [z0, z1, z2, z3] = (match g_look_rows_b1 [z0, some (.d (.int (n : Int))), some (.d d), z3] with
      | .nx ρ2 => forL (tgPair 1 2) g_look_rows_b1 ((r.zipIdx (n + 1)).map fun p : D × Nat => .tuple [.int ((p.2 : Nat) : Int), p.1]) ρ2
      | .ct ρ2 => forL (tgPair 1 2) g_look_rows_b1 ((r.zipIdx (n + 1)).map fun p : D × Nat => .tuple [.int ((p.2 : Nat) : Int), p.1]) ρ2
      | .bk ρ2 => .nx ρ2
      | o => o) := rfl
    rw [cons]
    rw [e]
    unfold firstBad
    cases hr : rowOK d with
    | true => exact e2
    | false => rfl
theorem m_look_rows {ds : List D} (h : noDctA ds = true) : f_look_rows [.list ds] = match firstBad ds 0 with
    | none => .rt .none
    | some j => .ex ⟨"BadTests", some (j : Int)⟩ := by
  obtain ⟨y1, y2, y3, e⟩ := look_loop (z0 := some (.d (.list ds))) ds 0 none none none h
  unfold f_look_rows
  rw [runD_eq]
  show ofS (g_look_rows [some (.d (.list ds)), none, none, none]) = _
  unfold g_look_rows
  simp only [seqS_ap, ifS_ap, forS_ap, thenS_ap, notT_ap, toTru_ap, isiR_ap, rd_ap, rdB_ap, List.getElem?_cons_succ, List.getElem?_cons_zero, Res.bind_ok, Res.map_ok, isi_list_list, Option.map_some, Res.of_some, truD_bool, Bool.not_true, Bool.false_eq_true, if_false, toEnum_ap, seqOf_list, enumL, e]
  cases firstBad ds 0 <;> rfl
theorem m_look_rows_tup (ds : List D) : f_look_rows [.tuple ds] = .ex ⟨"BadTests", some 0⟩ := by
  have i1 : isiD "list" (.tuple ds) = some false := isi_list rfl
  unfold f_look_rows
  rw [runD_eq]
  show ofS (g_look_rows [some (.d (.tuple ds)), none, none, none]) = _
  unfold g_look_rows
  simp only [seqS_ap, ifS_ap, thenS_ap, notT_ap, toTru_ap, isiR_ap, rdB_ap, kst_ap, List.getElem?_cons_succ, List.getElem?_cons_zero, Res.bind_ok, Res.map_ok, i1, Option.map_some, Res.of_some, truD_bool, Bool.not_false, if_true]
  rfl
variable {b : Book} {s : Nat}
theorem m_filledN {n : Nat} {P : List Meet} (h : WF b) (hf : Fit n P (tests b)) (hs : ∀ m ∈ P, ∃ t ∈ tests b, meets t m = true) {f0 : List (List Nat)} (h0 : Fit n P f0) (h81 : f0.length ≤ 1000) : f_filled [eB b, .list (P.map eM), .list (f0.map eR)] = .ro ((fillM (tests b) P f0).found.map eR) := by
  have hev := tests_len h
  have loop := while_iter (w := g_filled_w1) (b := g_filled_b1) (fun (a : FS) ρ => FK n P (tests b) f0 a ∧ ∃ x y, ρ = [some (.d (eB b)), some (.d (.list (P.map eM))), some (.d (.list (f0.map eR))), some (.own (a.found.map eR)), some (.d (.list (a.left.map eM))), some (.d (.list ((tests b).map eR))), x, y]) fillGo (fillStep (tests b)) (fun a => a.left.length)
    (fun a ρ ⟨_, x, y, e⟩ => by
      subst e
      unfold g_filled_w1 fillGo
      simp only [toTru_ap, rdB_ap, List.getElem?_cons_succ, List.getElem?_cons_zero, Res.bind_ok, truD_list, Res.of_some, isEmpty_map])
    (fun a ρ ⟨ha, x, y, e⟩ hc => by
      subst e
      have hr := fillGo_ne hc
      obtain ⟨hst, hlt⟩ := ha.step hr
      obtain ⟨hne, _⟩ := ha.ev hr
      obtain ⟨hg, _⟩ := fillAt_get hne
      refine ⟨hlt, [some (.d (eB b)), some (.d (.list (P.map eM))), some (.d (.list (f0.map eR))), some (.own ((fillStep (tests b) a).found.map eR)), some (.d (.list ((fillStep (tests b) a).left.map eM))), some (.d (.list ((tests b).map eR))), x, some (.d (.list (((tests b).map (newsM a.left)).map eN)))], ?_, hst, _, _, rfl⟩
      have fit1 : ∀ t ∈ tests b, Fit n a.left [t] := fun t htt => ⟨fun t' ht' => by rw [List.mem_singleton.mp ht']; exact hf.len t htt, fun m hm => hf.lt m (ha.sub m hm), Nat.le_trans ha.few hf.few, by simp⟩
      have e1 := lc_map (fi := toSeq (rdB 5)) (t := tgName 6) (c := yes) (e := g_filled_e1) (vs := [6]) (ρ := [some (.d (eB b)), some (.d (.list (P.map eM))), some (.d (.list (f0.map eR))), some (.own (a.found.map eR)), some (.d (.list (a.left.map eM))), some (.d (.list ((tests b).map eR))), x, y]) (enc := eR) (p := fun _ => true) (g := fun t => eN (newsM a.left t)) (tests b) rfl
        fun t htt => ⟨[some (.d (eB b)), some (.d (.list (P.map eM))), some (.d (.list (f0.map eR))), some (.own (a.found.map eR)), some (.d (.list (a.left.map eM))), some (.d (.list ((tests b).map eR))), some (.d (eR t)), y], rfl, rfl, fun _ => by
          unfold g_filled_e1
          simp only [callR_ap, asCons_ap, asNil_ap, rd_ap, List.getElem?_cons_succ, List.getElem?_cons_zero, Res.bind_ok, Res.map_ok, List.length_cons, List.length_nil, Nat.zero_add, Nat.reduceAdd, if_true, m_new_met (fit1 t htt), res_rt]
          rfl⟩
      rw [List.filter_eq_self.mpr (fun _ _ => rfl)] at e1
      have e1' : (tests b).map (fun t => eN (newsM a.left t)) = ((tests b).map (newsM a.left)).map eN := by rw [List.map_map]; rfl
      rw [e1'] at e1
      have a1 : atI ((tests b).map eR) ((maxAt ((tests b).map (newsM a.left)) : Nat) : Int) = some (eR (fillAt (tests b) a)) := DL.atI_nat (by rw [List.getElem?_map, hg]; rfl)
      have hz : a.found.length < sizeLine := by
        have h1 := ha.flen
        have h2 := hf.few
        have := sizeLine_big
        omega
      have u1 := m_unmet (fit1 _ (List.mem_of_getElem? hg))
      rw [show ([fillAt (tests b) a].map eR : List D) = [eR (fillAt (tests b) a)] from rfl] at u1
      unfold g_filled_b1
      simp only [seqS_ap, setS_ap, thenS_ap, frz_ap, e1, Res.map_ok, List.set_cons_succ, List.set_cons_zero]
      rw [appS_own (xs := a.found.map eR) _ rfl]
      unfold idxR
      simp only [thenS_ap, op2_ap, rdB_ap, cb_ap, asCons_ap, asNil_ap, List.getElem?_cons_succ, List.getElem?_cons_zero, Res.bind_ok, Res.map_ok, maxLD_N hne, Res.of_some, indexD_N hne, ixD_list, a1, List.length_map, hz, if_true, List.set_cons_succ, List.set_cons_zero, callR_ap, rd_ap, sl3_ap, ptS_ap, ptN_ap, negR_ap, kst_ap, intOf_int, last_cut, List.length_cons, List.length_nil, Nat.zero_add, Nat.reduceAdd, u1, res_ro]
      simp [fillStep])
  obtain ⟨ρ', w1, ⟨_, x, y, rfl⟩, _⟩ := loop P.length ⟨unmetM P f0, f0⟩ [some (.d (eB b)), some (.d (.list (P.map eM))), some (.d (.list (f0.map eR))), some (.own (f0.map eR)), some (.d (.list ((unmetM P f0).map eM))), some (.d (.list ((tests b).map eR))), none, none] (List.length_filter_le _ _)
    ⟨⟨hf, hev, fun _ z => unmet_sub _ z, List.length_filter_le _ _, hs, fun _ z => .inr z, Nat.add_le_add_left (List.length_filter_le _ _) _, rfl⟩, none, none, rfl⟩
  have u0 := m_unmet h0
  have e4 : lendO 3 (callO 2 f_unmet (asCons (rd 1) (asCons (rd 3) asNil))) [some (.d (eB b)), some (.d (.list (P.map eM))), some (.d (.list (f0.map eR))), some (.own (f0.map eR)), none, none, none, none] = .ok ((unmetM P f0).map eM) := by
    rw [lendO_own (xs := f0.map eR) rfl]
    simp only [frzAt_ap, List.getElem?_cons_succ, List.getElem?_cons_zero, List.set_cons_succ, List.set_cons_zero, callO_ap, asCons_ap, asNil_ap, rd_ap, Res.bind_ok, Res.map_ok, List.length_cons, List.length_nil, Nat.zero_add, Nat.reduceAdd, if_true, u0, own_ro]
    have : flatA ((unmetM P f0).map eM) = true := flatA_map (fun m => by
      show flatA (m.map eP) = true
      exact flatA_map (fun p => rfl) m) _
    rw [this]
    rfl
  unfold f_filled
  rw [runD_eq]
  show ofS (g_filled [some (.d (eB b)), some (.d (.list (P.map eM))), some (.d (.list (f0.map eR))), none, none, none, none, none]) = _
  unfold g_filled
  simp only [seqS_ap, setS_ap, setO_ap, thenS_ap, cb_ap, callR_ap, asCons_ap, asNil_ap, rd_ap, rdB_ap, List.getElem?_cons_succ, List.getElem?_cons_zero, Res.bind_ok, Res.map_ok, List.length_cons, List.length_nil, Nat.zero_add, if_true, toListD_list, Res.of_some, List.set_cons_succ, List.set_cons_zero, frz_ap, e4, m_tests_of h, res_ro, w1, retV_ap, ofS_ro]
  rfl
end
end DL

/-! The plain part, 40: kept, lengthened. -/
namespace DL
open PySem PySem.Spec PyProof.Rows L2
def stayStep (b : Book) (st : List (List Nat)) (r : List Nat) : List (List Nat) := if (decide (r ∈ tests b) && !st.contains r) = true then st ++ [r] else st
def stayM (b : Book) (rs : List (List Nat)) : List (List Nat) := rs.foldl (stayStep b) []
theorem stayM_snoc (b : Book) (rs : List (List Nat)) (r : List Nat) : stayM b (rs ++ [r]) = stayStep b (stayM b rs) r := by simp [stayM, List.foldl_append]
theorem stay_sub (b : Book) (rs : List (List Nat)) : (∀ t ∈ stayM b rs, t ∈ tests b) ∧ (stayM b rs).length ≤ rs.length := by
  suffices h : ∀ n : Nat, ∀ rs : List (List Nat), rs.length = n → (∀ t ∈ stayM b rs, t ∈ tests b) ∧ (stayM b rs).length ≤ rs.length from h _ rs rfl
  intro n
  induction n with
  | zero =>
    intro rs hl
    rw [List.length_eq_zero_iff.mp hl]
    exact ⟨fun t z => by (cases z), Nat.le_refl _⟩
  | succ n ih =>
    intro rs hl
    have hne : rs ≠ [] := fun z => by rw [z] at hl; cases hl
    obtain ⟨r', x, rfl⟩ : ∃ r' x, rs = r' ++ [x] := ⟨rs.dropLast, rs.getLast hne, (List.dropLast_concat_getLast hne).symm⟩
    rw [List.length_append, List.length_singleton] at hl
    obtain ⟨i1, i2⟩ := ih r' (by omega)
    rw [stayM_snoc]
    unfold stayStep
    split
    · rename_i hc
      rw [Bool.and_eq_true] at hc
      refine ⟨fun t ht => ?_, ?_⟩
      · rcases List.mem_append.mp ht with ht | ht
        · exact i1 t ht
        · rw [List.mem_singleton.mp ht]; exact of_decide_eq_true hc.1
      · rw [List.length_append, List.length_append]; simp; omega
    · exact ⟨i1, by rw [List.length_append]; omega⟩
theorem down2 {n m : Nat} (h : n ≤ 1000) (hm : m ≤ n) : rng3 [.int ((n : Int) - 1), .int ((m : Int) - 1), .int (-1)] = some ((List.range (n - m)).map fun k : Nat => .int ((n : Int) - 1 - (k : Int))) := by
  have e : rng3 [.int ((n : Int) - 1), .int ((m : Int) - 1), .int (-1)] = if (smallR ((n : Int) - 1) && smallR ((m : Int) - 1) && decide ((-1 : Int) = -1)) = true then some (downFrom ((n : Int) - 1) ((n : Int) - 1 - ((m : Int) - 1)).toNat) else none := rfl
  rw [e]
  have h1 : smallR ((n : Int) - 1) = true := by unfold smallR; rw [Nat.ble_eq]; omega
  have h2 : smallR ((m : Int) - 1) = true := by unfold smallR; rw [Nat.ble_eq]; omega
  rw [h1, h2, if_pos (by rfl), show ((n : Int) - 1 - ((m : Int) - 1)).toNat = n - m by omega]
  rfl
def fillF (b : Book) (s : Nat) (rs : List (List Nat)) : List (List Nat) := (fillM (tests b) (poss b s) (stayM b rs)).found
def keptM (b : Book) (s : Nat) (rs : List (List Nat)) : List (List Nat) := trimK (poss b s) (fillF b s rs) (List.range ((fillF b s rs).length - (stayM b rs).length))
theorem fill_okN {n : Nat} {P : List Meet} {ev f0 : List (List Nat)} (hf : Fit n P ev) (he : ev.length ≤ 81) (hs : ∀ m ∈ P, ∃ t ∈ ev, meets t m = true) : FK n P ev f0 (fillM ev P f0) ∧ (fillM ev P f0).left = [] := by
  have h0 : FK n P ev f0 ⟨unmetM P f0, f0⟩ := ⟨hf, he, fun m hm => unmet_sub m hm, List.length_filter_le _ _, hs, fun _ z => .inr z, Nat.add_le_add_left (List.length_filter_le _ _) _, rfl⟩
  have key : ∀ (k : Nat) (a : FS), FK n P ev f0 a → a.left.length ≤ k → FK n P ev f0 (iter fillGo (fillStep ev) k a) ∧ (iter fillGo (fillStep ev) k a).left = [] := by
    intro k
    induction k with
    | zero => intro a ha hk; exact ⟨ha, List.eq_nil_of_length_eq_zero (show a.left.length = 0 by omega)⟩
    | succ k ih =>
      intro a ha hk
      unfold iter
      split
      · rename_i hc
        obtain ⟨h1, h2⟩ := ha.step (fillGo_ne hc)
        exact ih _ h1 (by omega)
      · rename_i hc
        refine ⟨ha, ?_⟩
        unfold fillGo at hc
        simpa using hc
  exact key P.length _ h0 (List.length_filter_le _ _)
theorem fill_pre (ev : List (List Nat)) (P : List Meet) (f0 : List (List Nat)) : ∃ w, (fillM ev P f0).found = f0 ++ w :=
  iter_keeps (fun x : FS => ∃ w, x.found = f0 ++ w) (fun x ⟨w, e⟩ _ => ⟨w ++ [fillAt ev x], by
    show x.found ++ [fillAt ev x] = _
    rw [e, List.append_assoc]⟩) P.length _ ⟨[], by simp⟩
structure Kept (b : Book) (s : Nat) (st suf : List (List Nat)) : Prop where
  sub : ∀ t ∈ suf, t ∈ tests b
  cov : unmetM (poss b s) (st ++ suf) = []
  need : ∀ s1 x s2, suf = s1 ++ x :: s2 → unmetM (poss b s) (st ++ (s1 ++ s2)) ≠ []
  few : suf.length ≤ 300
section
variable {b : Book} {s : Nat}
theorem fillF_ok (h : WF b) (s1 : 1 ≤ s) (s3 : s ≤ 3) (rs : List (List Nat)) : (∀ t ∈ fillF b s rs, t ∈ tests b) ∧ unmetM (poss b s) (fillF b s rs) = [] ∧ (fillF b s rs).length ≤ rs.length + 200 := by
  have hf := fit_of h s1 s3 (ts := tests b) (fun t ht => ht) (by have := tests_len h; omega)
  obtain ⟨h1, h2⟩ := fill_okN hf (tests_len h) poss_met (f0 := stayM b rs)
  obtain ⟨g1, g2⟩ := stay_sub b rs
  refine ⟨fun t ht => ?_, ?_, ?_⟩
  · rcases h1.fsub t ht with ht | ht
    · exact ht
    · exact g1 t ht
  · have := h1.left
    rw [h2] at this
    exact this.symm
  · have l1 := h1.flen
    have l2 := hf.few
    show (fillM (tests b) (poss b s) (stayM b rs)).found.length ≤ _
    omega
theorem kept_ok (h : WF b) (s1 : 1 ≤ s) (s3 : s ≤ 3) {rs : List (List Nat)} (hl : rs.length ≤ 50) : ∃ suf, keptM b s rs = stayM b rs ++ suf ∧ Kept b s (stayM b rs) suf := by
  obtain ⟨f1, f2, f3⟩ := fillF_ok h s1 s3 rs
  obtain ⟨w, hw⟩ := fill_pre (tests b) (poss b s) (stayM b rs)
  have hle : (stayM b rs).length ≤ (fillF b s rs).length := by unfold fillF; rw [hw, List.length_append]; omega
  obtain ⟨suf, h1, h2, h3, h4⟩ := trim_split (poss b s) (fillF b s rs) ((fillF b s rs).length - (stayM b rs).length) (by omega)
  have ht : (fillF b s rs).take ((fillF b s rs).length - ((fillF b s rs).length - (stayM b rs).length)) = stayM b rs := by
    rw [show (fillF b s rs).length - ((fillF b s rs).length - (stayM b rs).length) = (stayM b rs).length by omega]
    unfold fillF
    rw [hw, List.take_left]
  rw [ht] at h1 h3 h4
  refine ⟨suf, h1, fun t htt => f1 t (h2 t htt), by rw [h3, f2], fun s1 x s2 e => by rw [← f2]; exact h4 s1 x s2 e, ?_⟩
  have hk := (trimK_sub (poss b s) (fillF b s rs) (List.range ((fillF b s rs).length - (stayM b rs).length))).2.1
  rw [h1, List.length_append] at hk
  omega
end
section
open DM
variable {b : Book} {s : Nat}
theorem test_is (h : WF b) (r : List Nat) {z1 z2 z5 z6 z7 : Option B} {st : List (List Nat)} (hz : st.length ≤ 1000) : g_kept_b1 [some (.d (eB b)), z1, z2, some (.own (st.map eR)), some (.d (eR r)), z5, z6, z7] = .nx [some (.d (eB b)), z1, z2, some (.own ((stayStep b st r).map eR)), some (.d (eR r)), z5, z6, z7] := by
  have hl : ixD (eB b) (.int 0) = some (eR b.1) := by simp [eB]
  have m1 := m_is_row_N h.wl r
  have sz := sizeLine_big
  have hz2 : (st.map eR).length < sizeLine := by rw [List.length_map]; omega
  unfold g_kept_b1 stayStep
  by_cases hr : r ∈ rows b.1
  · rw [decide_eq_true hr] at m1
    have hlen := rows_mem_len b.1 r hr
    have m2 := m_is_allowed (b := b) (t := r) fun m hm p hp => by rw [hlen]; exact (h.ban m hm).lt p hp
    have m3 := in_R true r st
    cases ha : allowed b r with
    | false =>
      rw [ha] at m2
      have ht : decide (r ∈ tests b) = false := decide_eq_false fun z => by have := (List.mem_filter.mp z).2; rw [ha] at this; cases this
      simp only [ifS_ap, thenS_ap, andT_ap, toTru_ap, callR_ap, asCons_ap, asNil_ap, op2_ap, rd_ap, rdB_ap, kst_ap, List.getElem?_cons_succ, List.getElem?_cons_zero, Res.bind_ok, Res.map_ok, hl, Res.of_some, List.length_cons, List.length_nil, Nat.zero_add, Nat.reduceAdd, if_true, m1, m2, res_rt, truD_bool, Bool.false_eq_true, if_false, ht, Bool.false_and]
    | true =>
      rw [ha] at m2
      have ht : decide (r ∈ tests b) = true := decide_eq_true (List.mem_filter.mpr ⟨hr, ha⟩)
      cases hc : st.contains r with
      | true =>
        rw [hc] at m3
        simp only [ifS_ap, thenS_ap, andT_ap, toTru_ap, toB_ap, callR_ap, asCons_ap, asNil_ap, op2_ap, rd_ap, rdB_ap, kst_ap, List.getElem?_cons_succ, List.getElem?_cons_zero, Res.bind_ok, Res.map_ok, hl, Res.of_some, List.length_cons, List.length_nil, Nat.zero_add, Nat.reduceAdd, if_true, m1, m2, m3, res_rt, truD_bool, boolD_bool, Bool.true_xor, Bool.not_true, Bool.false_eq_true, if_false, ht, Bool.and_false]
      | false =>
        rw [hc] at m3
        simp only [ifS_ap, thenS_ap, andT_ap, toTru_ap, toB_ap, callR_ap, asCons_ap, asNil_ap, op2_ap, rd_ap, rdB_ap, kst_ap, List.getElem?_cons_succ, List.getElem?_cons_zero, Res.bind_ok, Res.map_ok, hl, Res.of_some, List.length_cons, List.length_nil, Nat.zero_add, Nat.reduceAdd, if_true, m1, m2, m3, res_rt, truD_bool, boolD_bool, Bool.true_xor, Bool.not_false, ht, Bool.and_self]
        rw [appS_own (xs := st.map eR) _ rfl]
        simp only [thenS_ap, rd_ap, List.getElem?_cons_succ, List.getElem?_cons_zero, hz2, if_true, List.set_cons_succ, List.set_cons_zero, List.map_append, List.map_cons, List.map_nil]
  · rw [decide_eq_false hr] at m1
    have ht : decide (r ∈ tests b) = false := decide_eq_false fun z => hr (List.mem_filter.mp z).1
    simp only [ifS_ap, thenS_ap, andT_ap, toTru_ap, callR_ap, asCons_ap, asNil_ap, op2_ap, rd_ap, rdB_ap, kst_ap, List.getElem?_cons_succ, List.getElem?_cons_zero, Res.bind_ok, Res.map_ok, hl, Res.of_some, List.length_cons, List.length_nil, Nat.zero_add, Nat.reduceAdd, if_true, m1, res_rt, truD_bool, Bool.false_eq_true, if_false, ht, Bool.false_and]
theorem m_kept_bad (h : WF b) (s1 : 1 ≤ s) (s3 : s ≤ 3) (sl : s ≤ b.1.length) {d : D} {c : Exc} (he : f_look_rows [d] = .ex c) : f_kept [eB b, .int (s : Int), d] = .ex c := by
  unfold f_kept
  rw [runD_eq]
  show ofS (g_kept [some (.d (eB b)), some (.d (.int (s : Int))), some (.d d), none, none, none, none, none]) = _
  unfold g_kept
  simp only [seqS_ap, dropS_ap, thenS_ap, callR_ap, asCons_ap, asNil_ap, rd_ap, List.getElem?_cons_succ, List.getElem?_cons_zero, Res.bind_ok, Res.map_ok, List.length_cons, List.length_nil, Nat.zero_add, Nat.reduceAdd, if_true, m_look_strength h s1 s3 sl, res_rt, he, res_ex, ofS_ex]
theorem m_lengthened_bad {d x : D} {c : Exc} (he : f_look_rows [d] = .ex c) : f_lengthened [d, x] = .ex c := by
  unfold f_lengthened
  rw [runD_eq]
  show ofS (g_lengthened [some (.d d), some (.d x), none]) = _
  unfold g_lengthened
  simp only [seqS_ap, dropS_ap, thenS_ap, callR_ap, asCons_ap, asNil_ap, rd_ap, List.getElem?_cons_succ, List.getElem?_cons_zero, Res.bind_ok, Res.map_ok, List.length_cons, List.length_nil, Nat.zero_add, Nat.reduceAdd, if_true, he, res_ex, ofS_ex]
theorem m_lengthened_no {d x : D} (hx : noDct x = true) (hw : withinB x 0 3 = false) (he : f_look_rows [d] = .rt .none) : f_lengthened [d, x] = .ex ⟨"BadNumber", none⟩ := by
  have w := m_within (nd_of hx) 0 3
  rw [hw] at w
  unfold f_lengthened
  rw [runD_eq]
  show ofS (g_lengthened [some (.d d), some (.d x), none]) = _
  unfold g_lengthened raiseS
  simp only [seqS_ap, dropS_ap, ifS_ap, thenS_ap, notT_ap, toTru_ap, callR_ap, asCons_ap, asNil_ap, rd_ap, kst_ap, List.getElem?_cons_succ, List.getElem?_cons_zero, Res.bind_ok, Res.map_ok, List.length_cons, List.length_nil, Nat.zero_add, Nat.reduceAdd, if_true, he, res_rt, w, truD_bool, Res.of_some, Bool.not_false, ofS_ex]
theorem longer (r : List Nat) (hr : r.length ≤ 1000) (k : Nat) : addD (eR r) (.tuple [.int (k : Int)]) = some (eR (r ++ [k])) := by
  have sz := sizeLine_big
  show (if (r.map eN).length + 1 ≤ sizeLine then some (PyData.tuple (r.map eN ++ [eN k])) else none) = _
  rw [if_pos (by rw [List.length_map]; omega)]
  simp [eR]
theorem m_lengthened {rs : List (List Nat)} (hr : ∀ r ∈ rs, r.length ≤ 1000) {k : Nat} (hk : k ≤ 3) (he : f_look_rows [.list (rs.map eR)] = .rt .none) : f_lengthened [.list (rs.map eR), .int (k : Int)] = .ro ((rs.map fun r => r ++ [k]).map eR) := by
  have w := m_within (d := .int (k : Int)) rfl 0 3
  have hw : withinB (.int (k : Int)) 0 3 = true := by
    show (decide ((0 : Int) ≤ (k : Int)) && decide ((k : Int) ≤ 3)) = true
    rw [decide_eq_true (by omega), decide_eq_true (by omega)]; rfl
  rw [hw] at w
  have e := lc_map (fi := toSeq (rdB 0)) (t := tgName 2) (c := yes) (e := g_lengthened_e1) (vs := [2]) (ρ := [some (.d (.list (rs.map eR))), some (.d (.int (k : Int))), none]) (enc := eR) (p := fun _ => true) (g := fun r => eR (r ++ [k])) rs rfl
    fun r hrr => ⟨[some (.d (.list (rs.map eR))), some (.d (.int (k : Int))), some (.d (eR r))], rfl, rfl, fun _ => by
      unfold g_lengthened_e1
      simp only [op2_ap, dispT_ap, disp_ap, asCons_ap, asNil_ap, rd_ap, rdB_ap, List.getElem?_cons_succ, List.getElem?_cons_zero, Res.bind_ok, Res.map_ok, List.length_cons, List.length_nil, Nat.zero_add, Nat.reduceLeDiff, if_true, longer r (hr r hrr) k, Res.of_some]⟩
  rw [List.filter_eq_self.mpr (fun _ _ => rfl)] at e
  have em : rs.map (fun r => eR (r ++ [k])) = (rs.map fun r => r ++ [k]).map eR := by rw [List.map_map]; rfl
  rw [em] at e
  unfold f_lengthened
  rw [runD_eq]
  show ofS (g_lengthened [some (.d (.list (rs.map eR))), some (.d (.int (k : Int))), none]) = _
  unfold g_lengthened
  simp only [seqS_ap, dropS_ap, ifS_ap, retO_ap, thenS_ap, notT_ap, toTru_ap, callR_ap, asCons_ap, asNil_ap, rd_ap, kst_ap, List.getElem?_cons_succ, List.getElem?_cons_zero, Res.bind_ok, Res.map_ok, List.length_cons, List.length_nil, Nat.zero_add, Nat.reduceAdd, if_true, he, res_rt, w, truD_bool, Res.of_some, Bool.not_true, Bool.false_eq_true, if_false, e, ofS_ro]
theorem slice_erase (xs : List (List Nat)) (i : Nat) (h : xs.length ≤ 10000) {fx fi : Rho → Res D} {ρ : Rho} (hx : fx ρ = .ok (.list (xs.map eR))) (hi : fi ρ = .ok (.int (i : Int))) : op2 addD (sl3 cutD fx ptN (ptS fi)) (sl3 cutD fx (ptS (op2 addD fi (kst (.int 1)))) ptN) ρ = .ok (.list ((xs.eraseIdx i).map eR)) := by
  have e1 := cutD_to (xs.map eR) i
  have e2 := cutD_from (xs.map eR) (i + 1)
  rw [Int.natCast_add, show ((1 : Nat) : Int) = 1 from rfl] at e2
  have hz : ((xs.map eR).take i).length + ((xs.map eR).drop (i + 1)).length ≤ sizeLine := by
    have := sizeLine_big
    rw [List.length_take, List.length_drop, List.length_map]
    omega
  have e3 : addD (.list ((xs.map eR).take i)) (.list ((xs.map eR).drop (i + 1))) = some (.list ((xs.eraseIdx i).map eR)) := by
    show (if _ then _ else _) = _
    rw [if_pos hz, ← List.map_take, ← List.map_drop, ← List.map_append, take_drop_erase]
  simp only [op2_ap, sl3_ap, ptN_ap, ptS_ap, hx, hi, kst_ap, Res.bind_ok, Res.map_ok, intOf_int, Res.of_some, addD_int, e1, e2, e3]
theorem m_kept (h : WF b) (s1 : 1 ≤ s) (s3 : s ≤ 3) (sl : s ≤ b.1.length) {rs : List (List Nat)} (hl : rs.length ≤ 50) (he : f_look_rows [.list (rs.map eR)] = .rt .none) : f_kept [eB b, .int (s : Int), .list (rs.map eR)] = .rt (.list ((keptM b s rs).map eR)) := by
  obtain ⟨f1, f2, f3⟩ := fillF_ok h s1 s3 rs
  obtain ⟨g1, g2⟩ := stay_sub b rs
  have hf := fit_of h s1 s3 (ts := tests b) (fun t ht => ht) (by have := tests_len h; omega)
  have hfs := fit_of h s1 s3 g1 (by omega)
  have hff := fit_of h s1 s3 f1 (by omega)
  have hp := m_possible_of h s1 s3
  obtain ⟨w, hw⟩ := fill_pre (tests b) (poss b s) (stayM b rs)
  have hle : (stayM b rs).length ≤ (fillF b s rs).length := by unfold fillF; rw [hw, List.length_append]; omega
  have hfill := m_filledN h hf poss_met hfs (by omega)
  rw [show (fillM (tests b) (poss b s) (stayM b rs)).found = fillF b s rs from rfl] at hfill
  obtain ⟨ρ1, w1, y4, rfl⟩ : ∃ ρ', forL (tgName 4) g_kept_b1 (rs.map eR) [some (.d (eB b)), some (.d (.int (s : Int))), some (.d (.list (rs.map eR))), some (.own []), none, none, none, none] = .nx ρ' ∧
      ∃ y4, ρ' = [some (.d (eB b)), some (.d (.int (s : Int))), some (.d (.list (rs.map eR))), some (.own ((stayM b rs).map eR)), y4, none, none, none] := by
    refine forL_inv (fun d ρ => ∃ y4, ρ = [some (.d (eB b)), some (.d (.int (s : Int))), some (.d (.list (rs.map eR))), some (.own ((stayM b d).map eR)), y4, none, none, none]) rs ?_ ⟨none, rfl⟩
    rintro d r rest ρ e ⟨y4, rfl⟩
    have hd : (stayM b d).length ≤ 1000 := by
      have := (stay_sub b d).2
      rw [e, List.length_append] at hl
      omega
    refine ⟨_, _, rfl, test_is h r (z1 := some (.d (.int (s : Int)))) (z2 := some (.d (.list (rs.map eR)))) (z5 := none) (z6 := none) (z7 := none) hd, some (.d (eR r)), by rw [stayM_snoc]⟩
  obtain ⟨ρ2, w2, y7, rfl⟩ : ∃ ρ', forL (tgName 7) g_kept_b2 ((List.range ((fillF b s rs).length - (stayM b rs).length)).map fun k : Nat => .int (((fillF b s rs).length : Int) - 1 - (k : Int))) [some (.d (eB b)), some (.d (.int (s : Int))), some (.d (.list (rs.map eR))), some (.own ((stayM b rs).map eR)), y4, some (.d (.list ((poss b s).map eM))), some (.d (.list ((fillF b s rs).map eR))), none] = .nx ρ' ∧
      ∃ y7, ρ' = [some (.d (eB b)), some (.d (.int (s : Int))), some (.d (.list (rs.map eR))), some (.own ((stayM b rs).map eR)), y4, some (.d (.list ((poss b s).map eM))), some (.d (.list ((keptM b s rs).map eR))), y7] := by
    refine forL_inv (fun d ρ => ∃ y7, ρ = [some (.d (eB b)), some (.d (.int (s : Int))), some (.d (.list (rs.map eR))), some (.own ((stayM b rs).map eR)), y4, some (.d (.list ((poss b s).map eM))), some (.d (.list ((trimK (poss b s) (fillF b s rs) d).map eR))), y7]) (List.range ((fillF b s rs).length - (stayM b rs).length)) ?_ ⟨none, rfl⟩
    rintro d k r ρ e ⟨y7, rfl⟩
    have hk : k < (fillF b s rs).length - (stayM b rs).length := List.mem_range.mp (by rw [e]; simp)
    obtain ⟨t1, t2, t3⟩ := trimK_sub (poss b s) (fillF b s rs) d
    have hft : Fit b.1.length (poss b s) (trimK (poss b s) (fillF b s rs) d) := hff.sub t1 (by omega)
    refine ⟨_, [some (.d (eB b)), some (.d (.int (s : Int))), some (.d (.list (rs.map eR))), some (.own ((stayM b rs).map eR)), y4, some (.d (.list ((poss b s).map eM))), some (.d (.list ((trimK (poss b s) (fillF b s rs) (d ++ [k])).map eR))), some (.d (.int (((fillF b s rs).length - 1 - k : Nat) : Int)))], rfl, ?_, _, rfl⟩
    rw [down_at (by omega), trimK_snoc]
    show g_kept_b2 [some (.d (eB b)), some (.d (.int (s : Int))), some (.d (.list (rs.map eR))), some (.own ((stayM b rs).map eR)), y4, some (.d (.list ((poss b s).map eM))), some (.d (.list ((trimK (poss b s) (fillF b s rs) d).map eR))), some (.d (.int (((fillF b s rs).length - 1 - k : Nat) : Int)))] = _
    have sl1 := slice_erase (trimK (poss b s) (fillF b s rs) d) ((fillF b s rs).length - 1 - k) (by omega) (fx := rdB 6) (fi := rdB 7) (ρ := [some (.d (eB b)), some (.d (.int (s : Int))), some (.d (.list (rs.map eR))), some (.own ((stayM b rs).map eR)), y4, some (.d (.list ((poss b s).map eM))), some (.d (.list ((trimK (poss b s) (fillF b s rs) d).map eR))), some (.d (.int (((fillF b s rs).length - 1 - k : Nat) : Int)))]) rfl rfl
    unfold g_kept_b2 tStep
    rw [f2]
    have ht : truD (.list ((unmetM (poss b s) ((trimK (poss b s) (fillF b s rs) d).eraseIdx ((fillF b s rs).length - 1 - k))).map eM)) = some (!decide (unmetM (poss b s) ((trimK (poss b s) (fillF b s rs) d).eraseIdx ((fillF b s rs).length - 1 - k)) = [])) := by
      rw [truD_list]
      cases unmetM (poss b s) ((trimK (poss b s) (fillF b s rs) d).eraseIdx ((fillF b s rs).length - 1 - k)) <;> rfl
    simp only [ifS_ap, setS_ap, thenS_ap, notT_ap, toTru_ap, callR_ap, asCons_ap, asNil_ap, sl1, rd_ap, List.getElem?_cons_succ, List.getElem?_cons_zero, Res.bind_ok, Res.map_ok, List.length_cons, List.length_nil, Nat.zero_add, Nat.reduceAdd, if_true, m_unmet (hft.erase _), res_ro, ht, Res.of_some, Bool.not_not, List.set_cons_succ, List.set_cons_zero]
    by_cases hc : unmetM (poss b s) ((trimK (poss b s) (fillF b s rs) d).eraseIdx ((fillF b s rs).length - 1 - k)) = []
    · rw [if_pos (decide_eq_true hc), if_pos hc]
    · rw [if_neg (by rw [decide_eq_false hc]; decide), if_neg hc]
  have e4 : lendO 3 (callO 3 f_filled (asCons (rd 0) (asCons (rd 5) (asCons (rd 3) asNil)))) [some (.d (eB b)), some (.d (.int (s : Int))), some (.d (.list (rs.map eR))), some (.own ((stayM b rs).map eR)), y4, some (.d (.list ((poss b s).map eM))), none, none] = .ok ((fillF b s rs).map eR) := by
    rw [lendO_own (xs := (stayM b rs).map eR) rfl]
    simp only [frzAt_ap, List.getElem?_cons_succ, List.getElem?_cons_zero, List.set_cons_succ, List.set_cons_zero, callO_ap, asCons_ap, asNil_ap, rd_ap, Res.bind_ok, Res.map_ok, List.length_cons, List.length_nil, Nat.zero_add, Nat.reduceAdd, if_true, hfill, own_ro, flatA_map flat_R]
  have l6 : lenD [.list ((fillF b s rs).map eR)] = some (.int ((fillF b s rs).length : Int)) := by rw [lenD_list, List.length_map]
  have l3 : lenD [.list ((stayM b rs).map eR)] = some (.int ((stayM b rs).length : Int)) := by rw [lenD_list, List.length_map]
  have d2 := down2 (n := (fillF b s rs).length) (m := (stayM b rs).length) (by omega) hle
  unfold f_kept
  rw [runD_eq]
  show ofS (g_kept [some (.d (eB b)), some (.d (.int (s : Int))), some (.d (.list (rs.map eR))), none, none, none, none, none]) = _
  unfold g_kept
  simp only [seqS_ap, dropS_ap, setS_ap, setO_ap, forS_ap, retS_ap, thenS_ap, frz_ap, disp_ap, cb_ap, toSeq_ap, op2_ap, negR_ap, callR_ap, asCons_ap, asNil_ap, rd_ap, rdB_ap, kst_ap, List.getElem?_cons_succ, List.getElem?_cons_zero, Res.bind_ok, Res.map_ok, List.length_cons, List.length_nil, Nat.zero_add, Nat.reduceAdd, Nat.zero_le, if_true, m_look_strength h s1 s3 sl, he, res_rt, res_ro, List.set_cons_succ, List.set_cons_zero, seqOf_list, Res.of_some, w1, hp, e4, l6, l3, intD_int, d2, w2, ofS_rt]
end
end DL

/-! The plain part, 41: searching for so many tests at the most (no program in sight). -/
namespace DL
open PySem PySem.Spec PyProof.Rows L2
/-- the search: hard: which meeting left is looked at; most: how many one test meets -/
def enoughM (ev : List (List Nat)) (hard : List Meet → Meet) (most : Nat) : Nat → List Meet → Option (List (List Nat))
  | 0, left => if left = [] then some [] else none
  | many + 1, left => if left = [] then some [] else if (many + 1) * most < left.length then none else
    (ev.filter fun t => meets t (hard left)).findSome? fun t => (enoughM ev hard most many (unmetM left [t])).map fun f => t :: f
theorem unmet_cons (left : List Meet) (t : List Nat) (f : List (List Nat)) : unmetM (unmetM left [t]) f = unmetM left (t :: f) := by
  unfold unmetM
  rw [List.filter_filter]
  refine List.filter_congr fun m _ => ?_
  simp only [List.any_cons, List.any_nil, Bool.or_false, Bool.not_or]
  exact Bool.and_comm _ _
theorem enough_sound {ev : List (List Nat)} {hard : List Meet → Meet} {most : Nat} : ∀ {many : Nat} {left : List Meet} {f : List (List Nat)}, enoughM ev hard most many left = some f → f.length ≤ many ∧ (∀ t ∈ f, t ∈ ev) ∧ unmetM left f = []
  | 0, left, f, h => by
    unfold enoughM at h
    split at h
    · rename_i hl
      cases h
      subst hl
      exact ⟨Nat.le_refl _, fun _ z => by (cases z), rfl⟩
    · cases h
  | many + 1, left, f, h => by
    unfold enoughM at h
    split at h
    · rename_i hl
      cases h
      subst hl
      exact ⟨by simp, fun _ z => by (cases z), rfl⟩
    · split at h
      · cases h
      · obtain ⟨t, ht, e⟩ := List.exists_of_findSome?_eq_some h
        obtain ⟨g, hg, rfl⟩ := Option.map_eq_some_iff.mp e
        obtain ⟨h1, h2, h3⟩ := enough_sound hg
        refine ⟨by simp; omega, fun t' ht' => ?_, by rw [← unmet_cons]; exact h3⟩
        rcases List.mem_cons.mp ht' with rfl | ht'
        · exact (List.mem_filter.mp ht).1
        · exact h2 t' ht'
/-- what a list of tests meets, counted -/
theorem met_count {most : Nat} : ∀ (g : List (List Nat)) (left : List Meet), (∀ t ∈ g, ∀ l : List Meet, l.Sublist left → newsM l t ≤ most) → left.length ≤ (unmetM left g).length + g.length * most
  | [], left, _ => by rw [unmet_nil]; exact Nat.le_add_right _ _
  | t :: g, left, h => by
    have h1 := met_nat left t
    have h2 := h t (by simp) left (List.Sublist.refl _)
    have hsub : (unmetM left [t]).Sublist left := List.filter_sublist
    have h3 := met_count g (unmetM left [t]) fun t' ht' l hl => h t' (by simp [ht']) l (hl.trans hsub)
    rw [unmet_cons] at h3
    rw [List.length_cons, Nat.add_mul, Nat.one_mul]
    omega
theorem unmet_same {left : List Meet} {f g : List (List Nat)} (h : ∀ t, t ∈ f ↔ t ∈ g) : unmetM left f = unmetM left g := by
  unfold unmetM
  refine List.filter_congr fun m _ => ?_
  congr 1
  rw [Bool.eq_iff_iff, List.any_eq_true, List.any_eq_true]
  constructor
  · rintro ⟨t, ht, e⟩; exact ⟨t, (h t).mp ht, e⟩
  · rintro ⟨t, ht, e⟩; exact ⟨t, (h t).mpr ht, e⟩
theorem enough_complete {ev : List (List Nat)} {hard : List Meet → Meet} {most : Nat} (hh : ∀ left : List Meet, left ≠ [] → hard left ∈ left) : ∀ {many : Nat} {left : List Meet} {g : List (List Nat)}, g.length ≤ many → (∀ t ∈ g, t ∈ ev) → (∀ t ∈ ev, ∀ l : List Meet, l.Sublist left → newsM l t ≤ most) → unmetM left g = [] → enoughM ev hard most many left ≠ none
  | 0, left, g, hl, _, _, hc => by
    have : g = [] := List.length_eq_zero_iff.mp (by omega)
    subst this
    have hleft : left = [] := by rw [unmet_nil] at hc; exact hc
    unfold enoughM
    rw [if_pos hleft]
    simp
  | many + 1, left, g, hl, hg, hm, hc => by
    unfold enoughM
    by_cases hleft : left = []
    · rw [if_pos hleft]; simp
    · rw [if_neg hleft]
      have cnt := met_count g left fun t ht l hl => hm t (hg t ht) l hl
      rw [hc, List.length_nil, Nat.zero_add] at cnt
      have : g.length * most ≤ (many + 1) * most := Nat.mul_le_mul_right _ hl
      rw [if_neg (by omega)]
      have hin := hh left hleft
      have hcov := List.filter_eq_nil_iff.mp hc (hard left) hin
      rw [Bool.not_eq_true, Bool.not_eq_false'] at hcov
      obtain ⟨t, ht, hmt⟩ := List.any_eq_true.mp hcov
      have hsub : (unmetM left [t]).Sublist left := List.filter_sublist
      have e2 : unmetM (unmetM left [t]) (g.erase t) = [] := by
        rw [unmet_cons, unmet_same (g := g) fun t' => ?_]
        · exact hc
        · constructor
          · intro h
            rcases List.mem_cons.mp h with rfl | h
            · exact ht
            · exact List.mem_of_mem_erase h
          · intro h
            by_cases e : t' = t
            · subst e; simp
            · exact List.mem_cons_of_mem _ ((List.mem_erase_of_ne e).mpr h)
      have recu := enough_complete (most := most) hh (many := many) (left := unmetM left [t]) (g := g.erase t) (by rw [List.length_erase_of_mem ht]; omega) (fun t' ht' => hg t' (List.mem_of_mem_erase ht')) (fun t' ht' l hl => hm t' ht' l (hl.trans hsub)) e2
      intro hn
      rw [List.findSome?_eq_none_iff] at hn
      have := hn t (List.mem_filter.mpr ⟨hg t ht, hmt⟩)
      rw [Option.map_eq_none_iff] at this
      exact recu this
/-- a search finds just where there is a cover of so many -/
theorem enough_iff {ev : List (List Nat)} {hard : List Meet → Meet} {most : Nat} (hh : ∀ left : List Meet, left ≠ [] → hard left ∈ left) {many : Nat} {left : List Meet} (hm : ∀ t ∈ ev, ∀ l : List Meet, l.Sublist left → newsM l t ≤ most) :
    enoughM ev hard most many left ≠ none ↔ ∃ g : List (List Nat), g.length ≤ many ∧ (∀ t ∈ g, t ∈ ev) ∧ unmetM left g = [] := by
  constructor
  · intro h
    cases he : enoughM ev hard most many left with
    | none => exact absurd he h
    | some f => exact ⟨f, enough_sound he⟩
  · rintro ⟨g, h1, h2, h3⟩
    exact enough_complete hh h1 h2 hm h3
end DL

/-! The plain part, 42: a greatest list of meetings that are apart (no program in sight). -/
namespace DL
open PySem PySem.Spec PyProof.Rows L2
/-- no test meets both -/
def apB (ev : List (List Nat)) (one other : Meet) : Bool := !(ev.any fun t => meets t one && meets t other)
structure AS where
  best : List Meet
  todo : List (List Meet × List Meet)
def apGo (a : AS) : Bool := !a.todo.isEmpty
def apLast (a : AS) : List Meet × List Meet := a.todo.getLast?.getD ([], [])
def apBest (a : AS) : List Meet := if a.best.length < (apLast a).1.length then (apLast a).1 else a.best
def apMore (ev : List (List Nat)) (a : AS) : List (List Meet × List Meet) := match (apLast a).2 with
  | [] => []
  | r :: rs => if (apBest a).length < (apLast a).1.length + (rs.length + 1) then [((apLast a).1, rs), ((apLast a).1 ++ [r], rs.filter fun m => apB ev r m)] else []
def apStep (ev : List (List Nat)) (a : AS) : AS := ⟨apBest a, a.todo.dropLast ++ apMore ev a⟩
def Apart2 (ev : List (List Nat)) (L : List Meet) : Prop := L.Pairwise fun x y => apB ev x y = true
structure ApI (ev : List (List Nat)) (some_ : List Meet) (a : AS) : Prop where
  bs : a.best.Sublist some_
  bp : Apart2 ev a.best
  ns : ∀ n ∈ a.todo, (n.1 ++ n.2).Sublist some_
  np : ∀ n ∈ a.todo, Apart2 ev n.1
  nx : ∀ n ∈ a.todo, ∀ x ∈ n.1, ∀ y ∈ n.2, apB ev x y = true
  all : ∀ L : List Meet, L.Sublist some_ → Apart2 ev L → L.length ≤ a.best.length ∨ ∃ n ∈ a.todo, ∃ sub : List Meet, sub.Sublist n.2 ∧ L = n.1 ++ sub
theorem ApI.start (ev : List (List Nat)) (some_ : List Meet) : ApI ev some_ ⟨[], [([], some_)]⟩ :=
  ⟨List.nil_sublist _, .nil, fun n hn => by rw [List.mem_singleton.mp hn]; exact List.Sublist.refl _, fun n hn => by rw [List.mem_singleton.mp hn]; exact .nil, fun n hn x hx => (by rw [List.mem_singleton.mp hn] at hx; cases hx),
    fun L hL _ => .inr ⟨_, List.mem_singleton.mpr rfl, L, hL, rfl⟩⟩
theorem apLast_split {a : AS} (h : apGo a = true) : a.todo = a.todo.dropLast ++ [apLast a] := by
  have hne : a.todo ≠ [] := fun z => by unfold apGo at h; rw [z] at h; cases h
  have : apLast a = a.todo.getLast hne := by unfold apLast; rw [List.getLast?_eq_some_getLast hne]; rfl
  rw [this, List.dropLast_concat_getLast]
theorem ApI.step {ev : List (List Nat)} {some_ : List Meet} {a : AS} (h : ApI ev some_ a) (hc : apGo a = true) : ApI ev some_ (apStep ev a) := by
  have sp := apLast_split hc
  have hmem : apLast a ∈ a.todo := by rw [sp]; simp
  have hdrop : ∀ n ∈ a.todo.dropLast, n ∈ a.todo := fun n hn => List.dropLast_subset _ hn
  have l1 := h.ns _ hmem
  have l2 := h.np _ hmem
  have l3 := h.nx _ hmem
  have hb : a.best.length ≤ (apBest a).length ∧ (apLast a).1.length ≤ (apBest a).length := by unfold apBest; split <;> omega
  have more : ∀ n ∈ apMore ev a, (n.1 ++ n.2).Sublist some_ ∧ Apart2 ev n.1 ∧ ∀ x ∈ n.1, ∀ y ∈ n.2, apB ev x y = true := by
    intro n hn
    unfold apMore at hn
    cases hr : (apLast a).2 with
    | nil => rw [hr] at hn; cases hn
    | cons r rs =>
      rw [hr] at hn l1 l3
      dsimp only at hn
      split at hn
      · rcases List.mem_cons.mp hn with rfl | hn
        · exact ⟨(List.Sublist.append (List.Sublist.refl _) (List.sublist_cons_self r rs)).trans l1, l2, fun x hx y hy => l3 x hx y (by simp [hy])⟩
        · rw [List.mem_singleton.mp hn]
          refine ⟨?_, ?_, fun x hx y hy => ?_⟩
          · show (((apLast a).1 ++ [r]) ++ rs.filter _).Sublist some_
            rw [List.append_assoc]
            exact (List.Sublist.append (List.Sublist.refl _) (List.Sublist.cons_cons r List.filter_sublist)).trans l1
          · exact List.pairwise_append.mpr ⟨l2, List.pairwise_singleton _ _, fun x hx y hy => by rw [List.mem_singleton.mp hy]; exact l3 x hx r (by simp)⟩
          · obtain ⟨hy1, hy2⟩ := List.mem_filter.mp hy
            rcases List.mem_append.mp hx with hx | hx
            · exact l3 x hx y (by simp [hy1])
            · rw [List.mem_singleton.mp hx]; exact hy2
      · cases hn
  refine ⟨?_, ?_, fun n hn => ?_, fun n hn => ?_, fun n hn => ?_, fun L hL hA => ?_⟩
  · show (apBest a).Sublist some_
    unfold apBest
    split
    · exact (List.sublist_append_left _ _).trans l1
    · exact h.bs
  · show Apart2 ev (apBest a)
    unfold apBest
    split
    · exact l2
    · exact h.bp
  · rcases List.mem_append.mp hn with hn | hn
    · exact h.ns n (hdrop n hn)
    · exact (more n hn).1
  · rcases List.mem_append.mp hn with hn | hn
    · exact h.np n (hdrop n hn)
    · exact (more n hn).2.1
  · rcases List.mem_append.mp hn with hn | hn
    · exact h.nx n (hdrop n hn)
    · exact (more n hn).2.2
  · show L.length ≤ (apBest a).length ∨ ∃ n ∈ a.todo.dropLast ++ apMore ev a, ∃ sub : List Meet, sub.Sublist n.2 ∧ L = n.1 ++ sub
    rcases h.all L hL hA with hle | ⟨n, hn, sub, hs, rfl⟩
    · exact .inl (by omega)
    · rw [sp] at hn
      rcases List.mem_append.mp hn with hn | hn
      · exact .inr ⟨n, List.mem_append.mpr (.inl hn), sub, hs, rfl⟩
      · have en := List.mem_singleton.mp hn
        subst en
        by_cases hbig : (apBest a).length < ((apLast a).1 ++ sub).length
        · right
          cases hr : (apLast a).2 with
          | nil =>
            rw [hr] at hs
            rw [List.sublist_nil.mp hs, List.append_nil] at hbig
            omega
          | cons r rs =>
            rw [hr] at hs
            have hlen : sub.length ≤ rs.length + 1 := by have := hs.length_le; rw [List.length_cons] at this; exact this
            have hm : apMore ev a = [((apLast a).1, rs), ((apLast a).1 ++ [r], rs.filter fun m => apB ev r m)] := by
              unfold apMore
              rw [hr]
              dsimp only
              rw [if_pos (by rw [List.length_append] at hbig; omega)]
            rw [hm]
            rcases List.sublist_cons_iff.mp hs with hs2 | ⟨sub', e, hs2⟩
            · exact ⟨((apLast a).1, rs), List.mem_append.mpr (.inr (by simp)), sub, hs2, rfl⟩
            · subst e
              refine ⟨((apLast a).1 ++ [r], rs.filter fun m => apB ev r m), List.mem_append.mpr (.inr (by simp)), sub', ?_, by simp⟩
              have hp : ∀ y ∈ sub', apB ev r y = true := by
                have := (List.pairwise_append.mp hA).2.1
                exact fun y hy => (List.pairwise_cons.mp this).1 y hy
              have := hs2.filter fun m => apB ev r m
              rwa [List.filter_eq_self.mpr hp] at this
        · exact .inl (by omega)
/-- how much is left to be done -/
def apMu (a : AS) : Nat := (a.todo.map fun n => 3 ^ n.2.length).sum
theorem apMu_less {ev : List (List Nat)} {a : AS} (hc : apGo a = true) : apMu (apStep ev a) < apMu a := by
  have sp := apLast_split hc
  have e1 : apMu a = (a.todo.dropLast.map fun n => 3 ^ n.2.length).sum + 3 ^ (apLast a).2.length := by
    unfold apMu
    conv => lhs; rw [sp]
    rw [List.map_append, List.sum_append]
    simp
  have e2 : apMu (apStep ev a) = (a.todo.dropLast.map fun n => 3 ^ n.2.length).sum + ((apMore ev a).map fun n => 3 ^ n.2.length).sum := by
    show ((a.todo.dropLast ++ apMore ev a).map fun n => 3 ^ n.2.length).sum = _
    rw [List.map_append, List.sum_append]
  rw [e1, e2]
  have hp : 0 < 3 ^ (apLast a).2.length := Nat.pos_of_ne_zero (by simp)
  unfold apMore
  cases hr : (apLast a).2 with
  | nil => simp
  | cons r rs =>
    dsimp only
    split
    · have hf : 3 ^ (rs.filter fun m => apB ev r m).length ≤ 3 ^ rs.length := Nat.pow_le_pow_right (by decide) (List.length_filter_le _ _)
      have hs : 3 ^ (r :: rs).length = 3 ^ rs.length * 3 := by rw [List.length_cons, Nat.pow_succ]
      have h0 : 0 < 3 ^ rs.length := Nat.pos_of_ne_zero (by simp)
      simp only [List.map_cons, List.map_nil, List.sum_cons, List.sum_nil]
      omega
    · have h0 : 0 < 3 ^ (r :: rs).length := Nat.pos_of_ne_zero (by simp)
      simp only [List.map_nil, List.sum_nil]
      omega
/-- at the end the best is greatest -/
theorem ApI.done {ev : List (List Nat)} {some_ : List Meet} {a : AS} (h : ApI ev some_ a) (hc : apGo a = false) : ∀ L : List Meet, L.Sublist some_ → Apart2 ev L → L.length ≤ a.best.length := fun L hL hA => by
  rcases h.all L hL hA with h | ⟨n, hn, _⟩
  · exact h
  · unfold apGo at hc
    have : a.todo = [] := by simpa using hc
    rw [this] at hn
    cases hn
end DL

/-! The plain part, 43: trees that tell that so many tests are not enough (no program in sight). -/
namespace DL
open PySem PySem.Spec PyProof.Rows L2
/-- a meeting, and for each test that meets it a tree -/
inductive Tr where
  | nd (m : Meet) (rows : List (List Nat × Tr))
def treeM (ev : List (List Nat)) (hard : List Meet → Meet) : Nat → List Meet → Tr
  | 0, left => .nd (hard left) []
  | many + 1, left => .nd (hard left) ((ev.filter fun t => meets t (hard left)).map fun t => (t, treeM ev hard many (unmetM left [t])))
/-- a tree for tests taken and so many more -/
inductive Holds (ev : List (List Nat)) (ok : Meet → Prop) : List (List Nat) → Nat → Tr → Prop
  | zero {taken : List (List Nat)} {m : Meet} : ok m → (∃ t ∈ ev, meets t m = true) → (∀ t ∈ taken, meets t m = false) → Holds ev ok taken 0 (.nd m [])
  | succ {taken : List (List Nat)} {many : Nat} {m : Meet} {rows : List (List Nat × Tr)} : ok m → (∃ t ∈ ev, meets t m = true) → (∀ t ∈ taken, meets t m = false) → rows.map (·.1) = (ev.filter fun t => meets t m) →
      (∀ r ∈ rows, Holds ev ok (taken ++ [r.1]) many r.2) → Holds ev ok taken (many + 1) (.nd m rows)
/-- where a tree holds, so many tests behind those taken leave something -/
theorem holds_right {ev : List (List Nat)} {ok : Meet → Prop} {P : List Meet} (hP : ∀ m, ok m → (∃ t ∈ ev, meets t m = true) → m ∈ P) : ∀ {many : Nat} {taken : List (List Nat)} {tr : Tr}, Holds ev ok taken many tr → ∀ g : List (List Nat), g.length ≤ many → (∀ t ∈ g, t ∈ ev) → unmetM P (taken ++ g) ≠ []
  | 0, taken, _, .zero h1 h2 h3, g, hl, hg, hc => by
    have : g = [] := List.length_eq_zero_iff.mp (by omega)
    subst this
    rw [List.append_nil] at hc
    have hm := List.filter_eq_nil_iff.mp hc _ (hP _ h1 h2)
    rw [Bool.not_eq_true, Bool.not_eq_false'] at hm
    obtain ⟨t, ht, e⟩ := List.any_eq_true.mp hm
    rw [h3 t ht] at e
    cases e
  | many + 1, taken, _, .succ (m := m) (rows := rows) h1 h2 h3 h4 h5, g, hl, hg, hc => by
    have hm := List.filter_eq_nil_iff.mp hc _ (hP _ h1 h2)
    rw [Bool.not_eq_true, Bool.not_eq_false'] at hm
    obtain ⟨t, ht, e⟩ := List.any_eq_true.mp hm
    rcases List.mem_append.mp ht with ht | ht
    · rw [h3 t ht] at e
      cases e
    · have hdue : t ∈ rows.map (·.1) := by rw [h4]; exact List.mem_filter.mpr ⟨hg t ht, e⟩
      obtain ⟨r, hr, rfl⟩ := List.mem_map.mp hdue
      refine holds_right hP (h5 r hr) (g.erase r.1) (by rw [List.length_erase_of_mem ht]; omega) (fun t' ht' => hg t' (List.mem_of_mem_erase ht')) ?_
      rw [unmet_same (g := taken ++ g) fun t' => ?_]
      · exact hc
      · simp only [List.mem_append, List.mem_singleton]
        constructor
        · rintro ((h | rfl) | h)
          · exact .inl h
          · exact .inr ht
          · exact .inr (List.mem_of_mem_erase h)
        · rintro (h | h)
          · exact .inl (.inl h)
          · by_cases e2 : t' = r.1
            · exact .inl (.inr e2)
            · exact .inr ((List.mem_erase_of_ne e2).mpr h)
/-- the tree that is told holds, where there is no cover of so many -/
theorem tree_holds {ev : List (List Nat)} {hard : List Meet → Meet} {ok : Meet → Prop} (hh : ∀ left : List Meet, left ≠ [] → hard left ∈ left) : ∀ {many : Nat} {taken : List (List Nat)} {left : List Meet}, (∀ m ∈ left, ok m ∧ (∃ t ∈ ev, meets t m = true) ∧ ∀ t ∈ taken, meets t m = false) →
    (¬ ∃ g : List (List Nat), g.length ≤ many ∧ (∀ t ∈ g, t ∈ ev) ∧ unmetM left g = []) → Holds ev ok taken many (treeM ev hard many left)
  | 0, taken, left, hl, hno => by
    have hne : left ≠ [] := fun z => hno ⟨[], by simp, fun _ z => by (cases z), by rw [z]; rfl⟩
    obtain ⟨h1, h2, h3⟩ := hl _ (hh left hne)
    exact .zero h1 h2 h3
  | many + 1, taken, left, hl, hno => by
    have hne : left ≠ [] := fun z => hno ⟨[], by simp, fun _ z => by (cases z), by rw [z]; rfl⟩
    obtain ⟨h1, h2, h3⟩ := hl _ (hh left hne)
    unfold treeM
    refine .succ h1 h2 h3 (by rw [List.map_map]; exact List.map_id _) fun r hr => ?_
    obtain ⟨t, ht, rfl⟩ := List.mem_map.mp hr
    obtain ⟨ht1, ht2⟩ := List.mem_filter.mp ht
    refine tree_holds hh (fun m hm => ?_) fun ⟨g, g1, g2, g3⟩ => hno ⟨t :: g, by simp; omega, fun t' ht' => ?_, by rw [← unmet_cons]; exact g3⟩
    · obtain ⟨k1, k2, k3⟩ := hl m (unmet_sub m hm)
      refine ⟨k1, k2, fun t' ht' => ?_⟩
      rcases List.mem_append.mp ht' with ht' | ht'
      · exact k3 t' ht'
      · rw [List.mem_singleton.mp ht']
        have := (List.mem_filter.mp hm).2
        simpa using this
    · rcases List.mem_cons.mp ht' with rfl | ht'
      · exact ht1
      · exact g2 t' ht'
end DL

/-! The plain part, 44: texts: a split, joined. -/
namespace DL
open PySem PySem.Spec PyProof.Rows L2 TL
theorem joinL_cons (S : List Nat) (p : List Nat) {r : List (List Nat)} (h : r ≠ []) : joinL S (p :: r) = p ++ (S ++ joinL S r) := by
  cases r with
  | nil => exact absurd rfl h
  | cons q r => rfl
theorem spl_ne (c : Nat) : ∀ (xs acc : List Nat), spl [c] 0 acc xs ≠ []
  | [], acc => by simp [spl]
  | x :: r, acc => by
    unfold spl
    split
    · simp
    · exact spl_ne c r _
theorem joinL_spl (c : Nat) : ∀ (xs acc : List Nat), joinL [c] (spl [c] 0 acc xs) = acc ++ xs
  | [], acc => by simp [spl, joinL]
  | x :: r, acc => by
    unfold spl
    split
    · rename_i hp
      have hx : x = c := by
        simpa [pre] using hp
      show joinL [c] (acc :: spl [c] 0 [] r) = _
      rw [joinL_cons _ _ (spl_ne c r []), joinL_spl c r [], hx]
      simp
    · rw [joinL_spl c r (acc ++ [x])]
      simp
theorem join_split {x y : Str} {c : Nat} (ey : tl y = [c]) (hk : ¬ Builtin.Str.strKind x < Builtin.Str.strKind y) : Txt.join y (Txt.split x y) = x := by
  have h : tl (Txt.join y (Txt.split x y)) = tl x := by
    rw [join_eq, tl_join, ey]
    have := split_spl x y (by rw [ey]; simp) hk
    rw [this, ey, joinL_spl]
    rfl
  exact ext_tl h
end DL

/-! The plain part, 45: figures and pairs in texts. -/
namespace DL
open PySem PySem.Spec PyProof.Rows L2 TL SX
/-- a figure's text -/
def dig (d : Nat) : Str := S [48 + d]
def figs : Str := Str.ofString "0123456789"
def figL : List Nat := [48, 49, 50, 51, 52, 53, 54, 55, 56, 57]
theorem figs_S : figs = S figL := ext_tl (by unfold figs; rw [tl_ofString]; rfl)
theorem dig_len (d : Nat) : (dig d).length = 1 := rfl
theorem in_figs (c : Nat) : inS true (.str (S [c])) (.str figs) = some (.bool (!decide (c ∈ figL))) := by
  show some (PyData.bool (true ^^ !(Builtin.Str.occurrences figs (S [c]) 0 figs.length 1).isEmpty)) = _
  rw [figs_S, in_one, Bool.true_xor]
theorem idx_figs : ∀ d : Nat, d < 10 → idxS figs (.str (dig d)) = some (.int (d : Int)) := by
  have h : ∀ d : Nat, d < 10 → Builtin.Str.occurrences (S figL) (S [48 + d]) 0 (S figL).length 1 = [d] := by decide +kernel
  intro d hd
  show (match Builtin.Str.occurrences figs (S [48 + d]) 0 figs.length 1 with
    | i :: _ => some (PyData.int (i : Nat))
    | [] => none) = _
  rw [figs_S, h d hd]
theorem figL_mem {c : Nat} (h : c ∈ figL) : ∃ d : Nat, d < 10 ∧ c = 48 + d := by
  unfold figL at h
  simp only [List.mem_cons, List.not_mem_nil, or_false] at h
  exact ⟨c - 48, by omega, by omega⟩
theorem figL_has {d : Nat} (h : d < 10) : 48 + d ∈ figL := by
  unfold figL
  simp only [List.mem_cons, List.not_mem_nil, or_false]
  omega
section
open DM
theorem figure_dig {d : Nat} (hd : d < 10) : f_figure_in [.str (dig d)] = .rt (.int (d : Int)) := by
  have hl : lenD [.str (dig d)] = some (.int 1) := by
    have := sizeLine_big
    show (if (dig d).length ≤ sizeLine then some (PyData.int ((dig d).length : Nat)) else none) = _
    rw [if_pos (by rw [dig_len]; omega)]
    rfl
  have h1 := in_figs (48 + d)
  rw [decide_eq_true (figL_has hd)] at h1
  have h2 := idx_figs d hd
  change inS true (.str (dig d)) (.str (Str.ofString "0123456789")) = _ at h1
  change idxS (Str.ofString "0123456789") (.str (dig d)) = _ at h2
  unfold f_figure_in
  rw [runD_eq]
  show ofS (g_figure_in [some (.d (.str (dig d)))]) = _
  unfold g_figure_in idxSR
  simp only [seqS_ap, ifS_ap, retS_ap, thenS_ap, orT_ap, toB_ap, op2_ap, cb_ap, asCons_ap, asNil_ap, rdB_ap, kst_ap, List.getElem?_cons_succ, List.getElem?_cons_zero, Res.bind_ok, Res.map_ok, hl, Res.of_some, neD_int, decide_true, Bool.not_true, boolD_bool, Bool.false_eq_true, if_false, h1, h2, ofS_rt]
theorem figure_any (w : Str) (hw : w.length ≤ sizeLine) : (∃ d : Nat, d < 10 ∧ w = dig d ∧ f_figure_in [.str w] = .rt (.int (d : Int))) ∨ f_figure_in [.str w] = .ex ⟨"BadText", none⟩ := by
  have hl : lenD [.str w] = some (.int (w.length : Int)) := by
    show (if w.length ≤ sizeLine then some (PyData.int (w.length : Nat)) else none) = _
    rw [if_pos hw]
  by_cases h1 : w.length = 1
  · obtain ⟨c, rfl⟩ : ∃ c, w = S [c] := by
      have hl := len_tl w
      rw [h1] at hl
      match ht : tl w, hl with
      | [c], _ => exact ⟨c, ext_tl (by rw [ht])⟩
    by_cases hc : c ∈ figL
    · obtain ⟨d, hd, rfl⟩ := figL_mem hc
      exact .inl ⟨d, hd, rfl, figure_dig hd⟩
    · right
      have h2 := in_figs c
      rw [decide_eq_false hc] at h2
      change inS true (.str (S [c])) (.str (Str.ofString "0123456789")) = _ at h2
      unfold f_figure_in
      rw [runD_eq]
      show ofS (g_figure_in [some (.d (.str (S [c])))]) = _
      unfold g_figure_in raiseS
      have e1 : decide (((S [c]).length : Int) = 1) = true := decide_eq_true (by rw [h1]; rfl)
      simp only [seqS_ap, ifS_ap, thenS_ap, orT_ap, toB_ap, op2_ap, cb_ap, asCons_ap, asNil_ap, rdB_ap, kst_ap, List.getElem?_cons_succ, List.getElem?_cons_zero, Res.bind_ok, Res.map_ok, hl, Res.of_some, neD_int, e1, Bool.not_true, boolD_bool, Bool.false_eq_true, if_false, h2, Bool.not_false, if_true, ofS_ex]
  · right
    have e1 : decide ((w.length : Int) = 1) = false := decide_eq_false (by omega)
    unfold f_figure_in
    rw [runD_eq]
    show ofS (g_figure_in [some (.d (.str w))]) = _
    unfold g_figure_in raiseS
    simp only [seqS_ap, ifS_ap, thenS_ap, orT_ap, toB_ap, op2_ap, cb_ap, asCons_ap, asNil_ap, rdB_ap, kst_ap, List.getElem?_cons_succ, List.getElem?_cons_zero, Res.bind_ok, Res.map_ok, hl, Res.of_some, neD_int, e1, Bool.not_false, boolD_bool, if_true, ofS_ex]
end
end DL

/-! The plain part, 46: the fewest tests, a greatest list apart: as numbers (no program in sight). -/
namespace DL
open PySem PySem.Spec PyProof.Rows L2
/-- found at many, at none less: a cover, and none is of fewer -/
theorem fewest_least {ev : List (List Nat)} {hard : List Meet → Meet} {most : Nat} (hh : ∀ left : List Meet, left ≠ [] → hard left ∈ left) {left : List Meet} (hm : ∀ t ∈ ev, ∀ l : List Meet, l.Sublist left → newsM l t ≤ most) {many : Nat} {f : List (List Nat)}
    (hf : enoughM ev hard most many left = some f) (hno : ∀ k, k < many → enoughM ev hard most k left = none) : f.length = many ∧ (∀ t ∈ f, t ∈ ev) ∧ unmetM left f = [] ∧ ∀ g : List (List Nat), (∀ t ∈ g, t ∈ ev) → unmetM left g = [] → many ≤ g.length := by
  obtain ⟨h1, h2, h3⟩ := enough_sound hf
  have least : ∀ g : List (List Nat), (∀ t ∈ g, t ∈ ev) → unmetM left g = [] → many ≤ g.length := fun g hg hc => by
    by_cases hlt : g.length < many
    · exact absurd (hno _ hlt) (enough_complete hh (Nat.le_refl _) hg hm hc)
    · omega
  exact ⟨Nat.le_antisymm h1 (least f h2 h3), h2, h3, least⟩
/-- where the tests meet all, some number is enough -/
theorem fewest_is {ev : List (List Nat)} {hard : List Meet → Meet} {most : Nat} (hh : ∀ left : List Meet, left ≠ [] → hard left ∈ left) {left : List Meet} (hm : ∀ t ∈ ev, ∀ l : List Meet, l.Sublist left → newsM l t ≤ most) (hc : unmetM left ev = []) :
    ∃ many f, many ≤ ev.length ∧ enoughM ev hard most many left = some f ∧ ∀ k, k < many → enoughM ev hard most k left = none := by
  have key : ∀ n : Nat, (∃ k, k ≤ n ∧ enoughM ev hard most k left ≠ none) → ∃ many f, many ≤ n ∧ enoughM ev hard most many left = some f ∧ ∀ k, k < many → enoughM ev hard most k left = none := by
    intro n
    induction n with
    | zero =>
      rintro ⟨k, hk, hne⟩
      have : k = 0 := by omega
      subst this
      cases he : enoughM ev hard most 0 left with
      | none => exact absurd he hne
      | some f => exact ⟨0, f, Nat.le_refl _, he, fun k hk => by omega⟩
    | succ n ih =>
      rintro ⟨k, hk, hne⟩
      by_cases hex : ∃ k, k ≤ n ∧ enoughM ev hard most k left ≠ none
      · obtain ⟨many, f, h1, h2, h3⟩ := ih hex
        exact ⟨many, f, by omega, h2, h3⟩
      · have hkn : k = n + 1 := by
          by_cases h : k ≤ n
          · exact absurd ⟨k, h, hne⟩ hex
          · omega
        subst hkn
        cases he : enoughM ev hard most (n + 1) left with
        | none => exact absurd he hne
        | some f =>
          refine ⟨n + 1, f, Nat.le_refl _, he, fun j hj => ?_⟩
          cases hj2 : enoughM ev hard most j left with
          | none => rfl
          | some g => exact absurd ⟨j, by omega, by rw [hj2]; simp⟩ hex
  exact key ev.length ⟨ev.length, Nat.le_refl _, enough_complete hh (Nat.le_refl _) (fun t ht => ht) hm hc⟩
/-- meetings apart want a test each -/
theorem apart_few {ev : List (List Nat)} : ∀ {L : List Meet} {g : List (List Nat)}, Apart2 ev L → (∀ t ∈ g, t ∈ ev) → unmetM L g = [] → L.length ≤ g.length
  | [], _, _, _, _ => Nat.zero_le _
  | m :: L, g, hL, hg, hc => by
    obtain ⟨h1, h2⟩ := List.pairwise_cons.mp hL
    have hm := List.filter_eq_nil_iff.mp hc m (by simp)
    rw [Bool.not_eq_true, Bool.not_eq_false'] at hm
    obtain ⟨t, ht, e⟩ := List.any_eq_true.mp hm
    have hr : unmetM L (g.erase t) = [] := by
      refine List.filter_eq_nil_iff.mpr fun x hx => ?_
      have hx2 := List.filter_eq_nil_iff.mp hc x (by simp [hx])
      rw [Bool.not_eq_true, Bool.not_eq_false'] at hx2 ⊢
      obtain ⟨t', ht', e'⟩ := List.any_eq_true.mp hx2
      have hne : t' ≠ t := fun z => by
        have := h1 x hx
        unfold apB at this
        rw [Bool.not_eq_true', List.any_eq_false] at this
        have := this t (hg t ht)
        rw [e, ← z, e'] at this
        exact this rfl
      exact List.any_eq_true.mpr ⟨t', (List.mem_erase_of_ne hne).mpr ht', e'⟩
    have := apart_few h2 (fun t' ht' => hg t' (List.mem_of_mem_erase ht')) hr
    rw [List.length_erase_of_mem ht] at this
    have : 0 < g.length := List.length_pos_of_mem ht
    rw [List.length_cons]
    omega
end DL

/-! The plain part, 47: what is read of a text of any kind. -/
namespace DL
open PySem PySem.Spec PyProof.Rows L2 TL SX
def bt : Exc := ⟨"BadText", none⟩
def resO {α : Type} : Option α → Res α
  | some d => .ok d
  | none => .ex bt
def roO : Option D → RO
  | some d => .rt d
  | none => .ex bt
@[simp] theorem roO_res (o : Option D) : (roO o).res = resO o := by cases o <;> rfl
@[simp] theorem resO_some {α : Type} (a : α) : resO (some a) = .ok a := rfl
@[simp] theorem resO_none {α : Type} : resO (none : Option α) = .ex bt := rfl
theorem roO_some (a : D) : roO (some a) = .rt a := rfl
theorem roO_none : roO none = .ex bt := rfl
def mapO {α β : Type} (f : α → Option β) : List α → Option (List β)
  | [] => some []
  | x :: xs => match f x with
    | none => none
    | some y => (mapO f xs).map (y :: ·)
theorem mapO_cons {α β : Type} {f : α → Option β} {x : α} {xs : List α} {zs : List β} (h : mapO f (x :: xs) = some zs) : ∃ y ys, f x = some y ∧ mapO f xs = some ys ∧ zs = y :: ys := by
  unfold mapO at h
  cases hx : f x with
  | none => rw [hx] at h; cases h
  | some y =>
    rw [hx] at h
    obtain ⟨ys, h1, h2⟩ := Option.map_eq_some_iff.mp h
    exact ⟨y, ys, rfl, h1, h2.symm⟩
theorem mapO_map {α β : Type} {f : α → Option β} {g : β → α} : ∀ {ys : List β}, (∀ y ∈ ys, f (g y) = some y) → mapO f (ys.map g) = some ys
  | [], _ => rfl
  | y :: ys, h => by
    rw [List.map_cons, mapO, h y (by simp)]
    show Option.map _ (mapO f (ys.map g)) = _
    rw [mapO_map fun z hz => h z (by simp [hz])]
    rfl
theorem mapO_some {α β : Type} {f : α → Option β} {g : β → α} {P : β → Prop} (h : ∀ x y, f x = some y → P y ∧ x = g y) : ∀ {xs : List α} {ys : List β}, mapO f xs = some ys → (∀ y ∈ ys, P y) ∧ xs = ys.map g
  | [], ys, e => by cases e; exact ⟨fun _ h => (by cases h), rfl⟩
  | x :: xs, zs, e => by
    obtain ⟨y, ys, h1, h2, rfl⟩ := mapO_cons e
    obtain ⟨p, rfl⟩ := h x y h1
    obtain ⟨q, rfl⟩ := mapO_some h h2
    exact ⟨fun z hz => by
      rcases List.mem_cons.mp hz with rfl | hz
      · exact p
      · exact q z hz, rfl⟩
theorem lcLX_all {α β : Type} {i : Nat} {e : Rho → Res D} {ρ : Rho} {enc : α → D} {f : α → Option β} {en : β → D} : ∀ (xs : List α), (∀ x ∈ xs, e (ρ.set i (some (.d (enc x)))) = resO ((f x).map en)) →
    lcLX (tgName i) yes e ρ (xs.map enc) = resO ((mapO f xs).map fun ys => ys.map en)
  | [], _ => rfl
  | x :: xs, h => by
    have h1 := h x (by simp)
    have ih := lcLX_all xs fun y hy => h y (by simp [hy])
    rw [List.map_cons, lcLX, tgName_run, noex_map_ok, Res.bind_ok, yes_ap, noex_map_ok, Res.bind_ok, if_pos rfl, h1, ih, mapO]
    cases f x with
    | none => rfl
    | some y => cases mapO f xs <;> rfl

/-! ### pieces -/
theorem spl_cons (c x : Nat) (r acc : List Nat) : spl [c] 0 acc (x :: r) = if x = c then acc :: spl [c] 0 [] r else spl [c] 0 (acc ++ [x]) r := by
  by_cases h : x = c
  · subst h
    rw [if_pos rfl, spl_hit (show pre [x] (x :: r) = true by simp [pre])]
    rfl
  · rw [if_neg h, spl_miss (show pre [c] (x :: r) = false by simp [pre, h])]
theorem spl_all (c : Nat) : ∀ (xs acc : List Nat), (spl [c] 0 acc xs).length ≤ xs.length + 1 ∧ ∀ p ∈ spl [c] 0 acc xs, p.length ≤ acc.length + xs.length ∧ ∀ x ∈ p, x ∈ acc ∨ x ∈ xs
  | [], acc => by
    rw [spl_nil]
    refine ⟨by simp, fun p hp => ?_⟩
    rw [List.mem_singleton] at hp
    subst hp
    exact ⟨by simp, fun x hx => .inl hx⟩
  | x :: r, acc => by
    rw [spl_cons]
    by_cases h : x = c
    · rw [if_pos h]
      obtain ⟨h1, h2⟩ := spl_all c r []
      refine ⟨by simp; omega, fun p hp => ?_⟩
      rcases List.mem_cons.mp hp with rfl | hp
      · exact ⟨by simp, fun y hy => .inl hy⟩
      · obtain ⟨h3, h4⟩ := h2 p hp
        refine ⟨by simp at h3 ⊢; omega, fun y hy => ?_⟩
        rcases h4 y hy with z | z
        · cases z
        · exact .inr (by simp [z])
    · rw [if_neg h]
      obtain ⟨h1, h2⟩ := spl_all c r (acc ++ [x])
      refine ⟨by simp; omega, fun p hp => ?_⟩
      obtain ⟨h3, h4⟩ := h2 p hp
      refine ⟨by simp at h3 ⊢; omega, fun y hy => ?_⟩
      rcases h4 y hy with z | z
      · rcases List.mem_append.mp z with z | z
        · exact .inl z
        · exact .inr (by simp at z; simp [z])
      · exact .inr (by simp [z])
/-- a text of this law: not long, of small signs -/
def Tx (t : List Nat) : Prop := t.length ≤ 100000 ∧ ∀ c ∈ t, c < 256
theorem Tx.spl {t : List Nat} (h : Tx t) (c : Nat) : (spl [c] 0 [] t).length ≤ 100001 ∧ ∀ p ∈ spl [c] 0 [] t, Tx p := by
  obtain ⟨h1, h2⟩ := spl_all c t []
  have := h.1
  refine ⟨by omega, fun p hp => ?_⟩
  obtain ⟨h3, h4⟩ := h2 p hp
  refine ⟨by simp at h3; omega, fun x hx => ?_⟩
  rcases h4 x hx with z | z
  · cases z
  · exact h.2 x z
theorem Tx.ok {t : List Nat} (h : Tx t) : (PyData.str (S t)).canLay0 = true := by
  rw [PyData.canLay0]
  show (S t).cps.all (· < 0x110000) = true
  rw [Array.all_eq_true']
  intro x hx
  have := h.2 x (by simpa using hx)
  simp
  omega
theorem sL (s : String) (l : List Nat) (h : s.toList.map Char.toNat = l) : Str.ofString s = S l := ext_tl (by rw [tl_ofString, h])
def setL : List Nat := [115, 101, 116, 116, 105, 110, 103, 115]
def banL : List Nat := [98, 97, 110]
theorem xs_nl : Str.ofString "\n" = S [10] := sL _ _ rfl
theorem xs_sp : Str.ofString " " = S [32] := sL _ _ rfl
theorem xs_co : Str.ofString ":" = S [58] := sL _ _ rfl
theorem xs_no : Str.ofString "" = S [] := sL _ _ rfl
theorem xs_set : Str.ofString "settings" = S setL := sL _ _ rfl
theorem xs_ban : Str.ofString "ban" = S banL := sL _ _ rfl
def encS (w : List Nat) : D := .str (S w)
def encW (ws : List (List Nat)) : D := .list (ws.map encS)
theorem splitD_S {t : List Nat} (h : Tx t) {c : Nat} (hc : c < 256) : splitD (S t) (.str (S [c])) = some (encW (spl [c] 0 [] t)) := by
  have hs := split_S (a := t) (b := [c]) (by simp) (by simp [hc])
  have big := sizeLine_big
  have hl := (h.spl c).1
  unfold splitD
  dsimp only
  rw [hs]
  have e1 : (S [c]).length = 1 := S_len _
  have e2 : (S t).length = t.length := S_len _
  rw [if_pos]
  · congr 1
    show PyData.list _ = PyData.list _
    congr 1
    rw [List.map_map]
    rfl
  · rw [e1, e2, List.length_map]
    have := h.1
    rw [decide_eq_true (by omega), decide_eq_true (by omega)]
    rfl
theorem lenD_S {t : List Nat} (h : Tx t) : lenD [encS t] = some (.int (t.length : Int)) := by
  have big := sizeLine_big
  have := h.1
  show (if (S t).length ≤ sizeLine then some (PyData.int ((S t).length : Nat)) else none) = _
  rw [S_len, if_pos (by omega)]
theorem eqv_S (a b : List Nat) : PyData.eqv (.str (S a)) (.str (S b)) = decide (a = b) := by
  rw [PyData.eqv]
  exact S_beq_eq
theorem Tx.shaped {t : List Nat} (h : Tx t) : SeqAt.shaped (encS t) = true := by
  unfold SeqAt.shaped
  rw [show (encS t).canLay0 = true from h.ok]
  simp [encS, PyData.depth]
theorem neS {a b : List Nat} (ha : Tx a) (hb : Tx b) : neD (encS a) (encS b) = some (.bool (!decide (a = b))) := by
  unfold neD
  rw [if_pos ⟨ha.shaped, hb.shaped⟩]
  show some (PyData.bool (!PyData.eqv (.str (S a)) (.str (S b)))) = _
  rw [eqv_S]
theorem eqS {a b : List Nat} (ha : Tx a) (hb : Tx b) : eqD (encS a) (encS b) = some (.bool (decide (a = b))) := by
  unfold eqD
  rw [if_pos ⟨ha.shaped, hb.shaped⟩]
  show some (PyData.bool (PyData.eqv (.str (S a)) (.str (S b)))) = _
  rw [eqv_S]
theorem tx_set : Tx setL := ⟨by decide, by decide⟩
theorem tx_ban : Tx banL := ⟨by decide, by decide⟩
theorem tx_no : Tx [] := ⟨by decide, by decide⟩
theorem shaped_W {ws : List (List Nat)} (h : ∀ w ∈ ws, Tx w) : SeqAt.shaped (encW ws) = true := by
  unfold SeqAt.shaped encW
  have h1 : PyData.canLayAll0 (ws.map encS) = true := by
    induction ws with
    | nil => rfl
    | cons w ws ih =>
      rw [List.map_cons, PyData.canLayAll0, show (encS w).canLay0 = true from (h w (by simp)).ok, ih fun x hx => h x (by simp [hx])]
      rfl
  have h2 : PyData.depthAll (ws.map encS) ≤ 0 := depthAll_le _ _ fun x hx => by
    obtain ⟨w, _, rfl⟩ := List.mem_map.mp hx
    simp [encS, PyData.depth]
  rw [PyData.canLay0, h1, PyData.depth, decide_eq_true (by omega)]
  rfl
theorem eqvAll_S : ∀ a b : List (List Nat), PyData.eqvAll (a.map encS) (b.map encS) = decide (a = b)
  | [], [] => by simp [PyData.eqvAll]
  | [], _ :: _ => by simp [PyData.eqvAll]
  | _ :: _, [] => by simp [PyData.eqvAll]
  | x :: xs, y :: ys => by
    rw [List.map_cons, List.map_cons, PyData.eqvAll, show PyData.eqv (encS x) (encS y) = decide (x = y) from eqv_S x y, eqvAll_S xs ys]
    by_cases h1 : x = y <;> by_cases h2 : xs = ys <;> simp [h1, h2]
theorem neW {a b : List (List Nat)} (ha : ∀ w ∈ a, Tx w) (hb : ∀ w ∈ b, Tx w) : neD (encW a) (encW b) = some (.bool (!decide (a = b))) := by
  unfold neD
  rw [if_pos ⟨shaped_W ha, shaped_W hb⟩]
  congr 3
  show PyData.eqv (.list (a.map encS)) (.list (b.map encS)) = _
  rw [PyData.eqv, eqvAll_S]
@[simp] theorem splitR_ap (fa fb : Rho → Res D) (ρ : Rho) : splitR fa fb ρ = (fa ρ).bind fun a => match a with
  | .str x => (fb ρ).bind fun b => .of (splitD x b)
  | _ => .bad := rfl
@[simp] theorem lcX_ap (fi : Rho → Res (List D)) (t : Tg) (c : Rho → Res Bool) (e : Rho → Res D) (vs : List Nat) (ρ : Rho) : lcX fi t c e vs ρ = (fi ρ).bind fun xs => lcLX t c e (wipeR ρ vs) xs := rfl
theorem atI_last (xs : List D) (z : D) : atI (xs ++ [z]) (-1) = some z := by
  unfold L2.atI
  have e : L2.ixN (xs ++ [z]).length (-1) = some xs.length := by
    unfold L2.ixN
    rw [List.length_append, List.length_singleton]
    simp
    omega
  rw [e]
  simp

/-! ### figures, pairs -/
def figM (w : List Nat) : Option Nat := match w with
  | [c] => if c ∈ figL then some (c - 48) else none
  | _ => none
theorem figM_dig {d : Nat} (h : d < 10) : figM [48 + d] = some d := by
  show (if 48 + d ∈ figL then some (48 + d - 48) else none) = _
  rw [if_pos (figL_has h)]
  congr 1
  omega
theorem figM_some {w : List Nat} {d : Nat} (h : figM w = some d) : d < 10 ∧ w = [48 + d] := by
  unfold figM at h
  split at h
  · rename_i c
    by_cases hc : c ∈ figL
    · rw [if_pos hc] at h
      cases h
      obtain ⟨d, hd, rfl⟩ := figL_mem hc
      have e : 48 + d - 48 = d := by omega
      rw [e]
      exact ⟨hd, rfl⟩
    · rw [if_neg hc] at h; cases h
  · cases h
def pairM (w : List Nat) : Option (Nat × Nat) := match spl [58] 0 [] w with
  | [a, b] => match figM a with
    | some i => match figM b with
      | some j => some (i, j)
      | none => none
    | none => none
  | _ => none
def pairL (p : Nat × Nat) : List Nat := [48 + p.1, 58, 48 + p.2]
theorem pairM_some {w : List Nat} {p : Nat × Nat} (h : pairM w = some p) : (p.1 < 10 ∧ p.2 < 10) ∧ w = pairL p := by
  have hj := joinL_spl 58 w []
  unfold pairM at h
  split at h
  · rename_i a b e
    split at h
    · rename_i i hi
      split at h
      · rename_i j hj'
        cases h
        obtain ⟨h1, rfl⟩ := figM_some hi
        obtain ⟨h2, rfl⟩ := figM_some hj'
        refine ⟨⟨h1, h2⟩, ?_⟩
        rw [e] at hj
        exact hj.symm
      · cases h
    · cases h
  · cases h
theorem pairM_dig {p : Nat × Nat} (h1 : p.1 < 10) (h2 : p.2 < 10) : pairM (pairL p) = some p := by
  have e : spl [58] 0 [] (pairL p) = [[48 + p.1], [48 + p.2]] :=
    TL.spl_join (s := 58) (S := []) (parts := [[48 + p.1], [48 + p.2]]) (by simp) (by
      intro q hq
      simp only [List.mem_cons, List.not_mem_nil, or_false] at hq
      rcases hq with rfl | rfl <;> simp <;> omega)
  unfold pairM
  rw [e]
  show (match figM [48 + p.1] with | some i => (match figM [48 + p.2] with | some j => some (i, j) | none => none) | none => none) = _
  rw [figM_dig h1, figM_dig h2]
section
open DM
theorem m_figure {w : List Nat} (h : Tx w) : f_figure_in [encS w] = roO ((figM w).map eN) := by
  have big := sizeLine_big
  have := h.1
  rcases figure_any (S w) (by rw [S_len]; omega) with ⟨d, hd, e, h1⟩ | h1
  · have e' : w = [48 + d] := S_inj e
    rw [e', figM_dig hd]
    rw [e'] at h1
    exact h1
  · cases hf : figM w with
    | none => exact h1
    | some d =>
      obtain ⟨hd, rfl⟩ := figM_some hf
      have := figure_dig hd
      rw [show dig d = S [48 + d] from rfl, h1] at this
      cases this
theorem m_pair {w : List Nat} (h : Tx w) : f_pair_in [encS w] = roO ((pairM w).map eP) := by
  have e1 : splitD (S w) (.str (Str.ofString ":")) = some (encW (spl [58] 0 [] w)) := by rw [xs_co]; exact splitD_S h (by decide)
  have hp := (h.spl 58).2
  unfold f_pair_in
  rw [runD_eq]
  show ofS (g_pair_in [some (.d (.str (S w))), none]) = _
  unfold g_pair_in raiseS
  have split2 : (∃ a b, spl [58] 0 [] w = [a, b]) ∨ (pairM w = none ∧ decide (((spl [58] 0 [] w).length : Int) = 2) = false) := by
    unfold pairM
    match spl [58] 0 [] w with
    | [] => exact .inr ⟨rfl, rfl⟩
    | [_] => exact .inr ⟨rfl, rfl⟩
    | [a, b] => exact .inl ⟨a, b, rfl⟩
    | _ :: _ :: _ :: r => exact .inr ⟨rfl, decide_eq_false (by simp; omega)⟩
  rcases split2 with ⟨a, b, e⟩ | ⟨h1, h2⟩
  · rw [e] at hp e1
    have fa := m_figure (hp a (by simp))
    have fb := m_figure (hp b (by simp))
    have hpm : pairM w = match figM a with
      | some i => match figM b with
        | some j => some (i, j)
        | none => none
      | none => none := by
      unfold pairM
      rw [e]
    have hd : decide (((2 : Nat) : Int) = 2) = true := rfl
    have el : encW [a, b] = .list [encS a, encS b] := rfl
    rw [el] at e1
    rw [hpm]
    simp only [seqS_ap, setS_ap, splitR_ap, ifS_ap, retS_ap, thenS_ap, toB_ap, op2_ap, cb_ap, asCons_ap, asNil_ap, rdB_ap, kst_ap, dispT_ap, disp_ap, callR_ap, List.getElem?_cons_succ, List.getElem?_cons_zero, Res.bind_ok, Res.map_ok, e1, Res.of_some, List.set_cons_succ, List.set_cons_zero, lenD_list, List.length_cons, List.length_nil, Nat.zero_add, Nat.reduceAdd, neD_int, hd, Bool.not_true, boolD_bool, Bool.false_eq_true, if_false, ixD_list, atI_zero, atI_one, fa, fb, roO_res, if_true]
    cases figM a with
    | none => rfl
    | some i =>
      cases figM b with
      | none => rfl
      | some j => rfl
  · rw [h1]
    simp only [seqS_ap, setS_ap, splitR_ap, ifS_ap, thenS_ap, toB_ap, op2_ap, cb_ap, asCons_ap, asNil_ap, rdB_ap, kst_ap, List.getElem?_cons_succ, List.getElem?_cons_zero, Res.bind_ok, Res.map_ok, e1, Res.of_some, List.set_cons_succ, List.set_cons_zero, encW, lenD_list, List.length_map, neD_int, h2, Bool.not_false, boolD_bool, if_true]
    rfl
end
end DL

/-! The plain part, 48: read, of any text. -/
namespace DL
open PySem PySem.Spec PyProof.Rows L2 TL SX
def banM (l : List (List Nat)) : Option Meet := match l with
  | h :: ws => if h = banL then mapO pairM ws else none
  | [] => none
def mkB (o1 : Option (List Meet)) (o2 : Option (List Nat)) : Option Book := match o1 with
  | some Bs => (match o2 with
    | some L => if isBookB (eB (L, Bs)) = true then some (L, Bs) else none
    | none => none)
  | none => none
def endB (h : List Nat) (ws : List (List Nat)) (mid : List (List (List Nat))) (z : List (List Nat)) : Option Book := if z = [[]] ∧ h = setL then mkB (mapO banM mid) (mapO figM ws) else none
def readL (l : List (List (List Nat))) : Option Book := match l with
  | f :: r => (match f with
    | h :: ws => (match r.getLast? with
      | some z => endB h ws r.dropLast z
      | none => none)
    | [] => none)
  | [] => none
theorem readL_eq (h : List Nat) (ws : List (List Nat)) (mid : List (List (List Nat))) (z : List (List Nat)) : readL ((h :: ws) :: (mid ++ [z])) = endB h ws mid z := by
  unfold readL
  simp only [List.getLast?_concat, List.dropLast_concat]
def linesOf (t : List Nat) : List (List (List Nat)) := (spl [10] 0 [] t).map (spl [32] 0 [])
def readM (t : List Nat) : Option Book := readL (linesOf t)
def Lx (l : List (List (List Nat))) : Prop := l.length ≤ 100001 ∧ ∀ ws ∈ l, ws.length ≤ 100001 ∧ ws ≠ [] ∧ ∀ w ∈ ws, Tx w
theorem lines_lx {t : List Nat} (h : Tx t) : Lx (linesOf t) ∧ linesOf t ≠ [] := by
  obtain ⟨h1, h2⟩ := h.spl 10
  refine ⟨⟨by unfold linesOf; rw [List.length_map]; exact h1, fun ws hw => ?_⟩, ?_⟩
  · obtain ⟨l, hl, rfl⟩ := List.mem_map.mp hw
    obtain ⟨h3, h4⟩ := (h2 l hl).spl 32
    exact ⟨h3, spl_ne 32 l [], h4⟩
  · unfold linesOf
    intro e
    exact spl_ne 10 t [] (List.map_eq_nil_iff.mp e)
theorem cut_1 (x : D) (xs : List D) : cutD (.list (x :: xs)) (some 1) none = some (.list xs) := by
  have := cutD_from (x :: xs) 1
  exact this
theorem cut_mid (x z : D) (xs : List D) : cutD (.list (x :: (xs ++ [z]))) (some 1) (some (-1)) = some (.list xs) := by
  show some (PyData.list (cutG (x :: (xs ++ [z])) (some 1) (some (-1)))) = _
  unfold cutG
  have e1 : HT.sIx (x :: (xs ++ [z])).length 0 (some 1) = 1 := by
    have := HT.sIx_nat (x :: (xs ++ [z])).length 0 1
    rw [show ((1 : Nat) : Int) = 1 from rfl] at this
    rw [this]
    simp
  have e2 : HT.sIx (x :: (xs ++ [z])).length (x :: (xs ++ [z])).length (some (-1)) = xs.length + 1 := by
    simp [HT.sIx]
    omega
  rw [e1, e2]
  simp
section
open DM
theorem read_e2 {y0 y1 y2 y3 y5 : Option B} {w : List Nat} (h : Tx w) : g_read_e2 [y0, y1, y2, y3, some (.d (encS w)), y5] = resO ((pairM w).map eP) := by
  unfold g_read_e2
  simp only [callR_ap, asCons_ap, asNil_ap, rd_ap, List.getElem?_cons_succ, List.getElem?_cons_zero, Res.bind_ok, Res.map_ok, List.length_cons, List.length_nil, Nat.zero_add, if_true, m_pair h, roO_res]
theorem read_e3 {y0 y1 y2 y3 y5 : Option B} {w : List Nat} (h : Tx w) : g_read_e3 [y0, y1, y2, y3, some (.d (encS w)), y5] = resO ((figM w).map eN) := by
  unfold g_read_e3
  simp only [callR_ap, asCons_ap, asNil_ap, rd_ap, List.getElem?_cons_succ, List.getElem?_cons_zero, Res.bind_ok, Res.map_ok, List.length_cons, List.length_nil, Nat.zero_add, if_true, m_figure h, roO_res]
def nxO {α : Type} (g : α → Rho) : Option α → SO
  | some a => .nx (g a)
  | none => .ex bt
theorem read_b1 {y0 y2 : Option B} {acc : List D} {ws : List (List Nat)} (h : ws ≠ []) (hw : ∀ w ∈ ws, Tx w) (ha : acc.length ≤ 200000) :
    g_read_b1 [y0, some (.d (encW ws)), y2, some (.own acc), none, none] = nxO (fun m : Meet => [y0, some (.d (encW ws)), y2, some (.own (acc ++ [eM m])), none, none]) (banM ws) := by
  have big := sizeLine_big
  match ws, h with
  | h :: ws, _ =>
    have n1 := neS (hw h (by simp)) tx_ban
    have c1 := cut_1 (encS h) (ws.map encS)
    have l1 := lcLX_all (i := 4) (e := g_read_e2) (ρ := [y0, some (.d (.list (encS h :: ws.map encS))), y2, some (.own acc), none, none]) (enc := encS) (f := pairM) (en := eP) ws fun w hw' => read_e2 (hw w (by simp [hw']))
    have hb : banM (h :: ws) = if h = banL then mapO pairM ws else none := rfl
    have eb : encS banL = .str (Str.ofString "ban") := by rw [xs_ban]; rfl
    rw [eb] at n1
    rw [hb, show encW (h :: ws) = .list (encS h :: ws.map encS) from rfl]
    unfold g_read_b1 raiseS
    have hap : ∀ (f : Rho → Res D), appS 3 f [y0, some (.d (.list (encS h :: ws.map encS))), y2, some (.own acc), none, none] = thenS f (fun ρ d => if acc.length < sizeLine then .nx (ρ.set 3 (some (.own (acc ++ [d])))) else .bad) [y0, some (.d (.list (encS h :: ws.map encS))), y2, some (.own acc), none, none] := fun f => appS_own f rfl
    simp only [seqS_ap, ifS_ap, thenS_ap, toB_ap, op2_ap, rdB_ap, kst_ap, List.getElem?_cons_succ, List.getElem?_cons_zero, Res.bind_ok, ixD_list, atI_zero, Res.of_some, n1, boolD_bool]
    by_cases he : h = banL
    · rw [if_pos he]
      simp only [he, decide_true, Bool.not_true, Bool.false_eq_true, if_false] at hap c1 l1 ⊢
      rw [hap]
      simp only [thenS_ap, cb_ap, asCons_ap, asNil_ap, frz_ap, lcX_ap, toSeq_ap, sl3_ap, ptS_ap, ptN_ap, rdB_ap, kst_ap, List.getElem?_cons_succ, List.getElem?_cons_zero, Res.bind_ok, Res.map_ok, intOf_int, Res.of_some, c1, seqOf_list, wipeR, List.set_cons_succ, List.set_cons_zero, l1]
      cases mapO pairM ws with
      | none => rfl
      | some m =>
        simp only [Option.map_some, resO_some, Res.map_ok, Res.bind_ok, toTupD_list, Res.of_some, if_pos (show acc.length < sizeLine by omega)]
        rfl
    · rw [if_neg he]
      simp only [he, decide_false, Bool.not_false, if_true]
      rfl
theorem read_loop {y0 y2 : Option B} : ∀ (ls : List (List (List Nat))) (acc : List D) (y1 : Option B), (∀ ws ∈ ls, ws ≠ [] ∧ ∀ w ∈ ws, Tx w) → acc.length + ls.length ≤ 200000 →
    (mapO banM ls = none ∧ forL (tgName 1) g_read_b1 (ls.map encW) [y0, y1, y2, some (.own acc), none, none] = .ex bt) ∨
    ∃ Bs y1', mapO banM ls = some Bs ∧ forL (tgName 1) g_read_b1 (ls.map encW) [y0, y1, y2, some (.own acc), none, none] = .nx [y0, y1', y2, some (.own (acc ++ Bs.map eM)), none, none]
  | [], acc, y1, _, _ => .inr ⟨[], y1, rfl, by simp [forL]⟩
  | ws :: ls, acc, y1, h, hl => by
    rw [List.length_cons] at hl
    obtain ⟨h1, h2⟩ := h ws (by simp)
    have b := read_b1 (y0 := y0) (y2 := y2) (acc := acc) h1 h2 (by omega)
    rw [List.map_cons, forL]
    simp only [tgName_run, List.set_cons_succ, List.set_cons_zero, b]
    unfold mapO
    cases hb : banM ws with
    | none => exact .inl ⟨rfl, rfl⟩
    | some m =>
      simp only [nxO]
      rcases read_loop ls (acc ++ [eM m]) (some (.d (encW ws))) (fun w hw => h w (by simp [hw])) (by rw [List.length_append]; simp; omega) with ⟨r1, r2⟩ | ⟨Bs, y1', r1, r2⟩
      · exact .inl ⟨by rw [r1]; rfl, r2⟩
      · exact .inr ⟨m :: Bs, y1', by rw [r1]; rfl, by rw [r2, List.map_cons]; simp⟩
theorem noDct_eB (b : Book) : noDct (eB b) = true := by
  have h1 : ∀ l : List Nat, noDctA (l.map eN) = true := fun l => noDctA_map (fun _ => rfl) l
  have h2 : ∀ p : Nat × Nat, noDct (eP p) = true := fun _ => rfl
  have h3 : ∀ m : Meet, noDct (eM m) = true := fun m => by
    show noDctA (m.map eP) = true
    exact noDctA_map h2 m
  have h4 : noDctA (b.2.map eM) = true := noDctA_map h3 b.2
  show (noDct (eR b.1) && (noDct (.tuple (b.2.map eM)) && noDctA [])) = true
  rw [show noDct (eR b.1) = noDctA (b.1.map eN) by rw [eR, noDct], h1, show noDct (.tuple (b.2.map eM)) = noDctA (b.2.map eM) by rw [noDct], h4]
  rfl
theorem m_read {t : List Nat} (h : Tx t) : f_read [encS t] = roO ((readM t).map eB) := by
  obtain ⟨⟨lx1, lx2⟩, lne⟩ := lines_lx h
  have s1 : splitD (S t) (.str (Str.ofString "\n")) = some (encW (spl [10] 0 [] t)) := by rw [xs_nl]; exact splitD_S h (by decide)
  have ht : isiD "str" (encS t) = some true := rfl
  have L1 := lc_map (fi := toSeq (splitR (rdB 0) (kst (.str (Str.ofString "\n"))))) (t := tgName 1) (c := yes) (e := g_read_e1) (vs := [1]) (ρ := [some (.d (.str (S t))), none, none, none, none, none]) (enc := encS) (p := fun _ => true) (g := fun l => encW (spl [32] 0 [] l)) (spl [10] 0 [] t)
    (by simp only [toSeq_ap, splitR_ap, rdB_ap, kst_ap, List.getElem?_cons_zero, Res.bind_ok, s1, Res.of_some, encW, seqOf_list])
    fun l hl => ⟨[some (.d (.str (S t))), some (.d (encS l)), none, none, none, none], rfl, rfl, fun _ => by
      have s2 : splitD (S l) (.str (Str.ofString " ")) = some (encW (spl [32] 0 [] l)) := by rw [xs_sp]; exact splitD_S ((h.spl 10).2 l hl) (by decide)
      unfold g_read_e1
      simp only [splitR_ap, rdB_ap, kst_ap, List.getElem?_cons_succ, List.getElem?_cons_zero, Res.bind_ok, encS, s2, Res.of_some]⟩
  have em : ((spl [10] 0 [] t).filter fun _ => true).map (fun l => encW (spl [32] 0 [] l)) = (linesOf t).map encW := by
    rw [List.filter_eq_self.mpr fun _ _ => rfl]
    unfold linesOf
    rw [List.map_map]
    rfl
  rw [em] at L1
  unfold readM
  unfold f_read
  rw [runD_eq]
  show ofS (g_read [some (.d (.str (S t))), none, none, none, none, none]) = _
  generalize hL : linesOf t = ls at L1 lx1 lx2 lne ⊢
  unfold g_read raiseS
  have ht : isiD "str" (.str (S t)) = some true := rfl
  match ls, lne with
  | f :: r, _ =>
    have lf := lx2 f (by simp)
    rcases List.eq_nil_or_concat r with rfl | ⟨mid, z, rfl⟩
    · -- one line
      have d1 : decide (((1 : Nat) : Int) < 2) = true := rfl
      have rn : readL [f] = none := by unfold readL; cases f <;> rfl
      rw [rn]
      simp only [seqS_ap, ifS_ap, setS_ap, thenS_ap, orT_ap, notT_ap, toTru_ap, isiR_ap, toB_ap, op2_ap, cb_ap, frz_ap, asCons_ap, asNil_ap, rdB_ap, kst_ap, List.getElem?_cons_succ, List.getElem?_cons_zero, Res.bind_ok, Res.map_ok, ht, Option.map_some, Res.of_some, truD_bool, Bool.not_true, Bool.false_eq_true, if_false, L1, List.set_cons_succ, List.set_cons_zero, List.map_cons, List.map_nil, lenD_list, List.length_cons, List.length_nil, Nat.zero_add, cmpI_int, d1, boolD_bool, if_true]
      rfl
    · rw [List.concat_eq_append] at *
      match f, lf with
      | [], lf => exact absurd rfl lf.2.1
      | h :: ws, lf =>
        have lz := lx2 z (by simp)
        have eqM : ((h :: ws) :: (mid ++ [z])).map encW = encW (h :: ws) :: (mid.map encW ++ [encW z]) := by simp
        have a1 : atI (encW (h :: ws) :: (mid.map encW ++ [encW z])) (-1) = some (encW z) := by
          have := atI_last (encW (h :: ws) :: mid.map encW) (encW z)
          simpa using this
        have n1 := neW lz.2.2 (b := [[]]) (by intro w hw; rw [List.mem_singleton] at hw; subst hw; exact tx_no)
        have n2 := neS (lf.2.2 h (by simp)) tx_set
        have e0 : encW [[]] = .list [.str (Str.ofString "")] := by rw [xs_no]; rfl
        have e1 : encS setL = .str (Str.ofString "settings") := by rw [xs_set]; rfl
        rw [e0] at n1
        rw [e1] at n2
        have d2 : decide (((mid.length + 1 + 1 : Nat) : Int) < 2) = false := decide_eq_false (by omega)
        have c1 := cut_mid (encW (h :: ws)) (encW z) (mid.map encW)
        rw [readL_eq]
        have lb := lf.2.2
        have c2 := cut_1 (encS h) (ws.map encS)
        have hw : encW (h :: ws) = .list (encS h :: ws.map encS) := rfl
        rw [hw] at a1
        simp only [seqS_ap, ifS_ap, setS_ap, thenS_ap, orT_ap, notT_ap, toTru_ap, isiR_ap, toB_ap, op2_ap, cb_ap, frz_ap, disp_ap, asCons_ap, asNil_ap, rdB_ap, kst_ap, negR_ap, List.getElem?_cons_succ, List.getElem?_cons_zero, Res.bind_ok, Res.map_ok, ht, Option.map_some, Res.of_some, truD_bool, Bool.not_true, Bool.false_eq_true, if_false, L1, List.set_cons_succ, List.set_cons_zero, eqM, lenD_list, List.length_cons, List.length_nil, List.length_append, List.length_map, Nat.zero_add, cmpI_int, d2, boolD_bool, ixD_list, Int.reduceNeg, a1, Nat.reduceLeDiff, if_true, n1, atI_zero, hw, n2]
        by_cases hz : z = [[]]
        · by_cases hh : h = setL
          · rw [show endB h ws mid z = mkB (mapO banM mid) (mapO figM ws) from if_pos ⟨hz, hh⟩]
            rw [hw] at c1
            have lmid : ∀ ws ∈ mid, ws ≠ [] ∧ ∀ w ∈ ws, Tx w := fun v hv => (lx2 v (by simp [hv])).2
            have lml : ([] : List D).length + mid.length ≤ 200000 := by
              have : ((h :: ws) :: (mid ++ [z])).length ≤ 100001 := lx1
              simp at this ⊢
              omega
            have big := sizeLine_big
            simp only [hz, hh, decide_true, Bool.not_true, Bool.false_eq_true, if_false, seqS_ap, setO_ap, setS_ap, forS_ap, thenS_ap, disp_ap, asNil_ap, List.length_nil, Nat.zero_le, if_true, Res.bind_ok, List.set_cons_succ, List.set_cons_zero, toSeq_ap, sl3_ap, ptS_ap, negR_ap, rdB_ap, kst_ap, List.getElem?_cons_succ, List.getElem?_cons_zero, Res.map_ok, intOf_int, Res.of_some]
            subst hz
            subst hh
            rw [c1]
            simp only [Res.of_some, Res.bind_ok, seqOf_list]
            rcases read_loop (y0 := some (.d (.str (S t)))) (y2 := some (.d (.list (.list (encS setL :: ws.map encS) :: (mid.map encW ++ [encW [[]]]))))) mid [] none lmid lml with ⟨r1, r2⟩ | ⟨Bs, y1, r1, r2⟩
            · rw [r2, r1]
              rfl
            · rw [r2, r1]
              have l3 := lcLX_all (i := 4) (e := g_read_e3) (ρ := [some (.d (.str (S t))), y1, some (.d (.list (.list (encS setL :: ws.map encS) :: (mid.map encW ++ [encW [[]]])))), some (.own ([] ++ Bs.map eM)), none, none]) (enc := encS) (f := figM) (en := eN) ws fun w hw' => read_e3 (lb w (by simp [hw']))
              simp only [seqS_ap, setS_ap, thenS_ap, dispT_ap, disp_ap, asCons_ap, asNil_ap, cb_ap, frz_ap, lcX_ap, toSeq_ap, sl3_ap, ptS_ap, ptN_ap, op2_ap, rdB_ap, kst_ap, List.getElem?_cons_succ, List.getElem?_cons_zero, Res.bind_ok, Res.map_ok, ixD_list, atI_zero, Res.of_some, intOf_int, c2, seqOf_list, wipeR, List.set_cons_succ, List.set_cons_zero, l3]
              cases hm : mapO figM ws with
              | none => rfl
              | some L =>
                have hbk := m_book_any (noDct_eB (L, Bs))
                have he : PyData.tuple [PyData.tuple (L.map eN), PyData.tuple ([] ++ Bs.map eM)] = eB (L, Bs) := rfl
                simp only [Option.map_some, resO_some, Res.map_ok, Res.bind_ok, toTupD_list, Res.of_some, List.length_cons, List.length_nil, Nat.zero_add, Nat.reduceAdd, Nat.reduceLeDiff, if_true, he, List.set_cons_succ, List.set_cons_zero, ifS_ap, notT_ap, toTru_ap, callR_ap, asCons_ap, asNil_ap, rd_ap, List.getElem?_cons_succ, List.getElem?_cons_zero, hbk, res_rt, truD_bool, thenS_ap, retS_ap]
                unfold mkB
                cases hB : isBookB (eB (L, Bs)) with
                | true =>
                  simp only [Bool.not_true, Bool.false_eq_true, if_false, hB, if_true]
                  rfl
                | false =>
                  simp only [Bool.not_false, if_true, hB, Bool.false_eq_true, if_false]
                  rfl
          · rw [show endB h ws mid z = none from if_neg fun x => hh x.2]
            simp only [hz, hh, decide_true, decide_false, Bool.not_true, Bool.not_false, Bool.false_eq_true, if_true, if_false]
            rfl
        · rw [show endB h ws mid z = none from if_neg fun x => hz x.1]
          simp only [hz, decide_false, Bool.not_false, if_true]
          rfl
end
end DL

/-! The plain part, 49: a book's text; what is read is what is shown. -/
namespace DL
open PySem PySem.Spec PyProof.Rows L2 TL SX
def digL (d : Nat) : List Nat := [48 + d]
def lineB (m : Meet) : List Nat := joinL [32] (banL :: m.map pairL)
def lineS (L : List Nat) : List Nat := joinL [32] (setL :: L.map digL)
def textL (b : Book) : List Nat := joinL [10] (lineS b.1 :: (b.2.map lineB ++ [[]]))
/-- all of one figure -/
def Fig (b : Book) : Prop := (∀ l ∈ b.1, l < 10) ∧ ∀ m ∈ b.2, ∀ p ∈ m, p.1 < 10 ∧ p.2 < 10
theorem banM_some {l : List (List Nat)} {m : Meet} (h : banM l = some m) : (∀ p ∈ m, p.1 < 10 ∧ p.2 < 10) ∧ l = banL :: m.map pairL := by
  unfold banM at h
  match l, h with
  | h :: ws, e =>
    by_cases hb : h = banL
    · simp only [hb, if_true] at e
      obtain ⟨h1, h2⟩ := mapO_some (P := fun p : Nat × Nat => p.1 < 10 ∧ p.2 < 10) (g := pairL) (fun x y hxy => pairM_some hxy) e
      exact ⟨h1, by rw [hb, h2]⟩
    · simp only [hb, if_false] at e
      cases e
theorem joinL_lines (t : List Nat) : joinL [10] ((linesOf t).map (joinL [32])) = t := by
  have h : (linesOf t).map (joinL [32]) = spl [10] 0 [] t := by
    unfold linesOf
    rw [List.map_map]
    conv => rhs; rw [← List.map_id (spl [10] 0 [] t)]
    apply List.map_congr_left
    intro l _
    exact joinL_spl 32 l []
  rw [h]
  exact joinL_spl 10 t []
theorem endB_some {h : List Nat} {ws : List (List Nat)} {mid : List (List (List Nat))} {z : List (List Nat)} {b : Book} (e : endB h ws mid z = some b) :
    z = [[]] ∧ h = setL ∧ mapO banM mid = some b.2 ∧ mapO figM ws = some b.1 ∧ isBookB (eB b) = true := by
  unfold endB at e
  by_cases hc : z = [[]] ∧ h = setL
  · rw [if_pos hc] at e
    unfold mkB at e
    cases h1 : mapO banM mid with
    | none => rw [h1] at e; cases e
    | some Bs =>
      cases h2 : mapO figM ws with
      | none => rw [h1, h2] at e; cases e
      | some L =>
        rw [h1, h2] at e
        simp only at e
        by_cases h3 : isBookB (eB (L, Bs)) = true
        · rw [if_pos h3] at e
          cases e
          exact ⟨hc.1, hc.2, rfl, rfl, h3⟩
        · rw [if_neg h3] at e
          cases e
  · rw [if_neg hc] at e
    cases e
theorem readM_some {t : List Nat} {b : Book} (h : readM t = some b) : Fig b ∧ isBookB (eB b) = true ∧ t = textL b := by
  have ht := joinL_lines t
  unfold readM at h
  generalize linesOf t = ls at h ht
  match ls with
  | [] => cases h
  | f :: r =>
    rcases List.eq_nil_or_concat r with rfl | ⟨mid, z, rfl⟩
    · unfold readL at h
      cases f <;> cases h
    · rw [List.concat_eq_append] at *
      match f with
      | [] => cases h
      | hd :: ws =>
        rw [readL_eq] at h
        obtain ⟨rfl, rfl, h1, h2, h3⟩ := endB_some h
        obtain ⟨f1, rfl⟩ := mapO_some (P := fun d : Nat => d < 10) (g := digL) (fun x y hxy => figM_some hxy) h2
        obtain ⟨f2, rfl⟩ := mapO_some (P := fun m : Meet => ∀ p ∈ m, p.1 < 10 ∧ p.2 < 10) (g := fun m : Meet => banL :: m.map pairL) (fun x y hxy => banM_some hxy) h1
        refine ⟨⟨f1, f2⟩, h3, ?_⟩
        rw [← ht]
        unfold textL lineS
        simp only [List.map_cons, List.map_append, List.map_map, List.map_nil]
        rfl
theorem joinL_mem (c : Nat) : ∀ (ps : List (List Nat)) (x : Nat), x ∈ joinL [c] ps → x = c ∨ ∃ p ∈ ps, x ∈ p
  | [], x, h => by simp [joinL] at h
  | [p], x, h => .inr ⟨p, by simp, by simpa [joinL] using h⟩
  | p :: q :: r, x, h => by
    rw [joinL_cons _ _ (by simp)] at h
    rcases List.mem_append.mp h with h | h
    · exact .inr ⟨p, by simp, h⟩
    · rcases List.mem_append.mp h with h | h
      · exact .inl (by simpa using h)
      · rcases joinL_mem c (q :: r) x h with h | ⟨s, h1, h2⟩
        · exact .inl h
        · exact .inr ⟨s, by simp [h1], h2⟩
theorem linesOf_text {b : Book} (h : Fig b) : linesOf (textL b) = (setL :: b.1.map digL) :: (b.2.map (fun m => banL :: m.map pairL) ++ [[[]]]) := by
  have w1 : ∀ l ∈ b.1, ∀ x ∈ digL l, 48 ≤ x ∧ x < 58 := fun l hl x hx => by
    have := h.1 l hl
    simp only [digL, List.mem_singleton] at hx
    omega
  have w2 : ∀ m ∈ b.2, ∀ p ∈ m, ∀ x ∈ pairL p, 48 ≤ x ∧ x < 59 := fun m hm p hp x hx => by
    have := h.2 m hm p hp
    simp only [pairL, List.mem_cons, List.not_mem_nil, or_false] at hx
    omega
  have ws : ∀ x ∈ setL, 59 ≤ x := by decide
  have wb : ∀ x ∈ banL, 59 ≤ x := by decide
  have p1 : ∀ q ∈ setL :: b.1.map digL, ∀ x ∈ q, 48 ≤ x := fun q hq x hx => by
    rcases List.mem_cons.mp hq with rfl | hq
    · have := ws x hx; omega
    · obtain ⟨l, hl, rfl⟩ := List.mem_map.mp hq
      exact (w1 l hl x hx).1
  have p2 : ∀ m ∈ b.2, ∀ q ∈ banL :: m.map pairL, ∀ x ∈ q, 48 ≤ x := fun m hm q hq x hx => by
    rcases List.mem_cons.mp hq with rfl | hq
    · have := wb x hx; omega
    · obtain ⟨p, hp, rfl⟩ := List.mem_map.mp hq
      exact (w2 m hm p hp x hx).1
  have l1 : spl [32] 0 [] (lineS b.1) = setL :: b.1.map digL := TL.spl_join (by simp) fun q hq hc => by
    have := p1 q hq 32 hc
    omega
  have l2 : ∀ m ∈ b.2, spl [32] 0 [] (lineB m) = banL :: m.map pairL := fun m hm => TL.spl_join (by simp) fun q hq hc => by
    have := p2 m hm q hq 32 hc
    omega
  have l0 : spl [10] 0 [] (textL b) = lineS b.1 :: (b.2.map lineB ++ [[]]) := TL.spl_join (by simp) fun q hq hc => by
    rcases List.mem_cons.mp hq with rfl | hq
    · rcases joinL_mem 32 _ _ hc with z | ⟨p, hp, hx⟩
      · omega
      · have := p1 p hp 10 hx
        omega
    · rcases List.mem_append.mp hq with hq | hq
      · obtain ⟨m, hm, rfl⟩ := List.mem_map.mp hq
        rcases joinL_mem 32 _ _ hc with z | ⟨p, hp, hx⟩
        · omega
        · have := p2 m hm p hp 10 hx
          omega
      · rw [List.mem_singleton] at hq
        subst hq
        cases hc
  unfold linesOf
  rw [l0]
  simp only [List.map_cons, List.map_append, List.map_map, List.map_nil, l1]
  congr 1
  congr 1
  exact List.map_congr_left l2
theorem readM_text {b : Book} (h : Fig b) (hb : isBookB (eB b) = true) : readM (textL b) = some b := by
  unfold readM
  rw [linesOf_text h, readL_eq]
  have e1 : mapO figM (b.1.map digL) = some b.1 := mapO_map fun d hd => figM_dig (h.1 d hd)
  have e2 : mapO banM (b.2.map fun m => banL :: m.map pairL) = some b.2 := mapO_map fun m hm => by
    show (if banL = banL then mapO pairM (m.map pairL) else none) = _
    rw [if_pos rfl]
    exact mapO_map fun p hp => pairM_dig (h.2 m hm p hp).1 (h.2 m hm p hp).2
  unfold endB
  rw [if_pos ⟨rfl, rfl⟩, e1, e2]
  unfold mkB
  simp only
  rw [if_pos hb]
/-! ### how long it is -/
theorem joinL_len (c : Nat) (k : Nat) : ∀ (ps : List (List Nat)), (∀ p ∈ ps, p.length ≤ k) → (joinL [c] ps).length ≤ ps.length * (k + 1)
  | [], _ => by simp [joinL]
  | [p], h => by
    have := h p (by simp)
    simp [joinL]
    omega
  | p :: q :: r, h => by
    have h1 := h p (by simp)
    have h2 := joinL_len c k (q :: r) fun s hs => h s (by simp [hs])
    rw [joinL_cons _ _ (by simp)]
    simp only [List.length_append, List.length_cons, List.length_nil] at h2 ⊢
    have e : (r.length + 1 + 1) * (k + 1) = (r.length + 1) * (k + 1) + (k + 1) := by rw [Nat.add_mul (r.length + 1) 1]; omega
    rw [e]
    omega
/-- bounds of a book -/
structure Bds (b : Book) : Prop where
  lo : b.1.length ≤ 10
  bo : b.2.length ≤ 20
  me : ∀ m ∈ b.2, m.length ≤ 10
theorem text_tx {b : Book} (h : Fig b) (hb : Bds b) : (textL b).length ≤ 20000 ∧ ∀ c ∈ textL b, c < 256 := by
  constructor
  · refine Nat.le_trans (joinL_len 10 200 _ fun p hp => ?_) ?_
    · rcases List.mem_cons.mp hp with rfl | hp
      · refine Nat.le_trans (joinL_len 32 10 _ fun q hq => ?_) ?_
        · rcases List.mem_cons.mp hq with rfl | hq
          · decide
          · obtain ⟨d, _, rfl⟩ := List.mem_map.mp hq
            simp [digL]
        · have := hb.lo
          simp
          omega
      · rcases List.mem_append.mp hp with hp | hp
        · obtain ⟨m, hm, rfl⟩ := List.mem_map.mp hp
          refine Nat.le_trans (joinL_len 32 10 _ fun q hq => ?_) ?_
          · rcases List.mem_cons.mp hq with rfl | hq
            · decide
            · obtain ⟨d, _, rfl⟩ := List.mem_map.mp hq
              simp [pairL]
          · have := hb.me m hm
            simp
            omega
        · rw [List.mem_singleton] at hp
          subst hp
          simp
    · have := hb.bo
      simp
      omega
  · intro c hc
    rcases joinL_mem 10 _ _ hc with rfl | ⟨p, hp, hx⟩
    · decide
    · rcases List.mem_cons.mp hp with rfl | hp
      · rcases joinL_mem 32 _ _ hx with rfl | ⟨q, hq, hy⟩
        · decide
        · rcases List.mem_cons.mp hq with rfl | hq
          · exact tx_set.2 c hy
          · obtain ⟨d, hd, rfl⟩ := List.mem_map.mp hq
            have := h.1 d hd
            simp only [digL, List.mem_singleton] at hy
            omega
      · rcases List.mem_append.mp hp with hp | hp
        · obtain ⟨m, hm, rfl⟩ := List.mem_map.mp hp
          rcases joinL_mem 32 _ _ hx with rfl | ⟨q, hq, hy⟩
          · decide
          · rcases List.mem_cons.mp hq with rfl | hq
            · exact tx_ban.2 c hy
            · obtain ⟨d, hd, rfl⟩ := List.mem_map.mp hq
              have := h.2 m hm d hd
              simp only [pairL, List.mem_cons, List.not_mem_nil, or_false] at hy
              omega
        · rw [List.mem_singleton] at hp
          subst hp
          cases hx
end DL

/-! The plain part, 50: shown. -/
namespace DL
open PySem PySem.Spec PyProof.Rows L2 TL SX
theorem strsD_S : ∀ ws : List (List Nat), strsD (ws.map encS) = some (ws.map S)
  | [] => rfl
  | w :: ws => by
    rw [List.map_cons, encS, strsD, strsD_S ws]
    rfl
theorem sum_len (k : Nat) : ∀ ws : List (List Nat), (∀ w ∈ ws, w.length ≤ k) → (ws.map (·.length)).sum ≤ ws.length * k
  | [], _ => by simp
  | w :: ws, h => by
    have h1 := h w (by simp)
    have h2 := sum_len k ws fun x hx => h x (by simp [hx])
    simp only [List.map_cons, List.sum_cons, List.length_cons, Nat.add_mul, Nat.one_mul]
    omega
theorem joinD_S {ws : List (List Nat)} (h1 : ws.length ≤ 100) (h2 : ∀ w ∈ ws, w.length ≤ 100) : joinD (S [32]) (.list (ws.map encS)) = some (encS (joinL [32] ws)) := by
  unfold joinD
  dsimp only
  rw [strsD_S, Option.bind_some, lens, List.length_map, S_len, if_pos]
  · rw [join_S]
    rfl
  · have := sum_len 100 ws h2
    simp
    omega
@[simp] theorem joinR_ap (fa fb : Rho → Res D) (ρ : Rho) : joinR fa fb ρ = (fa ρ).bind fun a => match a with
  | .str x => (fb ρ).bind fun b => .of (joinD x b)
  | _ => .bad := rfl
theorem addD_S {a b : List Nat} (h : a.length + b.length ≤ 1000000) : addD (.str (S a)) (.str (S b)) = some (encS (a ++ b)) := by
  have := sizeLine_big
  show (if (S a).length + (S b).length ≤ sizeLine then some (PyData.str (S a ++ S b)) else none) = _
  rw [S_len, S_len, if_pos (by omega), S_cat]
  rfl
theorem str1 {l : Nat} (h : l < 10) : strD1 [.int (l : Int)] = some (encS (digL l)) := by
  show (if smallI (l : Int) = true then some (PyData.str (Str.ofString (toString (l : Int)))) else none) = _
  rw [if_pos (smallI_of (by omega) (by omega)), num_S, numL_lt h]
  rfl
theorem join_tail (x : List Nat) : ∀ ps : List (List Nat), joinL [10] (x :: (ps ++ [[]])) = x ++ [10] ++ ps.flatMap (· ++ [10])
  | [] => by simp [joinL]
  | p :: ps => by
    rw [List.cons_append, joinL_cons _ _ (by simp), join_tail p ps]
    simp
theorem textL_eq (b : Book) : textL b = lineS b.1 ++ [10] ++ (b.2.map lineB).flatMap (· ++ [10]) := join_tail _ _
theorem textL_snoc (L : List Nat) (ms : List Meet) (m : Meet) : textL (L, ms ++ [m]) = textL (L, ms) ++ (lineB m) ++ [10] := by
  rw [textL_eq, textL_eq]
  simp
theorem Fig.pre {L : List Nat} {ms r : List Meet} (h : Fig (L, ms ++ r)) : Fig (L, ms) := ⟨h.1, fun m hm => h.2 m (by simp [hm])⟩
theorem Bds.pre {L : List Nat} {ms r : List Meet} (h : Bds (L, ms ++ r)) : Bds (L, ms) := ⟨h.lo, by
  have : (ms ++ r).length ≤ 20 := h.bo
  simp at this ⊢
  omega, fun m hm => h.me m (by simp [hm])⟩
theorem lineB_len {m : Meet} (h : m.length ≤ 10) : (lineB m).length ≤ 200 := by
  refine Nat.le_trans (joinL_len 32 10 _ fun q hq => ?_) ?_
  · rcases List.mem_cons.mp hq with rfl | hq
    · decide
    · obtain ⟨d, _, rfl⟩ := List.mem_map.mp hq
      simp [pairL]
  · simp
    omega
theorem lineS_len {L : List Nat} (h : L.length ≤ 10) : (lineS L).length ≤ 200 := by
  refine Nat.le_trans (joinL_len 32 10 _ fun q hq => ?_) ?_
  · rcases List.mem_cons.mp hq with rfl | hq
    · decide
    · obtain ⟨d, _, rfl⟩ := List.mem_map.mp hq
      simp [digL]
  · simp
    omega
theorem join_m {m : Meet} (h : m.length ≤ 10) : joinD (S [32]) (.list ((banL :: m.map pairL).map encS)) = some (encS (lineB m)) := joinD_S (by simp; omega) fun w hw => by
  rcases List.mem_cons.mp hw with rfl | hw
  · decide
  · obtain ⟨d, _, rfl⟩ := List.mem_map.mp hw
    simp [pairL]
theorem join_L {L : List Nat} (h : L.length ≤ 10) : joinD (S [32]) (.list ((setL :: L.map digL).map encS)) = some (encS (lineS L)) := joinD_S (by simp; omega) fun w hw => by
  rcases List.mem_cons.mp hw with rfl | hw
  · decide
  · obtain ⟨d, _, rfl⟩ := List.mem_map.mp hw
    simp [digL]
theorem add_pair {p : Nat × Nat} (h1 : p.1 < 10) (h2 : p.2 < 10) : ((Res.of (strD1 [.int (p.1 : Int)])).bind fun a => (Res.of (addD a (.str (Str.ofString ":")))).bind fun c => (Res.of (strD1 [.int (p.2 : Int)])).bind fun b => Res.of (addD c b)) = .ok (encS (pairL p)) := by
  rw [str1 h1, str1 h2, xs_co]
  show ((Res.of (addD (.str (S (digL p.1))) (.str (S [58])))).bind fun c => (Res.ok (encS (digL p.2))).bind fun b => Res.of (addD c b)) = _
  rw [addD_S (by simp [digL])]
  show Res.of (addD (.str (S (digL p.1 ++ [58]))) (.str (S (digL p.2)))) = _
  rw [addD_S (by simp [digL])]
  rfl
section
open DM
theorem shown_e1 {y0 y2 y3 y4 : Option B} {l : Nat} (h : l < 10) : g_shown_e1 [y0, some (.d (eN l)), y2, y3, y4] = .ok (encS (digL l)) := by
  have := str1 h
  unfold g_shown_e1
  simp only [cb_ap, asCons_ap, asNil_ap, rdB_ap, List.getElem?_cons_succ, List.getElem?_cons_zero, Res.bind_ok, Res.map_ok]
  rw [show eN l = .int (l : Int) from rfl, this]
  rfl
theorem shown_e2 {y0 y1 y2 y3 : Option B} {p : Nat × Nat} (h1 : p.1 < 10) (h2 : p.2 < 10) : g_shown_e2 [y0, y1, y2, y3, some (.d (eP p))] = .ok (encS (pairL p)) := by
  have := add_pair h1 h2
  unfold g_shown_e2
  simp only [eP, eN, op2_ap, cb_ap, asCons_ap, asNil_ap, rdB_ap, kst_ap, List.getElem?_cons_succ, List.getElem?_cons_zero, Res.bind_ok, Res.map_ok, ixD_tup, atI_zero, atI_one, Res.of_some]
  rw [str1 h1, str1 h2] at this ⊢
  exact this
theorem shown_b1 {b : Book} {done : List Meet} {m : Meet} {y1 : Option B} (hf : Fig (b.1, done ++ [m])) (hb : Bds (b.1, done ++ [m])) :
    g_shown_b1 [some (.d (eB b)), y1, some (.d (encS (textL (b.1, done)))), some (.d (eM m)), none] = .nx [some (.d (eB b)), y1, some (.d (encS (textL (b.1, done ++ [m])))), some (.d (eM m)), none] := by
  have hm := hb.me m (by simp)
  have l0 := (text_tx hf.pre hb.pre).1
  have l1 := lineB_len hm
  have e := lc_map (fi := toSeq (rdB 3)) (t := tgName 4) (c := yes) (e := g_shown_e2) (vs := [4]) (ρ := [some (.d (eB b)), y1, some (.d (encS (textL (b.1, done)))), some (.d (eM m)), none]) (enc := eP) (p := fun _ => true) (g := fun p => encS (pairL p)) m (by simp [eM])
    fun p hp => ⟨[some (.d (eB b)), y1, some (.d (encS (textL (b.1, done)))), some (.d (eM m)), some (.d (eP p))], rfl, rfl, fun _ => shown_e2 (hf.2 m (by simp) p hp).1 (hf.2 m (by simp) p hp).2⟩
  rw [List.filter_eq_self.mpr fun _ _ => rfl] at e
  have big := sizeLine_big
  have j := join_m hm
  have ej : PyData.list ([PyData.str (Str.ofString "ban")] ++ m.map fun p => encS (pairL p)) = .list ((banL :: m.map pairL).map encS) := by
    rw [xs_ban, List.map_cons, List.map_map]
    rfl
  have a1 : addD (.str (S (textL (b.1, done)))) (.str (S (lineB m))) = _ := addD_S (by omega)
  have a2 : addD (.str (S (textL (b.1, done) ++ lineB m))) (.str (S [10])) = _ := addD_S (by simp; omega)
  unfold g_shown_b1
  simp only [setS_ap, thenS_ap, op2_ap, joinR_ap, frz_ap, disp_ap, asCons_ap, asNil_ap, rdB_ap, kst_ap, List.getElem?_cons_succ, List.getElem?_cons_zero, Res.bind_ok, Res.map_ok, List.length_cons, List.length_nil, Nat.zero_add, Nat.reduceLeDiff, if_true, e, addD_list, List.length_map, if_pos (show 1 + m.length ≤ sizeLine by omega), Res.of_some]
  rw [ej, xs_sp, j, xs_nl]
  simp only [encS, Res.of_some, Res.bind_ok, a1, a2, List.set_cons_succ, List.set_cons_zero]
  rw [textL_snoc]
theorem m_shown {b : Book} (hf : Fig b) (hb : Bds b) (h : isBookB (eB b) = true) : f_shown [eB b] = .rt (encS (textL b)) := by
  have hc := m_checked_any (noDct_eB b)
  rw [if_pos h] at hc
  have big := sizeLine_big
  have e := lc_map (fi := toSeq (op2 ixD (rdB 0) (kst (.int 0)))) (t := tgName 1) (c := yes) (e := g_shown_e1) (vs := [1]) (ρ := [some (.d (eB b)), none, none, none, none]) (enc := eN) (p := fun _ => true) (g := fun l => encS (digL l)) b.1 (by simp [eB, eR])
    fun l hl => ⟨[some (.d (eB b)), some (.d (eN l)), none, none, none], rfl, rfl, fun _ => shown_e1 (hf.1 l hl)⟩
  rw [List.filter_eq_self.mpr fun _ _ => rfl] at e
  have j := join_L hb.lo
  have ej : PyData.list ([PyData.str (Str.ofString "settings")] ++ b.1.map fun p => encS (digL p)) = .list ((setL :: b.1.map digL).map encS) := by
    rw [xs_set, List.map_cons, List.map_map]
    rfl
  have ll := lineS_len hb.lo
  have a2 : addD (.str (S (lineS b.1))) (.str (S [10])) = _ := addD_S (by simp; omega)
  have t0 : lineS b.1 ++ [10] = textL (b.1, []) := by rw [textL_eq]; simp
  have loop : ∃ ρ', forL (tgName 3) g_shown_b1 (b.2.map eM) [some (.d (eB b)), none, some (.d (.str (S (lineS b.1 ++ [10])))), none, none] = .nx ρ' ∧ ∃ y, ρ' = [some (.d (eB b)), none, some (.d (encS (textL (b.1, b.2)))), y, none] := by
    refine forL_inv (fun d ρ => ∃ y, ρ = [some (.d (eB b)), none, some (.d (encS (textL (b.1, d)))), y, none]) b.2 ?_ ⟨none, by rw [t0]; rfl⟩
    rintro d m r ρ e ⟨y, rfl⟩
    have eb : (b.1, d ++ [m] ++ r) = b := by rw [List.append_assoc]; show (b.1, d ++ m :: r) = b; rw [← e]
    exact ⟨[some (.d (eB b)), none, some (.d (encS (textL (b.1, d)))), some (.d (eM m)), none], [some (.d (eB b)), none, some (.d (encS (textL (b.1, d ++ [m])))), some (.d (eM m)), none], rfl, shown_b1 (Fig.pre (r := r) (by rw [eb]; exact hf)) (Bds.pre (r := r) (by rw [eb]; exact hb)), _, rfl⟩
  obtain ⟨ρ', h1, y, rfl⟩ := loop
  unfold f_shown
  rw [runD_eq]
  show ofS (g_shown [some (.d (eB b)), none, none, none, none]) = _
  unfold g_shown
  simp only [seqS_ap, dropS_ap, setS_ap, forS_ap, retS_ap, thenS_ap, callR_ap, asCons_ap, asNil_ap, rd_ap, List.getElem?_cons_succ, List.getElem?_cons_zero, Res.bind_ok, Res.map_ok, List.length_cons, List.length_nil, Nat.zero_add, if_true, hc, res_rt, op2_ap, joinR_ap, frz_ap, disp_ap, rdB_ap, kst_ap, Nat.reduceLeDiff, e, addD_list, List.length_map, if_pos (show 1 + b.1.length ≤ sizeLine by have := hb.lo; omega), Res.of_some]
  rw [ej, xs_sp, j, xs_nl]
  have h2 : ixD (eB b) (.int 1) = some (.tuple (b.2.map eM)) := by simp [eB]
  simp only [encS, Res.of_some, Res.bind_ok, a2, List.set_cons_succ, List.set_cons_zero, toSeq_ap, op2_ap, rdB_ap, kst_ap, List.getElem?_cons_zero, h2, seqOf_tup, h1, rd_ap, List.getElem?_cons_succ, ofS_rt]
end
end DL

/-! Law k18: texts. -/
namespace K18
open PySem PySem.Spec PyProof.Rows L2 DL DM TL SX
theorem nat_mod (c : Int) {k : Nat} (h : 0 < k) : ∃ i : Nat, i < k ∧ modD (.int c) (.int (k : Int)) = some (.int (i : Int)) := by
  have a := Int.emod_nonneg c (show (k : Int) ≠ 0 by omega)
  have d := Int.emod_lt_of_pos c (show (0 : Int) < (k : Int) by omega)
  refine ⟨(c % (k : Int)).toNat, by omega, ?_⟩
  rw [Int.toNat_of_nonneg a]
  show (if (decide ((0 : Int) < (k : Int))) = true then some (PyData.int (c % (k : Int))) else none) = _
  rw [if_pos (by simpa using h)]
/-! ### bounds of books -/
theorem bds_of {b : Book} (h : isBookB (eB b) = true) : Bds b := by
  have h : isBookB (.tuple [.tuple (b.1.map eN), .tuple (b.2.map eM)]) = true := h
  rw [isBookB_tt] at h
  simp only [Bool.and_eq_true, decide_eq_true_eq] at h
  obtain ⟨⟨_, h1⟩, h⟩ := h
  cases hl : lvB (b.1.map eN) with
  | none => rw [hl] at h; cases h
  | some lv =>
    rw [hl] at h
    simp only [Bool.and_eq_true, decide_eq_true_eq] at h
    obtain ⟨_, h2, h3⟩ := h
    rw [List.length_map] at h1 h2
    refine ⟨by omega, by omega, fun m hm => ?_⟩
    have := List.all_eq_true.mp h3 (eM m) (List.mem_map.mpr ⟨m, hm, rfl⟩)
    have : ((decide ((1 : Int) ≤ ((m.map eP).length : Int)) && decide (((m.map eP).length : Int) ≤ 3)) && pairsB lv (-1) (m.map eP)) = true := this
    simp only [Bool.and_eq_true, decide_eq_true_eq, List.length_map] at this
    omega
theorem fig_wf {b : Book} (h : WF b) : Fig b := ⟨fun l hl => by have := (h.wl.lev l hl).2; omega, fun m hm p hp => by
  obtain ⟨l, e, h2⟩ := (h.ban m hm).at_ p hp
  have h1 := (h.ban m hm).lt p hp
  have h3 := (h.wl.lev l (List.mem_of_getElem? e)).2
  have h4 := h.wl.hi
  omega⟩
theorem wf_ne {b : Book} (h : WF b) : b.1 ≠ [] := fun e => by
  have := h.wl.lo
  rw [e] at this
  simp at this
theorem tx_text {b : Book} (h : Fig b) (hb : Bds b) : Tx (textL b) := ⟨by have := (text_tx h hb).1; omega, (text_tx h hb).2⟩
/-! ### the refusals -/
theorem m_refused {d : D} (h : f_read [d] = .ex bt) : f_l_refused [d] = .rt (.bool true) := by
  unfold f_l_refused
  rw [runD_eq]
  show ofS (g_l_refused [some (.d d)]) = _
  have e : subX "BadText" "BadText" = true := rfl
  unfold g_l_refused tryN
  simp only [seqS_ap, dropS_ap, thenS_ap, callR_ap, asCons_ap, asNil_ap, rd_ap, List.getElem?_cons_zero, Res.bind_ok, Res.map_ok, List.length_cons, List.length_nil, Nat.zero_add, if_true, h, res_ex, bt, handK, e]
  rfl
theorem m_let {d x : D} (h : f_read [d] = .rt x) : f_l_refused [d] = .rt (.bool false) := by
  unfold f_l_refused
  rw [runD_eq]
  show ofS (g_l_refused [some (.d d)]) = _
  unfold g_l_refused tryN
  simp only [seqS_ap, dropS_ap, thenS_ap, callR_ap, asCons_ap, asNil_ap, rd_ap, List.getElem?_cons_zero, Res.bind_ok, Res.map_ok, List.length_cons, List.length_nil, Nat.zero_add, if_true, h, res_rt]
  rfl
theorem m_base {d : D} (h : f_read [d] = .ex bt) : f_l_by_base [d] = .rt (.bool true) := by
  unfold f_l_by_base
  rw [runD_eq]
  show ofS (g_l_by_base [some (.d d), none]) = _
  have e : subX "BadText" "TestError" = true := by decide
  unfold g_l_by_base tryS
  simp only [seqS_ap, dropS_ap, thenS_ap, callR_ap, asCons_ap, asNil_ap, rd_ap, List.getElem?_cons_succ, List.getElem?_cons_zero, Res.bind_ok, Res.map_ok, List.length_cons, List.length_nil, Nat.zero_add, if_true, h, res_ex, bt, handK, e]
  rfl
/-! ### another thing -/
theorem cut_toS {t : List Nat} (h : Tx t) (i : Nat) : cutD (.str (S t)) none (some (i : Int)) = some (encS (t.take i)) := by
  have := sizeLine_big
  have hl := h.1
  show (if (S t).length ≤ sizeLine then some (PyData.str (cutS (S t) none (some (i : Int)))) else none) = _
  rw [S_len, if_pos (by omega), C8.cutS_slice, slice_to (by omega)]
  rfl
theorem cut_fromS {t : List Nat} (h : Tx t) (i : Nat) : cutD (.str (S t)) (some (i : Int)) none = some (encS (t.drop i)) := by
  have := sizeLine_big
  have hl := h.1
  show (if (S t).length ≤ sizeLine then some (PyData.str (cutS (S t) (some (i : Int)) none)) else none) = _
  rw [S_len, if_pos (by omega), C8.cutS_slice, slice_from (by omega)]
  rfl
def nine : List Nat := [48, 49, 51, 53, 32, 58, 10, 98, 120]
theorem xs_nine : Str.ofString "0135 :\nbx" = S nine := sL _ _ rfl
theorem ix_nine {j : Nat} (h : j < 9) : ∃ c, c < 256 ∧ ixS (.str (Str.ofString "0135 :\nbx")) (.int (j : Int)) = some (encS [c]) := by
  have big := sizeLine_big
  refine ⟨nine[j]'(by simpa [nine] using h), ?_, ?_⟩
  · have : ∀ c ∈ nine, c < 256 := by decide
    exact this _ (List.getElem_mem _)
  · rw [xs_nine]
    show (if decide ((S nine).length ≤ sizeLine) = true then (L2.atI nine (j : Int)).map fun c => PyData.str ⟨#[c]⟩ else none) = _
    rw [if_pos (decide_eq_true (by show 9 ≤ sizeLine; omega)), L2.atI_nat (List.getElem?_eq_getElem (by simpa [nine] using h))]
    rfl
def twelve : List D := [.str (Str.ofString ""), .str (Str.ofString "settings 2 2"), .str (Str.ofString "settings\n"), .str (Str.ofString "settings 02\n"), .str (Str.ofString "settings 2 \n"), .str (Str.ofString "settings 2\nban\n"), .str (Str.ofString "settings 2\nban 0:2\n"),
  .str (Str.ofString "settings 2\nban 0 0\n"), .str (Str.ofString "ban 0:0\nsettings 2\n"), .none, .int 7, .str (Str.ofString "settings 5\n")]
theorem bad_str (s : String) (l : List Nat) (h : s.toList.map Char.toNat = l) (h2 : l.length ≤ 100000 ∧ ∀ c ∈ l, c < 256) (h3 : readM l = none) : f_read [.str (Str.ofString s)] = .ex bt := by
  rw [sL s l h]
  have := m_read (t := l) h2
  rw [h3] at this
  exact this
theorem bad_other {d : D} (h : isiD "str" d = some false) : f_read [d] = .ex bt := by
  unfold f_read
  rw [runD_eq]
  show ofS (g_read [some (.d d), none, none, none, none, none]) = _
  unfold g_read raiseS
  simp only [seqS_ap, ifS_ap, thenS_ap, notT_ap, toTru_ap, isiR_ap, rdB_ap, List.getElem?_cons_zero, Res.bind_ok, Res.map_ok, h, Option.map_some, Res.of_some, truD_bool, Bool.not_false, if_true]
  rfl
theorem bad_twelve : ∀ d ∈ twelve, f_read [d] = .ex bt := by
  intro d hd
  unfold twelve at hd
  simp only [List.mem_cons, List.not_mem_nil, or_false] at hd
  rcases hd with rfl | rfl | rfl | rfl | rfl | rfl | rfl | rfl | rfl | rfl | rfl | rfl
  · exact bad_str _ [] rfl (by decide) (by decide +kernel)
  · exact bad_str _ _ rfl (by decide) (by decide +kernel)
  · exact bad_str _ _ rfl (by decide) (by decide +kernel)
  · exact bad_str _ _ rfl (by decide) (by decide +kernel)
  · exact bad_str _ _ rfl (by decide) (by decide +kernel)
  · exact bad_str _ _ rfl (by decide) (by decide +kernel)
  · exact bad_str _ _ rfl (by decide) (by decide +kernel)
  · exact bad_str _ _ rfl (by decide) (by decide +kernel)
  · exact bad_str _ _ rfl (by decide) (by decide +kernel)
  · exact bad_other rfl
  · exact bad_other rfl
  · exact bad_str _ _ rfl (by decide) (by decide +kernel)
theorem tx_take {t : List Nat} (h : t.length ≤ 20000 ∧ ∀ c ∈ t, c < 256) (i : Nat) : (t.take i).length ≤ 20000 ∧ ∀ c ∈ t.take i, c < 256 := ⟨by rw [List.length_take]; omega, fun c hc => h.2 c (List.mem_of_mem_take hc)⟩
theorem tx_drop {t : List Nat} (h : t.length ≤ 20000 ∧ ∀ c ∈ t, c < 256) (i : Nat) : (t.drop i).length ≤ 20000 ∧ ∀ c ∈ t.drop i, c < 256 := ⟨by rw [List.length_drop]; omega, fun c hc => h.2 c (List.mem_of_mem_drop hc)⟩
theorem tx_app {a b : List Nat} {n m : Nat} (ha : a.length ≤ n ∧ ∀ c ∈ a, c < 256) (hb : b.length ≤ m ∧ ∀ c ∈ b, c < 256) : (a ++ b).length ≤ n + m ∧ ∀ c ∈ a ++ b, c < 256 := ⟨by rw [List.length_append]; omega, fun c hc => by
  rcases List.mem_append.mp hc with h | h
  · exact ha.2 c h
  · exact hb.2 c h⟩
theorem m_bad {ns : List Int} {t : List Nat} (h : t.length ≤ 20000 ∧ ∀ c ∈ t, c < 256) (h0 : t ≠ []) {w : Nat} (hw : w < 4) (ew : modD (.int (cellOf ns 0 / 3)) (.int 4) = some (.int (w : Int))) :
    ∃ x, f_l_bad [eS ns, encS t] = .rt x ∧ ((w < 3 ∧ ∃ u, Tx u ∧ x = encS u) ∨ f_read [x] = .ex bt) := by
  have hT : Tx t := ⟨by omega, h.2⟩
  obtain ⟨i, hi, e1⟩ := nat_mod (cellOf ns 1) (k := t.length) (by cases t with | nil => exact absurd rfl h0 | cons _ _ => simp)
  have hl := lenD_S hT
  have c0 := m_l_cell ns 0
  have c1 := m_l_cell ns 1
  have c2 := m_l_cell ns 2
  rw [show ((0 : Nat) : Int) = 0 from rfl] at c0
  rw [show ((1 : Nat) : Int) = 1 from rfl] at c1
  rw [show ((2 : Nat) : Int) = 2 from rfl] at c2
  have e5 : divD (.int (cellOf ns 0)) (.int 3) = some (.int (cellOf ns 0 / 3)) := rfl
  have hl : lenD [.str (S t)] = some (.int (t.length : Int)) := hl
  have k1 := cut_toS hT i
  have k2 := cut_fromS hT (i + 1)
  have k3 := cut_toS hT (i + 1)
  have k4 := cut_fromS hT i
  rw [show ((i + 1 : Nat) : Int) = (i : Int) + 1 from by omega] at k2 k3
  have x1 := tx_take h i
  have x2 := tx_drop h (i + 1)
  have x3 := tx_take h (i + 1)
  have x4 := tx_drop h i
  unfold f_l_bad
  rw [runD_eq]
  show ∃ x, ofS (g_l_bad [some (.d (eS ns)), some (.d (.str (S t))), none, none, none]) = .rt x ∧ _
  match w, hw with
  | 0, _ =>
    rw [show ((0 : Nat) : Int) = 0 from rfl] at ew
    have a := addD_S (a := t.take i) (b := t.drop (i + 1)) (by have := x1.1; have := x2.1; omega)
    refine ⟨encS (t.take i ++ t.drop (i + 1)), ?_, .inl ⟨by decide, _, ?_, rfl⟩⟩
    · unfold g_l_bad
      simp only [seqS_ap, setS_ap, ifS_ap, retS_ap, thenS_ap, toB_ap, op2_ap, cb_ap, callR_ap, asCons_ap, asNil_ap, rd_ap, rdB_ap, kst_ap, sl3_ap, ptN_ap, ptS_ap, List.getElem?_cons_succ, List.getElem?_cons_zero, Res.bind_ok, Res.map_ok, List.length_cons, List.length_nil, Nat.zero_add, Nat.reduceAdd, if_true, c0, c1, res_rt, hl, Res.of_some, e1, List.set_cons_succ, List.set_cons_zero, e5, ew, eqD_int, decide_true, boolD_bool, intOf_int, k1, k2, addD_int, encS, a, ofS_rt]
    · exact ⟨by have := (tx_app x1 x2).1; omega, (tx_app x1 x2).2⟩
  | 1, _ =>
    rw [show ((1 : Nat) : Int) = 1 from rfl] at ew
    have d1 : decide ((1 : Int) = 0) = false := rfl
    have a := addD_S (a := t.take (i + 1)) (b := t.drop i) (by have := x3.1; have := x4.1; omega)
    refine ⟨encS (t.take (i + 1) ++ t.drop i), ?_, .inl ⟨by decide, _, ?_, rfl⟩⟩
    · unfold g_l_bad
      simp only [seqS_ap, setS_ap, ifS_ap, retS_ap, thenS_ap, toB_ap, op2_ap, cb_ap, callR_ap, asCons_ap, asNil_ap, rd_ap, rdB_ap, kst_ap, sl3_ap, ptN_ap, ptS_ap, List.getElem?_cons_succ, List.getElem?_cons_zero, Res.bind_ok, Res.map_ok, List.length_cons, List.length_nil, Nat.zero_add, Nat.reduceAdd, if_true, c0, c1, res_rt, hl, Res.of_some, e1, List.set_cons_succ, List.set_cons_zero, e5, ew, eqD_int, d1, Bool.false_eq_true, if_false, decide_true, boolD_bool, intOf_int, k3, k4, addD_int, encS, a, ofS_rt]
    · exact ⟨by have := (tx_app x3 x4).1; omega, (tx_app x3 x4).2⟩
  | 2, _ =>
    rw [show ((2 : Nat) : Int) = 2 from rfl] at ew
    have d1 : decide ((2 : Int) = 0) = false := rfl
    have d2 : decide ((2 : Int) = 1) = false := rfl
    obtain ⟨j, hj, e9⟩ := nat_mod (cellOf ns 2) (k := 9) (by decide)
    rw [show ((9 : Nat) : Int) = 9 from rfl] at e9
    obtain ⟨c, hc, e10⟩ := ix_nine hj
    have xc : ([c] : List Nat).length ≤ 1 ∧ ∀ y ∈ [c], y < 256 := ⟨by simp, fun y hy => by rw [List.mem_singleton] at hy; omega⟩
    have y1 := tx_app x1 xc
    have y2 := tx_app y1 x2
    have a := addD_S (a := t.take i) (b := [c]) (by have := x1.1; simp; omega)
    have a2 := addD_S (a := t.take i ++ [c]) (b := t.drop (i + 1)) (by have := y1.1; have := x2.1; omega)
    refine ⟨encS (t.take i ++ [c] ++ t.drop (i + 1)), ?_, .inl ⟨by decide, _, ?_, rfl⟩⟩
    · unfold g_l_bad
      rw [show encS [c] = .str (S [c]) from rfl] at e10
      simp only [seqS_ap, setS_ap, ifS_ap, retS_ap, thenS_ap, toB_ap, op2_ap, cb_ap, callR_ap, asCons_ap, asNil_ap, rd_ap, rdB_ap, kst_ap, sl3_ap, ptN_ap, ptS_ap, List.getElem?_cons_succ, List.getElem?_cons_zero, Res.bind_ok, Res.map_ok, List.length_cons, List.length_nil, Nat.zero_add, Nat.reduceAdd, if_true, c0, c1, c2, res_rt, hl, Res.of_some, e1, List.set_cons_succ, List.set_cons_zero, e5, ew, eqD_int, d1, d2, Bool.false_eq_true, if_false, decide_true, boolD_bool, intOf_int, k1, k2, addD_int, encS, e9, e10, a, a2, ofS_rt]
    · exact ⟨by have := y2.1; omega, y2.2⟩
  | 3, _ =>
    rw [show ((3 : Nat) : Int) = 3 from rfl] at ew
    have d1 : decide ((3 : Int) = 0) = false := rfl
    have d2 : decide ((3 : Int) = 1) = false := rfl
    have d3 : decide ((3 : Int) = 2) = false := rfl
    obtain ⟨p, x, hp, hx, e9⟩ := pick twelve (by simp [twelve]) (cellOf ns 1)
    rw [show (twelve.length : Int) = 12 from rfl] at e9
    have big := sizeLine_big
    have a9 : atI twelve (p : Int) = some x := DL.atI_nat hp
    unfold twelve at a9
    refine ⟨x, ?_, .inr (bad_twelve x hx)⟩
    unfold g_l_bad
    simp only [seqS_ap, setS_ap, ifS_ap, retS_ap, thenS_ap, toB_ap, op2_ap, cb_ap, callR_ap, asCons_ap, asNil_ap, frz_ap, disp_ap, rd_ap, rdB_ap, kst_ap, List.getElem?_cons_succ, List.getElem?_cons_zero, Res.bind_ok, Res.map_ok, List.length_cons, List.length_nil, Nat.zero_add, Nat.reduceAdd, Nat.reduceLeDiff, if_true, c0, c1, res_rt, hl, Res.of_some, e1, List.set_cons_succ, List.set_cons_zero, e5, ew, eqD_int, d1, d2, d3, Bool.false_eq_true, if_false, boolD_bool, addD_list, if_pos (show 5 + 2 ≤ sizeLine by omega), if_pos (show 7 + 5 ≤ sizeLine by omega), List.cons_append, List.nil_append, List.append_eq, e9, ixD_list, a9, ofS_rt]

/-! ### the law's own text -/
theorem due_e1 {y0 y1 y2 y4 y5 y6 y7 y8 y9 : Option B} {l : Nat} (h : l < 10) : g_law_18_e1 [y0, y1, y2, some (.d (eN l)), y4, y5, y6, y7, y8, y9] = .ok (encS (digL l)) := by
  have := str1 h
  unfold g_law_18_e1
  simp only [cb_ap, asCons_ap, asNil_ap, rdB_ap, List.getElem?_cons_succ, List.getElem?_cons_zero, Res.bind_ok, Res.map_ok]
  rw [show eN l = .int (l : Int) from rfl, this]
  rfl
theorem due_e2 {y0 y1 y2 y3 y4 y5 y8 y9 : Option B} {p : Nat × Nat} (h1 : p.1 < 10) (h2 : p.2 < 10) : g_law_18_e2 [y0, y1, y2, y3, y4, y5, some (.d (eN p.1)), some (.d (eN p.2)), y8, y9] = .ok (encS (pairL p)) := by
  have := add_pair h1 h2
  unfold g_law_18_e2
  simp only [eN, op2_ap, cb_ap, asCons_ap, asNil_ap, rdB_ap, kst_ap, List.getElem?_cons_succ, List.getElem?_cons_zero, Res.bind_ok, Res.map_ok]
  rw [str1 h1, str1 h2] at this ⊢
  exact this
theorem join_D {ws : List (List Nat)} (h1 : ws.length ≤ 10) (h2 : ∀ w ∈ ws, w.length ≤ 10) : joinD (S [32]) (.list (ws.map encS)) = some (encS (joinL [32] ws)) := joinD_S (by omega) fun w hw => by have := h2 w hw; omega
theorem nmBk (b : Book) : Nm 4 (eB b) := .tup fun x hx => by
  rcases List.mem_cons.mp hx with rfl | hx
  · exact (nmR b.1).le (by decide)
  · rcases List.mem_cons.mp hx with rfl | hx
    · exact .tup fun x hx => by
        obtain ⟨m, _, rfl⟩ := List.mem_map.mp hx
        exact nmM m
    · cases hx
theorem read_all {x : D} {w : Nat} (hx : (w < 3 ∧ ∃ u, Tx u ∧ x = encS u) ∨ f_read [x] = .ex bt) : f_read [x] = .ex bt ∨ (w < 3 ∧ ∃ b : Book, f_read [x] = .rt (eB b) ∧ Fig b ∧ isBookB (eB b) = true ∧ x = .str (S (textL b)) ∧ Tx (textL b)) := by
  rcases hx with ⟨hw, u, hu, rfl⟩ | hx
  · have hr := m_read hu
    cases hm : readM u with
    | none => rw [hm] at hr; exact .inl hr
    | some b =>
      rw [hm] at hr
      obtain ⟨h1, h2, h3⟩ := readM_some hm
      exact .inr ⟨hw, b, hr, h1, h2, by rw [← h3]; rfl, by rw [← h3]; exact hu⟩
  · exact .inl hx
theorem law_ok (ns : List Int) (hn : ns.length ≤ 63) : f_law_18 [.list (ns.map PyData.int)] = .rt (.bool true) := by
  obtain ⟨b, h, e1⟩ := m_l_book (ns := ns) 3 hn
  rw [show ((3 : Nat) : Int) = 3 from rfl] at e1
  have c0 := m_l_cell ns 0
  rw [show ((0 : Nat) : Int) = 0 from rfl] at c0
  have hB := wf_isBook h
  have hF := fig_wf h
  have hD := bds_of hB
  have hT := tx_text hF hD
  have hS := m_shown hF hD hB
  have hr := m_read hT
  rw [readM_text hF hB] at hr
  have hr : f_read [.str (S (textL b))] = .rt (eB b) := hr
  have hS : f_shown [eB b] = .rt (.str (S (textL b))) := hS
  have big := sizeLine_big
  -- the due text
  have g1 := lc_map (fi := toSeq (op2 ixD (rdB 1) (kst (.int 0)))) (t := tgName 3) (c := yes) (e := g_law_18_e1) (vs := [3]) (ρ := [some (.d (eS ns)), some (.d (eB b)), some (.d (.str (S (textL b)))), none, none, none, none, none, none, none]) (enc := eN) (p := fun _ => true) (g := fun l => encS (digL l)) b.1 (by simp [eB, eR])
    fun l hl => ⟨[some (.d (eS ns)), some (.d (eB b)), some (.d (.str (S (textL b)))), some (.d (eN l)), none, none, none, none, none, none], rfl, rfl, fun _ => due_e1 (hF.1 l hl)⟩
  rw [List.filter_eq_self.mpr fun _ _ => rfl] at g1
  have j1 := join_D (ws := b.1.map digL) (by have := hD.lo; simp; omega) (by
    intro w hw
    obtain ⟨d, _, rfl⟩ := List.mem_map.mp hw
    simp [digL])
  have ej : PyData.list (b.1.map fun p => encS (digL p)) = .list ((b.1.map digL).map encS) := by rw [List.map_map]; rfl
  have hls : lineS b.1 = setL ++ [32] ++ joinL [32] (b.1.map digL) := by
    unfold lineS
    rw [joinL_cons _ _ (by intro e; exact wf_ne h (List.map_eq_nil_iff.mp e))]
    simp
  have ll := lineS_len hD.lo
  have xs1 : Str.ofString "settings " = S (setL ++ [32]) := sL _ _ rfl
  have xs2 : Str.ofString "ban " = S (banL ++ [32]) := sL _ _ rfl
  have a1 : addD (.str (S (setL ++ [32]))) (.str (S (joinL [32] (b.1.map digL)))) = _ := addD_S (by rw [hls] at ll; simp only [List.length_append] at ll ⊢; omega)
  rw [← hls] at a1
  have a2 : addD (.str (S (lineS b.1))) (.str (S [10])) = _ := addD_S (by simp; omega)
  have t0 : lineS b.1 ++ [10] = textL (b.1, []) := by rw [textL_eq]; simp
  have loop : ∃ ρ', forL (tgName 5) g_law_18_b1 (b.2.map eM) [some (.d (eS ns)), some (.d (eB b)), some (.d (.str (S (textL b)))), none, some (.d (.str (S (lineS b.1 ++ [10])))), none, none, none, none, none] = .nx ρ' ∧
      ∃ y, ρ' = [some (.d (eS ns)), some (.d (eB b)), some (.d (.str (S (textL b)))), none, some (.d (encS (textL (b.1, b.2)))), y, none, none, none, none] := by
    refine forL_inv (fun d ρ => ∃ y, ρ = [some (.d (eS ns)), some (.d (eB b)), some (.d (.str (S (textL b)))), none, some (.d (encS (textL (b.1, d)))), y, none, none, none, none]) b.2 ?_ ⟨none, by rw [t0]; rfl⟩
    rintro done m r ρ e ⟨y, rfl⟩
    have eb : (b.1, done ++ [m] ++ r) = b := by rw [List.append_assoc]; show (b.1, done ++ m :: r) = b; rw [← e]
    have hf : Fig (b.1, done ++ [m]) := Fig.pre (r := r) (by rw [eb]; exact hF)
    have hb : Bds (b.1, done ++ [m]) := Bds.pre (r := r) (by rw [eb]; exact hD)
    have hm := hb.me m (by simp)
    have hmne : m ≠ [] := fun z => by
      have := (h.ban m (by rw [e]; simp)).lo
      rw [z] at this
      simp at this
    have l0 := (text_tx hf.pre hb.pre).1
    have l1 := lineB_len hm
    have hlb : lineB m = banL ++ [32] ++ joinL [32] (m.map pairL) := by
      unfold lineB
      rw [joinL_cons _ _ (by intro e; exact hmne (List.map_eq_nil_iff.mp e))]
      simp
    refine ⟨[some (.d (eS ns)), some (.d (eB b)), some (.d (.str (S (textL b)))), none, some (.d (encS (textL (b.1, done)))), some (.d (eM m)), none, none, none, none], [some (.d (eS ns)), some (.d (eB b)), some (.d (.str (S (textL b)))), none, some (.d (encS (textL (b.1, done ++ [m])))), some (.d (eM m)), none, none, none, none], rfl, ?_, _, rfl⟩
    have g2 := lc_map (fi := toSeq (rdB 5)) (t := tgPair 6 7) (c := yes) (e := g_law_18_e2) (vs := [6, 7]) (ρ := [some (.d (eS ns)), some (.d (eB b)), some (.d (.str (S (textL b)))), none, some (.d (encS (textL (b.1, done)))), some (.d (eM m)), none, none, none, none]) (enc := eP) (p := fun _ => true) (g := fun p => encS (pairL p)) m (by simp [eM])
      fun p hp => ⟨[some (.d (eS ns)), some (.d (eB b)), some (.d (.str (S (textL b)))), none, some (.d (encS (textL (b.1, done)))), some (.d (eM m)), some (.d (eN p.1)), some (.d (eN p.2)), none, none], rfl, rfl, fun _ => due_e2 (hf.2 m (by simp) p hp).1 (hf.2 m (by simp) p hp).2⟩
    rw [List.filter_eq_self.mpr fun _ _ => rfl] at g2
    have j2 := join_D (ws := m.map pairL) (by simp; omega) (by
      intro w hw
      obtain ⟨d, _, rfl⟩ := List.mem_map.mp hw
      simp [pairL])
    have ej2 : PyData.list (m.map fun p => encS (pairL p)) = .list ((m.map pairL).map encS) := by rw [List.map_map]; rfl
    have b1 : addD (.str (S (textL (b.1, done)))) (.str (S (banL ++ [32]))) = _ := addD_S (by simp [banL]; omega)
    have b2 : addD (.str (S (textL (b.1, done) ++ (banL ++ [32])))) (.str (S (joinL [32] (m.map pairL)))) = _ := addD_S (by rw [hlb] at l1; simp only [List.length_append] at l1 ⊢; omega)
    have b3 : addD (.str (S (textL (b.1, done) ++ (banL ++ [32]) ++ joinL [32] (m.map pairL)))) (.str (S [10])) = _ := addD_S (by rw [hlb] at l1; simp only [List.length_append, List.length_cons, List.length_nil] at l1 ⊢; omega)
    have fin : textL (b.1, done) ++ (banL ++ [32]) ++ joinL [32] (m.map pairL) ++ [10] = textL (b.1, done ++ [m]) := by rw [textL_snoc, hlb]; simp
    unfold g_law_18_b1
    simp only [setS_ap, thenS_ap, op2_ap, joinR_ap, frz_ap, rdB_ap, kst_ap, List.getElem?_cons_succ, List.getElem?_cons_zero, Res.bind_ok, Res.map_ok, g2]
    rw [ej2, xs_sp, j2, xs_nl, xs2]
    simp only [encS, Res.of_some, Res.bind_ok, b1, b2, b3, List.set_cons_succ, List.set_cons_zero, fin]
  obtain ⟨ρ', h1, y, rfl⟩ := loop
  have hs2 : PyData.str (S (textL (b.1, b.2))) = .str (S (textL b)) := rfl
  have ixb : ixD (eB b) (.int 1) = some (.tuple (b.2.map eM)) := by simp [eB]
  have n1 : neD (.str (S (textL b))) (.str (S (textL (b.1, b.2)))) = some (.bool false) := by
    have := neS hT hT
    rw [decide_eq_true rfl] at this
    exact this
  have nmB := nmBk b
  have n2 : neD (eB b) (eB b) = some (.bool false) := ne_same nmB (by decide)
  have isi : isiD "str" (.str (S (textL b))) = some true := rfl
  have hc := m_checked_any (noDct_eB b)
  rw [if_pos hB] at hc
  obtain ⟨k, hk, e3⟩ := nat_mod (cellOf ns 0) (k := 3) (by decide)
  rw [show ((3 : Nat) : Int) = 3 from rfl] at e3
  obtain ⟨w, hw, e4⟩ := nat_mod (cellOf ns 0 / 3) (k := 4) (by decide)
  rw [show ((4 : Nat) : Int) = 4 from rfl] at e4
  have e5 : divD (.int (cellOf ns 0)) (.int 3) = some (.int (cellOf ns 0 / 3)) := rfl
  have q1 := eq_same nmB (by decide)
  obtain ⟨x, bx, hx⟩ := m_bad (ns := ns) (text_tx hF hD) (by rw [textL_eq]; simp) hw e4
  have bx : f_l_bad [eS ns, .str (S (textL b))] = .rt x := bx
  unfold f_law_18
  rw [runD_eq]
  show ofS (g_law_18 [some (.d (eS ns)), none, none, none, none, none, none, none, none, none]) = _
  unfold g_law_18
  simp only [seqS_ap, setS_ap, forS_ap, ifS_ap, retS_ap, thenS_ap, callR_ap, asCons_ap, asNil_ap, rd_ap, rdB_ap, kst_ap, op2_ap, joinR_ap, frz_ap, List.getElem?_cons_succ, List.getElem?_cons_zero, Res.bind_ok, Res.map_ok, List.length_cons, List.length_nil, Nat.zero_add, Nat.reduceAdd, if_true, e1, res_rt, List.set_cons_succ, List.set_cons_zero, hS, g1]
  rw [ej, xs_sp, j1, xs_nl, xs1]
  simp only [encS, Res.of_some, Res.bind_ok, a1, a2, List.set_cons_succ, List.set_cons_zero, toSeq_ap, op2_ap, rdB_ap, kst_ap, List.getElem?_cons_succ, List.getElem?_cons_zero, ixb, seqOf_tup, h1, orT_ap, notT_ap, toTru_ap, toB_ap, isiR_ap, isi, Option.map_some, Res.map_ok, truD_bool, Bool.not_true, Bool.false_eq_true, if_false, n1, boolD_bool, callR_ap, asCons_ap, asNil_ap, rd_ap, List.length_cons, List.length_nil, Nat.zero_add, Nat.reduceAdd, if_true, hr, res_rt, n2, c0, e3, eqD_int]
  by_cases hk0 : ((k : Nat) : Int) = 0
  · simp only [hk0, decide_true, if_true, hs2, hr, res_rt, Res.bind_ok, Res.map_ok, List.length_cons, List.length_nil, Nat.zero_add, hc, q1, Res.of_some, ofS_rt]
  · simp only [hk0, decide_false, Bool.false_eq_true, if_false, List.getElem?_cons_succ, List.getElem?_cons_zero, Res.bind_ok, Res.map_ok, List.length_cons, List.length_nil, Nat.zero_add, Nat.reduceAdd, if_true, bx, res_rt, List.set_cons_succ, List.set_cons_zero]
    rcases read_all hx with hbad | ⟨hw3, b', hr', hF', hB', rfl, hT'⟩
    · simp only [m_refused hbad, m_base hbad, res_rt, Res.bind_ok, truD_bool, Res.of_some, if_true, Res.map_ok, List.length_cons, List.length_nil, Nat.zero_add, ofS_rt]
    · have hS' : f_shown [eB b'] = .rt (.str (S (textL b'))) := m_shown hF' (bds_of hB') hB'
      have hc' := m_checked_any (noDct_eB b')
      rw [if_pos hB'] at hc'
      have q2 := eq_same (nmBk b') (by decide)
      have q3 : eqD (.str (S (textL b'))) (.str (S (textL b'))) = some (.bool true) := by
        have := eqS hT' hT'
        rw [decide_eq_true rfl] at this
        exact this
      have d3 : decide (((w : Nat) : Int) < 3) = true := decide_eq_true (by omega)
      simp only [m_let hr', res_rt, Res.bind_ok, truD_bool, Res.of_some, Bool.false_eq_true, if_false, Res.map_ok, List.length_cons, List.length_nil, Nat.zero_add, if_true, setS_ap, thenS_ap, hr', List.set_cons_succ, List.set_cons_zero, retS_ap, andV_ap, toB_ap, op2_ap, callR_ap, asCons_ap, asNil_ap, rd_ap, rdB_ap, kst_ap, List.getElem?_cons_succ, List.getElem?_cons_zero, Nat.reduceAdd, c0, e5, e4, cmpI_int, d3, boolD_bool, hc', q2, hS', q3, ofS_rt]
end K18


namespace K18
open PySem PySem.Spec PyProof.Rows L2 DL
def topS (i : Nat) : Stmt := PySem.Challenge.pw_pairtests_k18_texts.main.body.getD i (.Pass ⟨0, 0, 0, 0⟩)
abbrev ns : List String := ["TestError", "BadBook", "BadText"]
abbrev s_is_within : Stmt := topS 9
abbrev N_is_within : List Str := ["thing", "low", "high"]
theorem sc_is_within : FnScope N_is_within ["thing", "low", "high"] (defScope s_is_within) := ⟨rfl, rfl, rfl, by decide +kernel, rfl, by decide +kernel, by decide +kernel⟩
abbrev s_is_meeting : Stmt := topS 10
abbrev N_is_meeting : List Str := ["levels", "thing", "least", "most", "last", "pair"]
theorem sc_is_meeting : FnScope N_is_meeting ["levels", "thing", "least", "most"] (defScope s_is_meeting) := ⟨rfl, rfl, rfl, by decide +kernel, rfl, by decide +kernel, by decide +kernel⟩
abbrev s_rows_in : Stmt := topS 11
abbrev N_rows_in : List Str := ["levels", "found", "level"]
theorem sc_rows_in : FnScope N_rows_in ["levels"] (defScope s_rows_in) := ⟨rfl, rfl, rfl, by decide +kernel, rfl, by decide +kernel, by decide +kernel⟩
abbrev s_is_book : Stmt := topS 12
abbrev N_is_book : List Str := ["thing", "levels", "bans", "level", "ban"]
theorem sc_is_book : FnScope N_is_book ["thing"] (defScope s_is_book) := ⟨rfl, rfl, rfl, by decide +kernel, rfl, by decide +kernel, by decide +kernel⟩
abbrev s_checked : Stmt := topS 13
abbrev N_checked : List Str := ["book"]
theorem sc_checked : FnScope N_checked ["book"] (defScope s_checked) := ⟨rfl, rfl, rfl, by decide +kernel, rfl, by decide +kernel, by decide +kernel⟩
abbrev s_shown : Stmt := topS 16
abbrev N_shown : List Str := ["book", "level", "found", "ban", "pair"]
theorem sc_shown : FnScope N_shown ["book"] (defScope s_shown) := ⟨rfl, rfl, rfl, by decide +kernel, rfl, by decide +kernel, by decide +kernel⟩
abbrev s_figure_in : Stmt := topS 17
abbrev N_figure_in : List Str := ["word"]
theorem sc_figure_in : FnScope N_figure_in ["word"] (defScope s_figure_in) := ⟨rfl, rfl, rfl, by decide +kernel, rfl, by decide +kernel, by decide +kernel⟩
abbrev s_pair_in : Stmt := topS 18
abbrev N_pair_in : List Str := ["word", "parts"]
theorem sc_pair_in : FnScope N_pair_in ["word"] (defScope s_pair_in) := ⟨rfl, rfl, rfl, by decide +kernel, rfl, by decide +kernel, by decide +kernel⟩
abbrev s_read : Stmt := topS 19
abbrev N_read : List Str := ["text", "line", "lines", "bans", "word", "found"]
theorem sc_read : FnScope N_read ["text"] (defScope s_read) := ⟨rfl, rfl, rfl, by decide +kernel, rfl, by decide +kernel, by decide +kernel⟩
abbrev s_l_cell : Stmt := topS 21
abbrev N_l_cell : List Str := ["_law_script", "_law_k"]
theorem sc_l_cell : FnScope N_l_cell ["_law_script", "_law_k"] (defScope s_l_cell) := ⟨rfl, rfl, rfl, by decide +kernel, rfl, by decide +kernel, by decide +kernel⟩
abbrev s_l_mix : Stmt := topS 22
abbrev N_l_mix : List Str := ["_law_cell_here", "_law_prime", "_law_many"]
theorem sc_l_mix : FnScope N_l_mix ["_law_cell_here", "_law_prime", "_law_many"] (defScope s_l_mix) := ⟨rfl, rfl, rfl, by decide +kernel, rfl, by decide +kernel, by decide +kernel⟩
abbrev s_l_book : Stmt := topS 23
abbrev N_l_book : List Str := ["_law_script", "_law_at", "_law_cell_here", "_law_many", "_law_levels", "_law_k", "_law_most", "_law_bans", "_law_seed", "_law_thing", "_law_things"]
theorem sc_l_book : FnScope N_l_book ["_law_script", "_law_at"] (defScope s_l_book) := ⟨rfl, rfl, rfl, by decide +kernel, rfl, by decide +kernel, by decide +kernel⟩
abbrev s_l_refused : Stmt := topS 24
abbrev N_l_refused : List Str := ["_law_text"]
theorem sc_l_refused : FnScope N_l_refused ["_law_text"] (defScope s_l_refused) := ⟨rfl, rfl, rfl, by decide +kernel, rfl, by decide +kernel, by decide +kernel⟩
abbrev s_l_by_base : Stmt := topS 25
abbrev N_l_by_base : List Str := ["_law_text", "e"]
theorem sc_l_by_base : FnScope N_l_by_base ["_law_text"] (defScope s_l_by_base) := ⟨rfl, rfl, rfl, by decide +kernel, rfl, by decide +kernel, by decide +kernel⟩
abbrev s_l_bad : Stmt := topS 26
abbrev N_l_bad : List Str := ["_law_script", "_law_text", "_law_spot", "_law_way", "_law_some"]
theorem sc_l_bad : FnScope N_l_bad ["_law_script", "_law_text"] (defScope s_l_bad) := ⟨rfl, rfl, rfl, by decide +kernel, rfl, by decide +kernel, by decide +kernel⟩
abbrev s_law : Stmt := topS 27
abbrev N_law : List Str := ["_law_script", "_law_book_here", "_law_text", "_law_level", "_law_due", "_law_ban", "_law_thing", "_law_setting", "_law_bad_here", "_law_found"]
theorem sc_law : FnScope N_law ["_law_script"] (defScope s_law) := ⟨rfl, rfl, rfl, by decide +kernel, rfl, by decide +kernel, by decide +kernel⟩
structure Names (K : PySem.W.Frag) (mg : Str → Option Value) : Prop where
  n_ValueError : mg "ValueError" = none
  n_bool : mg "bool" = none
  n_int : mg "int" = none
  n_isinstance : mg "isinstance" = none
  n_len : mg "len" = none
  n_range : mg "range" = none
  n_str : mg "str" = none
  n_tuple : mg "tuple" = none
  k_FIGURES : ∃ t, mg "FIGURES" = some (.str (Str.ofString "0123456789") t)
  k_MOST_BANS : ∃ t, mg "MOST_BANS" = some (.int 12 t)
  k_MOST_ROWS : ∃ t, mg "MOST_ROWS" = some (.int 400 t)
  k_MOST_SETTINGS : ∃ t, mg "MOST_SETTINGS" = some (.int 4 t)
  k_MOST_THINGS : ∃ t, mg "MOST_THINGS" = some (.int 6 t)
  ex : ExK K mg ns
structure Defs (K : PySem.W.Frag) (mg : Str → Option Value) : Prop where
  d_is_within : Std K mg "is_within" s_is_within ["thing", "low", "high"]
  d_is_meeting : Std K mg "is_meeting" s_is_meeting ["levels", "thing", "least", "most"]
  d_rows_in : Std K mg "rows_in" s_rows_in ["levels"]
  d_is_book : Std K mg "is_book" s_is_book ["thing"]
  d_checked : Std K mg "checked" s_checked ["book"]
  d_shown : Std K mg "shown" s_shown ["book"]
  d_figure_in : Std K mg "figure_in" s_figure_in ["word"]
  d_pair_in : Std K mg "pair_in" s_pair_in ["word"]
  d_read : Std K mg "read" s_read ["text"]
  d_l_cell : Std K mg "_law_cell" s_l_cell ["_law_script", "_law_k"]
  d_l_mix : Std K mg "_law_mix" s_l_mix ["_law_cell_here", "_law_prime", "_law_many"]
  d_l_book : Std K mg "_law_book" s_l_book ["_law_script", "_law_at"]
  d_l_refused : Std K mg "_law_refused" s_l_refused ["_law_text"]
  d_l_by_base : Std K mg "_law_by_base" s_l_by_base ["_law_text"]
  d_l_bad : Std K mg "_law_bad" s_l_bad ["_law_script", "_law_text"]
  d_law : Std K mg "law" s_law ["_law_script"]
section
variable [Wd] {P : Program} {w : World} {K : PySem.W.Frag} {mg : Str → Option Value} {base : Heap}
theorem D_is_within (hw0 : Wd.w = w) (T : Names K mg) (F : Std K mg "is_within" s_is_within ["thing", "low", "high"]) : DefD P w K mg base (zOf K ns) 1 "is_within" ["thing", "low", "high"] DM.f_is_within :=
  def_D hw0 F sc_is_within fun f cdv A' outer s H E A hZ hn hw hr tk =>
    (ss_one (s_ret (d_and (d_isi T.n_isinstance (b_v 0) (pe_bltn (by rfl) T.n_int (by decide +kernel) rfl)) (d_and (d_not (b_d (d_isi T.n_isinstance (b_v 0) (pe_bltn (by rfl) T.n_bool (by decide +kernel) rfl)))) (d_one (d_chain o_le o_le (b_v 1) (b_v 0) (b_v 2)))))))
theorem D_is_meeting (hw0 : Wd.w = w) (T : Names K mg) (F : Std K mg "is_meeting" s_is_meeting ["levels", "thing", "least", "most"]) (c_is_within : DefD P w K mg base (zOf K ns) 1 "is_within" ["thing", "low", "high"] DM.f_is_within) : DefD P w K mg base (zOf K ns) 2 "is_meeting" ["levels", "thing", "least", "most"] DM.f_is_meeting :=
  def_D hw0 F sc_is_meeting fun f cdv A' outer s H E A hZ hn hw hr tk =>
    (ss_cons (s_if (PW.pt (t_or (t_not (t_val (b_d (d_isi T.n_isinstance (b_v 1) (pe_bltn (by rfl) T.n_tuple (by decide +kernel) rfl))))) (t_or1 (t_not (t_chain o_le o_le (b_v 2) (b_d (d_callB c_len (by rfl) T.n_len (by decide +kernel) (bs_cons (b_v 1) bs_nil))) (b_v 3)))))) (ss_one (s_ret d_bl)) ss_nil)
    (ss_cons (s_set 4 sc_is_meeting.nd (d_neg (b_d d_int)))
    (ss_cons (s_for (passes_of rfl) rfl (i_seqF (d_v 1)) (pg_name (i := 5) sc_is_meeting.nd rfl (by first | exact Or.inl rfl | exact Or.inr rfl)) tgs_name (ss_cons (s_if (PW.pt (t_or (t_not (t_val (b_d (d_isi T.n_isinstance (b_v 5) (pe_bltn (by rfl) T.n_tuple (by decide +kernel) rfl))))) (t_or (t_cmp (o_ne (r64 hr)) (b_d (d_callB c_len (by rfl) T.n_len (by decide +kernel) (bs_cons (b_v 5) bs_nil))) (b_d d_int) (nomark _)) (t_or1 (t_not (t_val (b_d (d_call (c_is_within.z hZ) tk (hr.mono (by omega)) (as_cons (d_ix o_ix (b_v 5) (b_d d_int) (fun _ _ => rfl)) (as_cons (d_op o_add (b_v 4) (b_d d_int)) (as_cons (d_op o_sub (b_d (d_callB c_len (by rfl) T.n_len (by decide +kernel) (bs_cons (b_v 0) bs_nil))) (b_d d_int)) as_nil))))))))))) (ss_one (s_ret d_bl)) ss_nil)
    (ss_cons (s_if (t_not (t_val (b_d (d_call (c_is_within.z hZ) tk (hr.mono (by omega)) (as_cons (d_ix o_ix (b_v 5) (b_d d_int) (fun _ _ => rfl)) (as_cons d_int (as_cons (d_op o_sub (b_d (d_ix o_ix (b_v 0) (b_d (d_ix o_ix (b_v 5) (b_d d_int) (fun _ _ => rfl))) (fun _ _ => rfl))) (b_d d_int)) as_nil))))))) (ss_one (s_ret d_bl)) ss_nil)
    (ss_one (s_set 4 sc_is_meeting.nd (d_ix o_ix (b_v 5) (b_d d_int) (fun _ _ => rfl)))))))
    (ss_one (s_ret d_bl)))))
theorem D_rows_in (hw0 : Wd.w = w) (T : Names K mg) (F : Std K mg "rows_in" s_rows_in ["levels"]) : DefD P w K mg base (zOf K ns) 1 "rows_in" ["levels"] DM.f_rows_in :=
  def_D hw0 F sc_rows_in fun f cdv A' outer s H E A hZ hn hw hr tk =>
    (ss_cons (s_set 1 sc_rows_in.nd d_int)
    (ss_cons (s_for (passes_of rfl) rfl (i_seqF (d_v 0)) (pg_name (i := 2) sc_rows_in.nd rfl (by first | exact Or.inl rfl | exact Or.inr rfl)) tgs_name (ss_one (s_set 1 sc_rows_in.nd (d_op o_mul (b_v 1) (b_v 2)))))
    (ss_one (s_ret (d_v 1)))))
theorem D_is_book (hw0 : Wd.w = w) (T : Names K mg) (F : Std K mg "is_book" s_is_book ["thing"]) (c_is_within : DefD P w K mg base (zOf K ns) 1 "is_within" ["thing", "low", "high"] DM.f_is_within) (c_rows_in : DefD P w K mg base (zOf K ns) 1 "rows_in" ["levels"] DM.f_rows_in) (c_is_meeting : DefD P w K mg base (zOf K ns) 2 "is_meeting" ["levels", "thing", "least", "most"] DM.f_is_meeting) : DefD P w K mg base (zOf K ns) 3 "is_book" ["thing"] DM.f_is_book :=
  def_D hw0 F sc_is_book fun f cdv A' outer s H E A hZ hn hw hr tk =>
    (ss_cons (s_if (PW.pt (t_or (t_not (t_val (b_d (d_isi T.n_isinstance (b_v 0) (pe_bltn (by rfl) T.n_tuple (by decide +kernel) rfl))))) (t_or (t_cmp (o_ne (r64 hr)) (b_d (d_callB c_len (by rfl) T.n_len (by decide +kernel) (bs_cons (b_v 0) bs_nil))) (b_d d_int) (nomark _)) (t_or1 (t_not (t_val (b_d (d_isi T.n_isinstance (b_d (d_ix o_ix (b_v 0) (b_d d_int) (fun _ _ => rfl))) (pe_bltn (by rfl) T.n_tuple (by decide +kernel) rfl))))))))) (ss_one (s_ret d_bl)) ss_nil)
    (ss_cons (s_tgt (d_v 0) (pg_tup rfl (pgs_cons (pg_name (i := 1) sc_is_book.nd rfl (by first | exact Or.inl rfl | exact Or.inr rfl)) (pgs_cons (pg_name (i := 2) sc_is_book.nd rfl (by first | exact Or.inl rfl | exact Or.inr rfl)) pgs_nil))) tgs_pair)
    (ss_cons (s_if (PW.pt (t_or (t_not (t_chain o_le o_le (b_d d_int) (b_d (d_callB c_len (by rfl) T.n_len (by decide +kernel) (bs_cons (b_v 1) bs_nil))) (b_d (d_kint T.k_MOST_THINGS)))) (t_or1 (t_val (b_d (d_o (o_lc (own := [("level", 3)]) rfl sc_is_book.nd (i_seq (b_v 1)) (blkOk_by (own := [("level", 3)]) (N := N_is_book) (sc := defScope s_is_book) (by decide +kernel)) (fun _ _ _ _ _ => (pg_name (i := 3) sc_is_book.nd rfl (by first | exact Or.inl rfl | exact Or.inr rfl))) tgs_name (fun _ _ _ _ _ => (ts_one (t_not (t_val (b_d (d_call (c_is_within.z hZ) takesW (hr.mono (by omega)) (as_cons (d_v 3) (as_cons d_int (as_cons (d_kint T.k_MOST_SETTINGS) as_nil))))))))) (fun _ _ _ _ _ => (d_v 3))))))))) (ss_one (s_ret d_bl)) ss_nil)
    (ss_cons (s_if (PW.pt (t_or (t_cmp o_gt (b_d (d_call (c_rows_in.z hZ) tk (hr.mono (by omega)) (as_cons (d_v 1) as_nil))) (b_d (d_kint T.k_MOST_ROWS)) (nomark _)) (t_or (t_not (t_val (b_d (d_isi T.n_isinstance (b_v 2) (pe_bltn (by rfl) T.n_tuple (by decide +kernel) rfl))))) (t_or1 (t_cmp o_gt (b_d (d_callB c_len (by rfl) T.n_len (by decide +kernel) (bs_cons (b_v 2) bs_nil))) (b_d (d_kint T.k_MOST_BANS)) (nomark _)))))) (ss_one (s_ret d_bl)) ss_nil)
    (ss_one (s_ret (d_not (b_d (d_o (o_lc (own := [("ban", 4)]) rfl sc_is_book.nd (i_seq (b_v 2)) (blkOk_by (own := [("ban", 4)]) (N := N_is_book) (sc := defScope s_is_book) (by decide +kernel)) (fun _ _ _ _ _ => (pg_name (i := 4) sc_is_book.nd rfl (by first | exact Or.inl rfl | exact Or.inr rfl))) tgs_name (fun _ _ _ _ _ => (ts_one (t_not (t_val (b_d (d_call (c_is_meeting.z hZ) takesW (hr.mono (by omega)) (as_cons (d_v 1) (as_cons (d_v 4) (as_cons d_int (as_cons d_int as_nil)))))))))) (fun _ _ _ _ _ => (d_v 4))))))))))))
theorem D_checked (hw0 : Wd.w = w) (T : Names K mg) (F : Std K mg "checked" s_checked ["book"]) (c_is_book : DefD P w K mg base (zOf K ns) 3 "is_book" ["thing"] DM.f_is_book) : DefD P w K mg base (zOf K ns) 4 "checked" ["book"] DM.f_checked :=
  def_D hw0 F sc_checked fun f cdv A' outer s H E A hZ hn hw hr tk =>
    (ss_cons (s_if (t_not (t_val (b_d (d_call (c_is_book.z hZ) tk (hr.mono (by omega)) (as_cons (d_v 0) as_nil))))) (ss_one (s_raise "BadBook" rfl tk T.ex hZ)) ss_nil)
    (ss_one (s_ret (d_v 0))))
theorem D_shown (hw0 : Wd.w = w) (T : Names K mg) (F : Std K mg "shown" s_shown ["book"]) (c_checked : DefD P w K mg base (zOf K ns) 4 "checked" ["book"] DM.f_checked) : DefD P w K mg base (zOf K ns) 5 "shown" ["book"] DM.f_shown :=
  def_D hw0 F sc_shown fun f cdv A' outer s H E A hZ hn hw hr tk =>
    (ss_cons (s_drop (d_call (c_checked.z hZ) tk (hr.mono (by omega)) (as_cons (d_v 0) as_nil)))
    (ss_cons (s_set 2 sc_shown.nd (d_op o_add (b_d (d_join (b_d d_str) (b_d (d_op o_add (b_d (d_o (o_lst (as_cons d_str as_nil)))) (b_d (d_o (o_lc (own := [("level", 1)]) rfl sc_shown.nd (i_seq (b_d (d_ix o_ix (b_v 0) (b_d d_int) (fun _ _ => rfl)))) (blkOk_by (own := [("level", 1)]) (N := N_shown) (sc := defScope s_shown) (by decide +kernel)) (fun _ _ _ _ _ => (pg_name (i := 1) sc_shown.nd rfl (by first | exact Or.inl rfl | exact Or.inr rfl))) tgs_name (fun _ _ _ _ _ => ts_nil) (fun _ _ _ _ _ => (d_callTy c_str (by rfl) T.n_str (by decide +kernel) (bs_cons (b_v 1) bs_nil)))))))))) (b_d d_str)))
    (ss_cons (s_for (passes_of rfl) rfl (i_seqF (d_ix o_ix (b_v 0) (b_d d_int) (fun _ _ => rfl))) (pg_name (i := 3) sc_shown.nd rfl (by first | exact Or.inl rfl | exact Or.inr rfl)) tgs_name (ss_one (s_set 2 sc_shown.nd (d_op o_add (b_d (d_op o_add (b_v 2) (b_d (d_join (b_d d_str) (b_d (d_op o_add (b_d (d_o (o_lst (as_cons d_str as_nil)))) (b_d (d_o (o_lc (own := [("pair", 4)]) rfl sc_shown.nd (i_seq (b_v 3)) (blkOk_by (own := [("pair", 4)]) (N := N_shown) (sc := defScope s_shown) (by decide +kernel)) (fun _ _ _ _ _ => (pg_name (i := 4) sc_shown.nd rfl (by first | exact Or.inl rfl | exact Or.inr rfl))) tgs_name (fun _ _ _ _ _ => ts_nil) (fun _ _ _ _ _ => (d_op o_add (b_d (d_op o_add (b_d (d_callTy c_str (by rfl) T.n_str (by decide +kernel) (bs_cons (b_d (d_ix o_ix (b_v 4) (b_d d_int) (fun _ _ => rfl))) bs_nil))) (b_d d_str))) (b_d (d_callTy c_str (by rfl) T.n_str (by decide +kernel) (bs_cons (b_d (d_ix o_ix (b_v 4) (b_d d_int) (fun _ _ => rfl))) bs_nil)))))))))))))) (b_d d_str)))))
    (ss_one (s_ret (d_v 2))))))
theorem D_figure_in (hw0 : Wd.w = w) (T : Names K mg) (F : Std K mg "figure_in" s_figure_in ["word"]) : DefD P w K mg base (zOf K ns) 1 "figure_in" ["word"] DM.f_figure_in :=
  def_D hw0 F sc_figure_in fun f cdv A' outer s H E A hZ hn hw hr tk =>
    (ss_cons (s_if (PW.pt (t_or (t_cmp (o_ne (r64 hr)) (b_d (d_callB c_len (by rfl) T.n_len (by decide +kernel) (bs_cons (b_v 0) bs_nil))) (b_d d_int) (nomark _)) (t_or1 (t_cmp o_notInS (b_v 0) (b_d (d_kstr T.k_FIGURES)) (by with_unfolding_all rfl))))) (ss_one (s_raise "BadText" rfl tk T.ex hZ)) ss_nil)
    (ss_one (s_ret (d_idxS (b_d (d_kstr T.k_FIGURES)) (b_v 0)))))
theorem D_pair_in (hw0 : Wd.w = w) (T : Names K mg) (F : Std K mg "pair_in" s_pair_in ["word"]) (c_figure_in : DefD P w K mg base (zOf K ns) 1 "figure_in" ["word"] DM.f_figure_in) : DefD P w K mg base (zOf K ns) 2 "pair_in" ["word"] DM.f_pair_in :=
  def_D hw0 F sc_pair_in fun f cdv A' outer s H E A hZ hn hw hr tk =>
    (ss_cons (s_set 1 sc_pair_in.nd (d_split (b_v 0) (b_d d_str)))
    (ss_cons (s_if (t_cmp (o_ne (r64 hr)) (b_d (d_callB c_len (by rfl) T.n_len (by decide +kernel) (bs_cons (b_v 1) bs_nil))) (b_d d_int) (nomark _)) (ss_one (s_raise "BadText" rfl tk T.ex hZ)) ss_nil)
    (ss_one (s_ret (d_tup (as_cons (d_call (c_figure_in.z hZ) tk (hr.mono (by omega)) (as_cons (d_ix o_ix (b_v 1) (b_d d_int) (fun _ _ => rfl)) as_nil)) (as_cons (d_call (c_figure_in.z hZ) tk (hr.mono (by omega)) (as_cons (d_ix o_ix (b_v 1) (b_d d_int) (fun _ _ => rfl)) as_nil)) as_nil)))))))
theorem D_read (hw0 : Wd.w = w) (T : Names K mg) (F : Std K mg "read" s_read ["text"]) (c_pair_in : DefD P w K mg base (zOf K ns) 2 "pair_in" ["word"] DM.f_pair_in) (c_figure_in : DefD P w K mg base (zOf K ns) 1 "figure_in" ["word"] DM.f_figure_in) (c_is_book : DefD P w K mg base (zOf K ns) 3 "is_book" ["thing"] DM.f_is_book) : DefD P w K mg base (zOf K ns) 4 "read" ["text"] DM.f_read :=
  def_D hw0 F sc_read fun f cdv A' outer s H E A hZ hn hw hr tk =>
    (ss_cons (s_if (t_not (t_val (b_d (d_isi T.n_isinstance (b_v 0) (pe_bltn (by rfl) T.n_str (by decide +kernel) rfl))))) (ss_one (s_raise "BadText" rfl tk T.ex hZ)) ss_nil)
    (ss_cons (s_setLc 2 (own := [("line", 1)]) rfl sc_read.nd (sw_true rfl rfl rfl (by decide +kernel)) (i_seq (b_d (d_split (b_v 0) (b_d d_str)))) (blkOk_by (own := [("line", 1)]) (N := N_read) (sc := defScope s_read) (by decide +kernel)) (fun _ _ _ _ _ => (pg_name (i := 1) sc_read.nd rfl (by first | exact Or.inl rfl | exact Or.inr rfl))) tgs_name (fun _ _ _ _ _ => ts_nil) (fun _ _ _ _ _ => (d_split (b_v 1) (b_d d_str))))
    (ss_cons (s_if (PW.pt (t_or (t_cmp o_lt (b_d (d_callB c_len (by rfl) T.n_len (by decide +kernel) (bs_cons (b_v 2) bs_nil))) (b_d d_int) (nomark _)) (t_or (t_cmp (o_ne (r64 hr)) (b_d (d_ix o_ix (b_v 2) (b_d (d_neg (b_d d_int))) (fun _ _ => rfl))) (b_d (d_o (o_lst (as_cons d_str as_nil)))) (nomark _)) (t_or1 (t_cmp (o_ne (r64 hr)) (b_d (d_ix o_ix (b_d (d_ix o_ix (b_v 2) (b_d d_int) (fun _ _ => rfl))) (b_d d_int) (fun _ _ => rfl))) (b_d d_str) (nomark _)))))) (ss_one (s_raise "BadText" rfl tk T.ex hZ)) ss_nil)
    (ss_cons (s_setO 3 sc_read.nd (o_lst as_nil))
    (ss_cons (s_for (passes_of rfl) rfl (i_seqF (d_slice s_any (b_v 2) (p_some (b_d d_int)) (p_some (b_d (d_neg (b_d d_int)))))) (pg_name (i := 1) sc_read.nd rfl (by first | exact Or.inl rfl | exact Or.inr rfl)) tgs_name (ss_cons (s_if (t_cmp (o_ne (r64 hr)) (b_d (d_ix o_ix (b_v 1) (b_d d_int) (fun _ _ => rfl))) (b_d d_str) (nomark _)) (ss_one (s_raise "BadText" rfl tk T.ex hZ)) ss_nil)
    (ss_one (s_append 3 (d_callTy c_tuple (by rfl) T.n_tuple (by decide +kernel) (bs_cons (b_d (d_o (o_lcX (own := [("word", 4)]) tk rfl rfl rfl sc_read.nd (i_seq (b_d (d_slice s_any (b_v 1) (p_some (b_d d_int)) p_none))) (blkOk_by (own := [("word", 4)]) (N := N_read) (sc := defScope s_read) (by decide +kernel)) (fun _ _ _ _ _ _ => (pg_name (i := 4) sc_read.nd rfl (by first | exact Or.inl rfl | exact Or.inr rfl))) tgs_name (fun _ _ _ _ _ _ => ts_nil) (fun _ _ _ _ _ _ _ tkx => (d_call (c_pair_in.z hZ) tkx (hr.mono (by omega)) (as_cons (d_v 4) as_nil)))))) bs_nil))))))
    (ss_cons (s_set 5 sc_read.nd (d_tup (as_cons (d_callTy c_tuple (by rfl) T.n_tuple (by decide +kernel) (bs_cons (b_d (d_o (o_lcX (own := [("word", 4)]) tk rfl rfl rfl sc_read.nd (i_seq (b_d (d_slice s_any (b_d (d_ix o_ix (b_v 2) (b_d d_int) (fun _ _ => rfl))) (p_some (b_d d_int)) p_none))) (blkOk_by (own := [("word", 4)]) (N := N_read) (sc := defScope s_read) (by decide +kernel)) (fun _ _ _ _ _ _ => (pg_name (i := 4) sc_read.nd rfl (by first | exact Or.inl rfl | exact Or.inr rfl))) tgs_name (fun _ _ _ _ _ _ => ts_nil) (fun _ _ _ _ _ _ _ tkx => (d_call (c_figure_in.z hZ) tkx (hr.mono (by omega)) (as_cons (d_v 4) as_nil)))))) bs_nil)) (as_cons (d_callTy c_tuple (by rfl) T.n_tuple (by decide +kernel) (bs_cons (b_v 3) bs_nil)) as_nil))))
    (ss_cons (s_if (t_not (t_val (b_d (d_call (c_is_book.z hZ) tk (hr.mono (by omega)) (as_cons (d_v 5) as_nil))))) (ss_one (s_raise "BadText" rfl tk T.ex hZ)) ss_nil)
    (ss_one (s_ret (d_v 5))))))))))
theorem D_l_cell (hw0 : Wd.w = w) (T : Names K mg) (F : Std K mg "_law_cell" s_l_cell ["_law_script", "_law_k"]) : DefD P w K mg base (zOf K ns) 1 "_law_cell" ["_law_script", "_law_k"] DM.f_l_cell :=
  def_D hw0 F sc_l_cell fun f cdv A' outer s H E A hZ hn hw hr tk =>
    (ss_cons (s_if (t_cmp o_lt (b_v 1) (b_d (d_callB c_len (by rfl) T.n_len (by decide +kernel) (bs_cons (b_v 0) bs_nil))) (nomark _)) (ss_one (s_ret (d_ix o_ix (b_v 0) (b_v 1) (fun _ _ => rfl)))) ss_nil)
    (ss_one (s_ret d_int)))
theorem D_l_mix (hw0 : Wd.w = w) (T : Names K mg) (F : Std K mg "_law_mix" s_l_mix ["_law_cell_here", "_law_prime", "_law_many"]) : DefD P w K mg base (zOf K ns) 1 "_law_mix" ["_law_cell_here", "_law_prime", "_law_many"] DM.f_l_mix :=
  def_D hw0 F sc_l_mix fun f cdv A' outer s H E A hZ hn hw hr tk =>
    (ss_one (s_ret (d_op o_mod (b_d (d_op o_mod (b_d (d_op o_mul (b_v 0) (b_d d_int))) (b_v 1))) (b_v 2))))
theorem D_l_book (hw0 : Wd.w = w) (T : Names K mg) (F : Std K mg "_law_book" s_l_book ["_law_script", "_law_at"]) (c_l_cell : DefD P w K mg base (zOf K ns) 1 "_law_cell" ["_law_script", "_law_k"] DM.f_l_cell) (c_l_mix : DefD P w K mg base (zOf K ns) 1 "_law_mix" ["_law_cell_here", "_law_prime", "_law_many"] DM.f_l_mix) : DefD P w K mg base (zOf K ns) 2 "_law_book" ["_law_script", "_law_at"] DM.f_l_book :=
  def_D hw0 F sc_l_book fun f cdv A' outer s H E A hZ hn hw hr tk =>
    (ss_cons (s_set 2 sc_l_book.nd (d_call (c_l_cell.z hZ) tk (hr.mono (by omega)) (as_cons (d_v 0) (as_cons (d_v 1) as_nil))))
    (ss_cons (s_set 3 sc_l_book.nd (d_op o_add (b_d d_int) (b_d (d_call (c_l_mix.z hZ) tk (hr.mono (by omega)) (as_cons (d_v 2) (as_cons d_int (as_cons d_int as_nil)))))))
    (ss_cons (s_setO 4 sc_l_book.nd (o_lst as_nil))
    (ss_cons (s_for (passes_of rfl) rfl (i_rng1 T.n_range (bs_cons (b_v 3) bs_nil)) (pg_name (i := 5) sc_l_book.nd rfl (by first | exact Or.inl rfl | exact Or.inr rfl)) tgs_name (ss_cons (s_set 6 sc_l_book.nd d_int)
    (ss_cons (s_if (PW.pt (t_or (t_cmp o_lt (b_v 5) (b_d d_int) (nomark _)) (t_or1 (t_cmp o_gt (b_d (d_callB c_len (by rfl) T.n_len (by decide +kernel) (bs_cons (b_v 0) bs_nil))) (b_d d_int) (nomark _))))) (ss_one (s_set 6 sc_l_book.nd d_int)) ss_nil)
    (ss_one (s_append 4 (d_op o_add (b_d d_int) (b_d (d_call (c_l_mix.z hZ) tk (hr.mono (by omega)) (as_cons (d_op o_add (b_d (d_op o_add (b_d (d_call (c_l_cell.z hZ) tk (hr.mono (by omega)) (as_cons (d_v 0) (as_cons (d_op o_add (b_v 1) (b_d d_int)) as_nil)))) (b_d (d_op o_mul (b_d (d_op o_mul (b_d d_int) (b_v 5))) (b_v 5))))) (b_v 5)) (as_cons d_int (as_cons (d_v 6) as_nil)))))))))))
    (ss_cons (s_setO 7 sc_l_book.nd (o_lst as_nil))
    (ss_cons (s_for (passes_of rfl) rfl (i_rng1 T.n_range (bs_cons (b_d (d_call (c_l_mix.z hZ) tk (hr.mono (by omega)) (as_cons (d_v 2) (as_cons d_int (as_cons d_int as_nil))))) bs_nil)) (pg_name (i := 5) sc_l_book.nd rfl (by first | exact Or.inl rfl | exact Or.inr rfl)) tgs_name (ss_cons (s_set 8 sc_l_book.nd (d_op o_add (b_d (d_op o_add (b_d (d_call (c_l_cell.z hZ) tk (hr.mono (by omega)) (as_cons (d_v 0) (as_cons (d_op o_add (b_v 1) (b_d d_int)) as_nil)))) (b_d (d_op o_mul (b_d (d_op o_mul (b_d d_int) (b_v 5))) (b_v 5))))) (b_d (d_op o_mul (b_d d_int) (b_v 5)))))
    (ss_cons (s_set 10 sc_l_book.nd (d_slice s_any (b_d (d_o (o_lc (own := [("_law_thing", 9)]) rfl sc_l_book.nd (ih_f (i_rng1 T.n_range (bs_cons (b_v 3) bs_nil))) (blkOk_by (own := [("_law_thing", 9)]) (N := N_l_book) (sc := defScope s_l_book) (by decide +kernel)) (fun _ _ _ _ _ => (pg_name (i := 9) sc_l_book.nd rfl (by first | exact Or.inl rfl | exact Or.inr rfl))) tgs_name (fun _ _ _ _ _ => (ts_one (t_cmp (o_eq (r64 hr)) (b_d (d_call (c_l_mix.z hZ) takesW (hr.mono (by omega)) (as_cons (d_op o_add (b_v 8) (b_d (d_op o_mul (b_d d_int) (b_v 9)))) (as_cons d_int (as_cons d_int as_nil))))) (b_d d_int) (nomark _)))) (fun _ _ _ _ _ => (d_v 9))))) p_none (p_some (b_d d_int))))
    (ss_cons (s_if (t_cmp (o_eq (r64 hr)) (b_v 10) (b_d (d_o (o_lst as_nil))) (nomark _)) (ss_one (s_set 10 sc_l_book.nd (d_o (o_lst (as_cons (d_call (c_l_mix.z hZ) tk (hr.mono (by omega)) (as_cons (d_v 8) (as_cons d_int (as_cons (d_v 3) as_nil)))) as_nil))))) ss_nil)
    (ss_one (s_append 7 (d_callTy c_tuple (by rfl) T.n_tuple (by decide +kernel) (bs_cons (b_d (d_o (o_lc (own := [("_law_thing", 9)]) rfl sc_l_book.nd (i_seq (b_v 10)) (blkOk_by (own := [("_law_thing", 9)]) (N := N_l_book) (sc := defScope s_l_book) (by decide +kernel)) (fun _ _ _ _ _ => (pg_name (i := 9) sc_l_book.nd rfl (by first | exact Or.inl rfl | exact Or.inr rfl))) tgs_name (fun _ _ _ _ _ => ts_nil) (fun _ _ _ _ _ => (d_tup (as_cons (d_v 9) (as_cons (d_call (c_l_mix.z hZ) takesW (hr.mono (by omega)) (as_cons (d_op o_add (b_v 8) (b_d (d_op o_mul (b_d d_int) (b_v 9)))) (as_cons d_int (as_cons (d_ix o_ix (b_v 4) (b_v 9) (fun _ _ => rfl)) as_nil)))) as_nil))))))) bs_nil))))))))
    (ss_one (s_ret (d_tup (as_cons (d_callTy c_tuple (by rfl) T.n_tuple (by decide +kernel) (bs_cons (b_v 4) bs_nil)) (as_cons (d_callTy c_tuple (by rfl) T.n_tuple (by decide +kernel) (bs_cons (b_v 7) bs_nil)) as_nil)))))))))))
theorem D_l_refused (hw0 : Wd.w = w) (T : Names K mg) (F : Std K mg "_law_refused" s_l_refused ["_law_text"]) (c_read : DefD P w K mg base (zOf K ns) 4 "read" ["text"] DM.f_read) : DefD P w K mg base (zOf K ns) 5 "_law_refused" ["_law_text"] DM.f_l_refused :=
  def_D hw0 F sc_l_refused fun f cdv A' outer s H E A hZ hn hw hr tk =>
    (ss_cons (s_tryN hn rfl rfl tk ⟨rfl, by decide, .inl (T.ex.mg "BadText" (by decide))⟩ (by rw [hZ]; exact handK_exm T.ex (by decide) _) (fun W' pn xe tk _ =>
    (ss_one (s_drop (d_call (c_read.z hZ) tk (hr.mono (by omega)) (as_cons (d_v 0) as_nil)))))
    (fun c _ a oe cls dd pn A' hz hv Su hk => by
      obtain rfl := handK_some hk
      exact (ss_one (s_ret d_bl))))
    (ss_one (s_ret d_bl)))
theorem D_l_by_base (hw0 : Wd.w = w) (T : Names K mg) (F : Std K mg "_law_by_base" s_l_by_base ["_law_text"]) (c_read : DefD P w K mg base (zOf K ns) 4 "read" ["text"] DM.f_read) : DefD P w K mg base (zOf K ns) 5 "_law_by_base" ["_law_text"] DM.f_l_by_base :=
  def_D hw0 F sc_l_by_base fun f cdv A' outer s H E A hZ hn hw hr tk =>
    (ss_cons (s_tryAs 1 hn rfl rfl sc_l_by_base.nd tk ⟨rfl, by decide, .inl (T.ex.mg "TestError" (by decide))⟩ (by rw [hZ]; exact handK_exm T.ex (by decide) _) (fun W' pn xe tk _ =>
    (ss_one (s_drop (d_call (c_read.z hZ) tk (hr.mono (by omega)) (as_cons (d_v 0) as_nil)))))
    (fun c _ a oe cls dd pn A' hz hv Su hk => by
      obtain rfl := handK_some hk
      exact (ss_one (s_ret (d_isV 1 T.ex Su hZ hz hv T.n_isinstance T.n_ValueError)))))
    (ss_one (s_ret d_bl)))
theorem D_l_bad (hw0 : Wd.w = w) (T : Names K mg) (F : Std K mg "_law_bad" s_l_bad ["_law_script", "_law_text"]) (c_l_cell : DefD P w K mg base (zOf K ns) 1 "_law_cell" ["_law_script", "_law_k"] DM.f_l_cell) : DefD P w K mg base (zOf K ns) 2 "_law_bad" ["_law_script", "_law_text"] DM.f_l_bad :=
  def_D hw0 F sc_l_bad fun f cdv A' outer s H E A hZ hn hw hr tk =>
    (ss_cons (s_set 2 sc_l_bad.nd (d_op o_mod (b_d (d_call (c_l_cell.z hZ) tk (hr.mono (by omega)) (as_cons (d_v 0) (as_cons d_int as_nil)))) (b_d (d_callB c_len (by rfl) T.n_len (by decide +kernel) (bs_cons (b_v 1) bs_nil)))))
    (ss_cons (s_set 3 sc_l_bad.nd (d_op o_mod (b_d (d_op o_div (b_d (d_call (c_l_cell.z hZ) tk (hr.mono (by omega)) (as_cons (d_v 0) (as_cons d_int as_nil)))) (b_d d_int))) (b_d d_int)))
    (ss_cons (s_if (t_cmp (o_eq (r64 hr)) (b_v 3) (b_d d_int) (nomark _)) (ss_one (s_ret (d_op o_add (b_d (d_slice s_any (b_v 1) p_none (p_some (b_v 2)))) (b_d (d_slice s_any (b_v 1) (p_some (b_d (d_op o_add (b_v 2) (b_d d_int)))) p_none))))) ss_nil)
    (ss_cons (s_if (t_cmp (o_eq (r64 hr)) (b_v 3) (b_d d_int) (nomark _)) (ss_one (s_ret (d_op o_add (b_d (d_slice s_any (b_v 1) p_none (p_some (b_d (d_op o_add (b_v 2) (b_d d_int)))))) (b_d (d_slice s_any (b_v 1) (p_some (b_v 2)) p_none))))) ss_nil)
    (ss_cons (s_if (t_cmp (o_eq (r64 hr)) (b_v 3) (b_d d_int) (nomark _)) (ss_one (s_ret (d_op o_add (b_d (d_op o_add (b_d (d_slice s_any (b_v 1) p_none (p_some (b_v 2)))) (b_d (d_ix o_ixS (b_d d_str) (b_d (d_op o_mod (b_d (d_call (c_l_cell.z hZ) tk (hr.mono (by omega)) (as_cons (d_v 0) (as_cons d_int as_nil)))) (b_d d_int))) (fun _ _ => rfl))))) (b_d (d_slice s_any (b_v 1) (p_some (b_d (d_op o_add (b_v 2) (b_d d_int)))) p_none))))) ss_nil)
    (ss_cons (s_set 4 sc_l_bad.nd (d_o (o_lst (as_cons d_str (as_cons d_str (as_cons d_str (as_cons d_str (as_cons d_str as_nil))))))))
    (ss_cons (s_set 4 sc_l_bad.nd (d_op o_add (b_v 4) (b_d (d_o (o_lst (as_cons d_str (as_cons d_str as_nil)))))))
    (ss_cons (s_set 4 sc_l_bad.nd (d_op o_add (b_v 4) (b_d (d_o (o_lst (as_cons d_str (as_cons d_str (as_cons d_non (as_cons d_int (as_cons d_str as_nil))))))))))
    (ss_one (s_ret (d_ix o_ix (b_v 4) (b_d (d_op o_mod (b_d (d_call (c_l_cell.z hZ) tk (hr.mono (by omega)) (as_cons (d_v 0) (as_cons d_int as_nil)))) (b_d d_int))) (fun _ _ => rfl))))))))))))
theorem D_law (hw0 : Wd.w = w) (T : Names K mg) (F : Std K mg "law" s_law ["_law_script"]) (c_l_book : DefD P w K mg base (zOf K ns) 2 "_law_book" ["_law_script", "_law_at"] DM.f_l_book) (c_shown : DefD P w K mg base (zOf K ns) 5 "shown" ["book"] DM.f_shown) (c_read : DefD P w K mg base (zOf K ns) 4 "read" ["text"] DM.f_read) (c_l_cell : DefD P w K mg base (zOf K ns) 1 "_law_cell" ["_law_script", "_law_k"] DM.f_l_cell) (c_checked : DefD P w K mg base (zOf K ns) 4 "checked" ["book"] DM.f_checked) (c_l_bad : DefD P w K mg base (zOf K ns) 2 "_law_bad" ["_law_script", "_law_text"] DM.f_l_bad) (c_l_refused : DefD P w K mg base (zOf K ns) 5 "_law_refused" ["_law_text"] DM.f_l_refused) (c_l_by_base : DefD P w K mg base (zOf K ns) 5 "_law_by_base" ["_law_text"] DM.f_l_by_base) : DefD P w K mg base (zOf K ns) 6 "law" ["_law_script"] DM.f_law_18 :=
  def_D hw0 F sc_law fun f cdv A' outer s H E A hZ hn hw hr tk =>
    (ss_cons (s_set 1 sc_law.nd (d_call (c_l_book.z hZ) tk (hr.mono (by omega)) (as_cons (d_v 0) (as_cons d_int as_nil))))
    (ss_cons (s_set 2 sc_law.nd (d_call (c_shown.z hZ) tk (hr.mono (by omega)) (as_cons (d_v 1) as_nil)))
    (ss_cons (s_set 4 sc_law.nd (d_op o_add (b_d (d_op o_add (b_d d_str) (b_d (d_join (b_d d_str) (b_d (d_o (o_lc (own := [("_law_level", 3)]) rfl sc_law.nd (i_seq (b_d (d_ix o_ix (b_v 1) (b_d d_int) (fun _ _ => rfl)))) (blkOk_by (own := [("_law_level", 3)]) (N := N_law) (sc := defScope s_law) (by decide +kernel)) (fun _ _ _ _ _ => (pg_name (i := 3) sc_law.nd rfl (by first | exact Or.inl rfl | exact Or.inr rfl))) tgs_name (fun _ _ _ _ _ => ts_nil) (fun _ _ _ _ _ => (d_callTy c_str (by rfl) T.n_str (by decide +kernel) (bs_cons (b_v 3) bs_nil)))))))))) (b_d d_str)))
    (ss_cons (s_for (passes_of rfl) rfl (i_seqF (d_ix o_ix (b_v 1) (b_d d_int) (fun _ _ => rfl))) (pg_name (i := 5) sc_law.nd rfl (by first | exact Or.inl rfl | exact Or.inr rfl)) tgs_name (ss_one (s_set 4 sc_law.nd (d_op o_add (b_d (d_op o_add (b_d (d_op o_add (b_v 4) (b_d d_str))) (b_d (d_join (b_d d_str) (b_d (d_o (o_lc (own := [("_law_thing", 6), ("_law_setting", 7)]) rfl sc_law.nd (i_seq (b_v 5)) (blkOk_by (own := [("_law_thing", 6), ("_law_setting", 7)]) (N := N_law) (sc := defScope s_law) (by decide +kernel)) (fun _ _ _ _ _ => (pg_tup rfl (pgs_cons (pg_name (i := 6) sc_law.nd rfl (by first | exact Or.inl rfl | exact Or.inr rfl)) (pgs_cons (pg_name (i := 7) sc_law.nd rfl (by first | exact Or.inl rfl | exact Or.inr rfl)) pgs_nil)))) tgs_pair (fun _ _ _ _ _ => ts_nil) (fun _ _ _ _ _ => (d_op o_add (b_d (d_op o_add (b_d (d_callTy c_str (by rfl) T.n_str (by decide +kernel) (bs_cons (b_v 6) bs_nil))) (b_d d_str))) (b_d (d_callTy c_str (by rfl) T.n_str (by decide +kernel) (bs_cons (b_v 7) bs_nil)))))))))))) (b_d d_str)))))
    (ss_cons (s_if (PW.pt (t_or (t_not (t_val (b_d (d_isi T.n_isinstance (b_v 2) (pe_bltn (by rfl) T.n_str (by decide +kernel) rfl))))) (t_or (t_cmp (o_ne (r64 hr)) (b_v 2) (b_v 4) (nomark _)) (t_or1 (t_cmp (o_ne (r64 hr)) (b_d (d_call (c_read.z hZ) tk (hr.mono (by omega)) (as_cons (d_v 2) as_nil))) (b_v 1) (nomark _)))))) (ss_one (s_ret d_bl)) ss_nil)
    (ss_cons (s_if (t_cmp (o_eq (r64 hr)) (b_d (d_op o_mod (b_d (d_call (c_l_cell.z hZ) tk (hr.mono (by omega)) (as_cons (d_v 0) (as_cons d_int as_nil)))) (b_d d_int))) (b_d d_int) (nomark _)) (ss_one (s_ret (d_cmp (o_eq (r64 hr)) (b_d (d_call (c_checked.z hZ) tk (hr.mono (by omega)) (as_cons (d_call (c_read.z hZ) tk (hr.mono (by omega)) (as_cons (d_v 4) as_nil)) as_nil))) (b_v 1) (nomark _)))) ss_nil)
    (ss_cons (s_set 8 sc_law.nd (d_call (c_l_bad.z hZ) tk (hr.mono (by omega)) (as_cons (d_v 0) (as_cons (d_v 2) as_nil))))
    (ss_cons (s_if (t_val (b_d (d_call (c_l_refused.z hZ) tk (hr.mono (by omega)) (as_cons (d_v 8) as_nil)))) (ss_one (s_ret (d_call (c_l_by_base.z hZ) tk (hr.mono (by omega)) (as_cons (d_v 8) as_nil)))) ss_nil)
    (ss_cons (s_set 9 sc_law.nd (d_call (c_read.z hZ) tk (hr.mono (by omega)) (as_cons (d_v 8) as_nil)))
    (ss_one (s_ret (d_and (d_cmp o_lt (b_d (d_op o_mod (b_d (d_op o_div (b_d (d_call (c_l_cell.z hZ) tk (hr.mono (by omega)) (as_cons (d_v 0) (as_cons d_int as_nil)))) (b_d d_int))) (b_d d_int))) (b_d d_int) (nomark _)) (d_and (d_cmp (o_eq (r64 hr)) (b_d (d_call (c_checked.z hZ) tk (hr.mono (by omega)) (as_cons (d_v 9) as_nil))) (b_v 9) (nomark _)) (d_one (d_cmp (o_eq (r64 hr)) (b_d (d_call (c_shown.z hZ) tk (hr.mono (by omega)) (as_cons (d_v 9) as_nil))) (b_v 8) (nomark _))))))))))))))))
theorem D_all (hw0 : Wd.w = w) (T : Names K mg) (G : Defs K mg) : DefD P w K mg base (zOf K ns) 6 "law" ["_law_script"] DM.f_law_18 := by
  have c_is_within := D_is_within (P := P) (w := w) (base := base) hw0 T G.d_is_within
  have c_is_meeting := D_is_meeting (P := P) (w := w) (base := base) hw0 T G.d_is_meeting c_is_within
  have c_rows_in := D_rows_in (P := P) (w := w) (base := base) hw0 T G.d_rows_in
  have c_is_book := D_is_book (P := P) (w := w) (base := base) hw0 T G.d_is_book c_is_within c_rows_in c_is_meeting
  have c_checked := D_checked (P := P) (w := w) (base := base) hw0 T G.d_checked c_is_book
  have c_shown := D_shown (P := P) (w := w) (base := base) hw0 T G.d_shown c_checked
  have c_figure_in := D_figure_in (P := P) (w := w) (base := base) hw0 T G.d_figure_in
  have c_pair_in := D_pair_in (P := P) (w := w) (base := base) hw0 T G.d_pair_in c_figure_in
  have c_read := D_read (P := P) (w := w) (base := base) hw0 T G.d_read c_pair_in c_figure_in c_is_book
  have c_l_cell := D_l_cell (P := P) (w := w) (base := base) hw0 T G.d_l_cell
  have c_l_mix := D_l_mix (P := P) (w := w) (base := base) hw0 T G.d_l_mix
  have c_l_book := D_l_book (P := P) (w := w) (base := base) hw0 T G.d_l_book c_l_cell c_l_mix
  have c_l_refused := D_l_refused (P := P) (w := w) (base := base) hw0 T G.d_l_refused c_read
  have c_l_by_base := D_l_by_base (P := P) (w := w) (base := base) hw0 T G.d_l_by_base c_read
  have c_l_bad := D_l_bad (P := P) (w := w) (base := base) hw0 T G.d_l_bad c_l_cell
  have c_law := D_law (P := P) (w := w) (base := base) hw0 T G.d_law c_l_book c_shown c_read c_l_cell c_checked c_l_bad c_l_refused c_l_by_base
  exact c_law
end
end K18


set_option maxHeartbeats 0
namespace K18
open PySem PySem.Spec PyProof.Rows L2 DL
def d_is_within : He.DefD := ⟨("is_within", none), "is_within", "is_within", defArgs s_is_within, defBody s_is_within, defScope s_is_within, [], []⟩
def d_is_meeting : He.DefD := ⟨("is_meeting", none), "is_meeting", "is_meeting", defArgs s_is_meeting, defBody s_is_meeting, defScope s_is_meeting, [], []⟩
def d_rows_in : He.DefD := ⟨("rows_in", none), "rows_in", "rows_in", defArgs s_rows_in, defBody s_rows_in, defScope s_rows_in, [], []⟩
def d_is_book : He.DefD := ⟨("is_book", none), "is_book", "is_book", defArgs s_is_book, defBody s_is_book, defScope s_is_book, [], []⟩
def d_checked : He.DefD := ⟨("checked", none), "checked", "checked", defArgs s_checked, defBody s_checked, defScope s_checked, [], []⟩
def d_shown : He.DefD := ⟨("shown", none), "shown", "shown", defArgs s_shown, defBody s_shown, defScope s_shown, [], []⟩
def d_figure_in : He.DefD := ⟨("figure_in", none), "figure_in", "figure_in", defArgs s_figure_in, defBody s_figure_in, defScope s_figure_in, [], []⟩
def d_pair_in : He.DefD := ⟨("pair_in", none), "pair_in", "pair_in", defArgs s_pair_in, defBody s_pair_in, defScope s_pair_in, [], []⟩
def d_read : He.DefD := ⟨("read", none), "read", "read", defArgs s_read, defBody s_read, defScope s_read, [], []⟩
def d_l_cell : He.DefD := ⟨("_law_cell", none), "_law_cell", "_law_cell", defArgs s_l_cell, defBody s_l_cell, defScope s_l_cell, [], []⟩
def d_l_mix : He.DefD := ⟨("_law_mix", none), "_law_mix", "_law_mix", defArgs s_l_mix, defBody s_l_mix, defScope s_l_mix, [], []⟩
def d_l_book : He.DefD := ⟨("_law_book", none), "_law_book", "_law_book", defArgs s_l_book, defBody s_l_book, defScope s_l_book, [], []⟩
def d_l_refused : He.DefD := ⟨("_law_refused", none), "_law_refused", "_law_refused", defArgs s_l_refused, defBody s_l_refused, defScope s_l_refused, [], []⟩
def d_l_by_base : He.DefD := ⟨("_law_by_base", none), "_law_by_base", "_law_by_base", defArgs s_l_by_base, defBody s_l_by_base, defScope s_l_by_base, [], []⟩
def d_l_bad : He.DefD := ⟨("_law_bad", none), "_law_bad", "_law_bad", defArgs s_l_bad, defBody s_l_bad, defScope s_l_bad, [], []⟩
def d_law : He.DefD := ⟨("law", none), "law", "law", defArgs s_law, defBody s_law, defScope s_law, [], []⟩
def fn : List He.DefD := [d_is_within, d_is_meeting, d_rows_in, d_is_book, d_checked, d_shown, d_figure_in, d_pair_in, d_read, d_l_cell, d_l_mix, d_l_book, d_l_refused, d_l_by_base, d_l_bad, d_law]
def fa : List He.Fa := [.glo "is_within", .glo "is_meeting", .glo "rows_in", .glo "is_book", .glo "checked", .glo "shown", .glo "figure_in", .glo "pair_in", .glo "read", .glo "_law_cell", .glo "_law_mix", .glo "_law_book", .glo "_law_refused", .glo "_law_by_base", .glo "_law_bad", .glo "law", .free "ValueError", .free "bool", .free "int", .free "isinstance", .free "len", .free "range", .free "str", .free "tuple", .str "FIGURES" (Str.ofString "0123456789"), .int "MOST_BANS" 12, .int "MOST_ROWS" 400, .int "MOST_SETTINGS" 4, .int "MOST_THINGS" 6]
def ex : PySem.W.Frag → Bool := exB ns
abbrev R : PySem.W.OpenRow := PySem.W.OpenLaw.row PySem.Challenge.rw_pairtests_k18_texts
abbrev hk : PySem.W.Hook := hookL 4 fa fn ex
def ob (s : PySem.W.SharedT) : He.AlD × Bool := obsL 4 fa fn ex (HandSHeadRun.getT s)
theorem ob_eq (s : PySem.W.SharedT) : ob s = hk.obs s.abs := obsL_eq (HandSHeadRun.getT_eq s)
def loose : List Str := (["TestError", "BadBook", "BadText", "MOST_THINGS", "MOST_SETTINGS", "MOST_BANS", "MOST_ROWS", "is_within", "is_meeting", "rows_in", "is_book", "checked", "FIGURES", "shown", "figure_in", "pair_in"] : List Str) ++ (["read", "_law_cell", "_law_mix", "_law_book", "_law_refused", "_law_by_base", "_law_bad"] : List Str)
theorem run (w : World) : HandSHeadRun.RunEq R (PySem.W.view R.prog [27]) hk ob 4000 loose w := by
  intro os
  kernel_rfl
abbrev wd (w : World) (K : PySem.W.Frag) : Wd := ⟨w, 0⟩
theorem facts {P : Program} {w : World} {K : PySem.W.Frag} {h : Heap} {mg : Str → Option Value} {f : Addr} (X : K.In h) (G : h.Ns mainGlobals mg) (hfa : mg ("law" : Str) = some (.ref f)) (c : He.SaysD fa fn K) (cx : ex K = true) :
    ∃ fd : FuncData, (∀ (s : Shared) (v : Value), BindsTo s fd ⟨[v], []⟩ [("_law_script", v)]) ∧ ∀ base : Heap, K.In base → base.Ns mainGlobals mg → FnOk P w K mg base (L2.CX P w) 6 f fd ["_law_script"] (@spD (wd w K) (zOf K ns) 1 DM.f_law_18) := by
  letI : Wd := wd w K
  have T : Names K mg := ⟨He.free_ok X G (c.fact 16 (f := .free "ValueError") rfl), He.free_ok X G (c.fact 17 (f := .free "bool") rfl), He.free_ok X G (c.fact 18 (f := .free "int") rfl), He.free_ok X G (c.fact 19 (f := .free "isinstance") rfl), He.free_ok X G (c.fact 20 (f := .free "len") rfl), He.free_ok X G (c.fact 21 (f := .free "range") rfl), He.free_ok X G (c.fact 22 (f := .free "str") rfl), He.free_ok X G (c.fact 23 (f := .free "tuple") rfl), He.str_ok X G (c.fact 24 rfl), He.int_ok X G (c.fact 25 rfl), He.int_ok X G (c.fact 26 rfl), He.int_ok X G (c.fact 27 rfl), He.int_ok X G (c.fact 28 rfl), exB_ok X G cx⟩
  obtain ⟨fd_is_within, F_is_within⟩ := c.def_ 0 (d := d_is_within) rfl
  have m_is_within : mg "is_within" = _ := He.glo_ok X G (c.fact 0 (f := .glo "is_within") rfl)
  have S_is_within : Std K mg "is_within" s_is_within ["thing", "low", "high"] := std_of F_is_within m_is_within fun _ _ _ _ _ _ us hl => match us, hl with | [_, _, _], _ => rfl
  obtain ⟨fd_is_meeting, F_is_meeting⟩ := c.def_ 1 (d := d_is_meeting) rfl
  have m_is_meeting : mg "is_meeting" = _ := He.glo_ok X G (c.fact 1 (f := .glo "is_meeting") rfl)
  have S_is_meeting : Std K mg "is_meeting" s_is_meeting ["levels", "thing", "least", "most"] := std_of F_is_meeting m_is_meeting fun _ _ _ _ _ _ us hl => match us, hl with | [_, _, _, _], _ => rfl
  obtain ⟨fd_rows_in, F_rows_in⟩ := c.def_ 2 (d := d_rows_in) rfl
  have m_rows_in : mg "rows_in" = _ := He.glo_ok X G (c.fact 2 (f := .glo "rows_in") rfl)
  have S_rows_in : Std K mg "rows_in" s_rows_in ["levels"] := std_of F_rows_in m_rows_in fun _ _ _ _ _ _ us hl => match us, hl with | [_], _ => rfl
  obtain ⟨fd_is_book, F_is_book⟩ := c.def_ 3 (d := d_is_book) rfl
  have m_is_book : mg "is_book" = _ := He.glo_ok X G (c.fact 3 (f := .glo "is_book") rfl)
  have S_is_book : Std K mg "is_book" s_is_book ["thing"] := std_of F_is_book m_is_book fun _ _ _ _ _ _ us hl => match us, hl with | [_], _ => rfl
  obtain ⟨fd_checked, F_checked⟩ := c.def_ 4 (d := d_checked) rfl
  have m_checked : mg "checked" = _ := He.glo_ok X G (c.fact 4 (f := .glo "checked") rfl)
  have S_checked : Std K mg "checked" s_checked ["book"] := std_of F_checked m_checked fun _ _ _ _ _ _ us hl => match us, hl with | [_], _ => rfl
  obtain ⟨fd_shown, F_shown⟩ := c.def_ 5 (d := d_shown) rfl
  have m_shown : mg "shown" = _ := He.glo_ok X G (c.fact 5 (f := .glo "shown") rfl)
  have S_shown : Std K mg "shown" s_shown ["book"] := std_of F_shown m_shown fun _ _ _ _ _ _ us hl => match us, hl with | [_], _ => rfl
  obtain ⟨fd_figure_in, F_figure_in⟩ := c.def_ 6 (d := d_figure_in) rfl
  have m_figure_in : mg "figure_in" = _ := He.glo_ok X G (c.fact 6 (f := .glo "figure_in") rfl)
  have S_figure_in : Std K mg "figure_in" s_figure_in ["word"] := std_of F_figure_in m_figure_in fun _ _ _ _ _ _ us hl => match us, hl with | [_], _ => rfl
  obtain ⟨fd_pair_in, F_pair_in⟩ := c.def_ 7 (d := d_pair_in) rfl
  have m_pair_in : mg "pair_in" = _ := He.glo_ok X G (c.fact 7 (f := .glo "pair_in") rfl)
  have S_pair_in : Std K mg "pair_in" s_pair_in ["word"] := std_of F_pair_in m_pair_in fun _ _ _ _ _ _ us hl => match us, hl with | [_], _ => rfl
  obtain ⟨fd_read, F_read⟩ := c.def_ 8 (d := d_read) rfl
  have m_read : mg "read" = _ := He.glo_ok X G (c.fact 8 (f := .glo "read") rfl)
  have S_read : Std K mg "read" s_read ["text"] := std_of F_read m_read fun _ _ _ _ _ _ us hl => match us, hl with | [_], _ => rfl
  obtain ⟨fd_l_cell, F_l_cell⟩ := c.def_ 9 (d := d_l_cell) rfl
  have m_l_cell : mg "_law_cell" = _ := He.glo_ok X G (c.fact 9 (f := .glo "_law_cell") rfl)
  have S_l_cell : Std K mg "_law_cell" s_l_cell ["_law_script", "_law_k"] := std_of F_l_cell m_l_cell fun _ _ _ _ _ _ us hl => match us, hl with | [_, _], _ => rfl
  obtain ⟨fd_l_mix, F_l_mix⟩ := c.def_ 10 (d := d_l_mix) rfl
  have m_l_mix : mg "_law_mix" = _ := He.glo_ok X G (c.fact 10 (f := .glo "_law_mix") rfl)
  have S_l_mix : Std K mg "_law_mix" s_l_mix ["_law_cell_here", "_law_prime", "_law_many"] := std_of F_l_mix m_l_mix fun _ _ _ _ _ _ us hl => match us, hl with | [_, _, _], _ => rfl
  obtain ⟨fd_l_book, F_l_book⟩ := c.def_ 11 (d := d_l_book) rfl
  have m_l_book : mg "_law_book" = _ := He.glo_ok X G (c.fact 11 (f := .glo "_law_book") rfl)
  have S_l_book : Std K mg "_law_book" s_l_book ["_law_script", "_law_at"] := std_of F_l_book m_l_book fun _ _ _ _ _ _ us hl => match us, hl with | [_, _], _ => rfl
  obtain ⟨fd_l_refused, F_l_refused⟩ := c.def_ 12 (d := d_l_refused) rfl
  have m_l_refused : mg "_law_refused" = _ := He.glo_ok X G (c.fact 12 (f := .glo "_law_refused") rfl)
  have S_l_refused : Std K mg "_law_refused" s_l_refused ["_law_text"] := std_of F_l_refused m_l_refused fun _ _ _ _ _ _ us hl => match us, hl with | [_], _ => rfl
  obtain ⟨fd_l_by_base, F_l_by_base⟩ := c.def_ 13 (d := d_l_by_base) rfl
  have m_l_by_base : mg "_law_by_base" = _ := He.glo_ok X G (c.fact 13 (f := .glo "_law_by_base") rfl)
  have S_l_by_base : Std K mg "_law_by_base" s_l_by_base ["_law_text"] := std_of F_l_by_base m_l_by_base fun _ _ _ _ _ _ us hl => match us, hl with | [_], _ => rfl
  obtain ⟨fd_l_bad, F_l_bad⟩ := c.def_ 14 (d := d_l_bad) rfl
  have m_l_bad : mg "_law_bad" = _ := He.glo_ok X G (c.fact 14 (f := .glo "_law_bad") rfl)
  have S_l_bad : Std K mg "_law_bad" s_l_bad ["_law_script", "_law_text"] := std_of F_l_bad m_l_bad fun _ _ _ _ _ _ us hl => match us, hl with | [_, _], _ => rfl
  obtain ⟨fd_law, F_law⟩ := c.def_ 15 (d := d_law) rfl
  have m_law : mg "law" = _ := He.glo_ok X G (c.fact 15 (f := .glo "law") rfl)
  have S_law : Std K mg "law" s_law ["_law_script"] := std_of F_law m_law fun _ _ _ _ _ _ us hl => match us, hl with | [_], _ => rfl
  have D : Defs K mg := ⟨S_is_within, S_is_meeting, S_rows_in, S_is_book, S_checked, S_shown, S_figure_in, S_pair_in, S_read, S_l_cell, S_l_mix, S_l_book, S_l_refused, S_l_by_base, S_l_bad, S_law⟩
  exact law_end (st := s_law) X G hfa F_law m_law (fun _ _ _ _ _ _ us hl => match us, hl with | [_], _ => rfl) fun base _ _ => D_all rfl T D
end K18
open PySem PySem.W PySem.Calls PyProof.Rows
theorem PySem.Challenge.cw_pairtests_k18_texts_holds : PySem.Challenge.rw_pairtests_k18_texts.Holds := by
  w_on; o_law
  refine HandSHeadRun.head_any (r := OpenLaw.row PySem.Challenge.rw_pairtests_k18_texts) (q := view (OpenLaw.row PySem.Challenge.rw_pairtests_k18_texts).prog [27]) (H := K18.hk) (ob := K18.ob) (M := 4000) (loose := K18.loose) (d := HandSHeadRun.topDef (OpenLaw.row PySem.Challenge.rw_pairtests_k18_texts).prog 27) (kwd := []) K18.ob_eq
    (by kernel_rfl) (fun s => by kernel_rfl) K18.run (by kernel_rfl) (by kernel_rfl) (by kernel_rfl) (by rfl) (by first | assumption | decide +kernel) (by decide +kernel) ⟨rfl, rfl, rfl, rfl, rfl, by decide +kernel⟩ ?hw ?hc
  case hw => w_witness2
  case hc =>
    refine L2.walk_ofW (l := PySem.Challenge.rw_pairtests_k18_texts) (n := 63) (k := 6) (x := "_law_script") rfl (by decide) (by kernel_rfl) ⟨rfl, by decide, by decide⟩ ?F (fun _ _ _ _ _ z => DL.cx_false z)
    intro w mg fa h Y G hmg0
    obtain ⟨K, KX, c, cx, nl⟩ := Y
    have hmg : mg ("law" : PySem.Str) = some (.ref fa) := by
      have e : (HandSHeadRun.topDef (OpenLaw.row PySem.Challenge.rw_pairtests_k18_texts).prog 27).name = ("law" : PySem.Str) := by kernel_rfl
      rw [← e]
      exact hmg0
    obtain ⟨fd, hb, hF⟩ := K18.facts (P := (PySem.Challenge.rw_pairtests_k18_texts).prog) (w := w) KX G hmg c cx
    exact ⟨K, fd, _, KX, hb, fun H a ns hl _ hS => by letI : DL.Wd := K18.wd w K; exact DL.hsp_D nl hS hl (by decide) (K18.law_ok ns hl), hF⟩

